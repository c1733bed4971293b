import PyProof.Rows.All
import Wide.All
import OpenK.AllK
import Wide.FinOn
import HandS.ForMost
import HandS.ForExc
import HandS.TupMul
import HandS.TupAny
import HandS.Deep
import HandS.Flow
import HandS.IsInst
import HandS.ExcOwn
import HandS.Zip
import HandS.Rev
import KE.GoesMore
import KE.GoesZip
import HandS.More
import HandS.Iter
import HandS.TryOnly
import HandS.Style
import HandS.Conv
import HandS.Strs
import HandS.Defaults
import KE.KStateDown
import HandS.Head0
import HandS.Head1
import HandS.Head2
import HandS.HeadEnd
import HandS.HeadHook1
import HandS.HeadHook2
import HandS.HeadHook3
import PySem.Challenge.RW_gatesound_k21_circuits_that_feed_themsel
section
set_option Elab.async false
set_option linter.all false
set_option maxRecDepth 100000
set_option maxHeartbeats 4000000
/-! G1: data, slots, how they lie in the abstract heap. -/
namespace G
open PySem PySem.Spec PyProof.Rows L2

inductive D where
  | non | bl (b : Bool) | int (i : Int) | str (x : Str)
  | tup (xs : List D) | lst (xs : List D) | frl (xs : List D)

/-- may it be changed in place -/
def D.mt : D → Bool
  | .lst _ => true
  | _ => false

/-- a local name's slot: unset; a value; an owned list; a list of the caller's that may be changed; a borrowed list -/
inductive Sl where
  | un | fz (d : D) | ow (d : D) | io (d : D) | bw (d : D)
abbrev Ev := List Sl
def Sl.get : Sl → Option D
  | .un => none
  | .fz d | .ow d | .io d | .bw d => some d

inductive RV where
  | val (d : D) | own (d : D) | slot (i : Nat)
def RV.new : D → RV
  | .lst ds => .own (.lst ds)
  | d => .val d

structure Exn where
  c : Str
  d : Option D

inductive Res (α : Type) where
  | ok (a : α) (ρ : Ev) | ex (x : Exn) (ρ : Ev) | no
def Res.bind {α β : Type} (r : Res α) (f : α → Ev → Res β) : Res β := match r with
  | .ok a ρ => f a ρ
  | .ex x ρ => .ex x ρ
  | .no => .no

/-! ### data in the heap -/
abbrev Bs := Addr → Prop
/-- a list that stands in the written part -/
def LitL (K : PySem.W.Frag) (a : Addr) (xs : List V) : Prop :=
  ∃ (o : Obj) (its : Array Value) (n : Nat), K.lookup a = some o ∧ o.cls = .type "list" ∧ o.dict = none ∧ o.data = .seq its n ∧ its.size ≤ sizeLine ∧ Vals xs its.toList

/-- a list that no one changes: the script, a list of the module -/
def SqF (K : PySem.W.Frag) (H : Hp) (a : Addr) (xs : List V) : Prop := (∃ o, H a = some (.frz o (.lst xs))) ∨ LitL K a xs

mutual
def Rep (K : PySem.W.Frag) (H : Hp) (B : Bs) : D → V → Prop
  | .non, v => v = .non
  | .bl b, v => v = .bl b
  | .int i, v => v = .int i
  | .str x, v => v = .str x
  | .tup ds, v => ∃ a vs, v = .ref a ∧ SqT K H a vs ∧ Reps K H B ds vs
  | .lst ds, v => ∃ a vs, v = .ref a ∧ ¬ B a ∧ H a = some (.lst vs) ∧ Reps K H B ds vs
  | .frl ds, v => ∃ a vs, v = .ref a ∧ SqF K H a vs ∧ Reps K H B ds vs
def Reps (K : PySem.W.Frag) (H : Hp) (B : Bs) : List D → List V → Prop
  | [], vs => vs = []
  | d :: ds, vs => ∃ v r, vs = v :: r ∧ Rep K H B d v ∧ Reps K H B ds r
end

/-- what may be read, lists at the top of any kind -/
def RepB (K : PySem.W.Frag) (H : Hp) (B : Bs) : D → V → Prop
  | .lst ds, v => ∃ a vs, v = .ref a ∧ H a = some (.lst vs) ∧ Reps K H B ds vs
  | d, v => Rep K H B d v
/-- the same, and it stays -/
def RepS (K : PySem.W.Frag) (H : Hp) (B O : Bs) : D → V → Prop
  | .lst ds, v => ∃ a vs, v = .ref a ∧ H a = some (.lst vs) ∧ ¬ O a ∧ Reps K H B ds vs
  | d, v => Rep K H B d v
/-- a changeable object -/
def Own (K : PySem.W.Frag) (H : Hp) (B : Bs) : D → Addr → Prop
  | .lst ds, a => ∃ vs, H a = some (.lst vs) ∧ Reps K H B ds vs
  | _, _ => False

theorem Reps.length {K : PySem.W.Frag} {H : Hp} {B : Bs} : ∀ {ds : List D} {vs : List V}, Reps K H B ds vs → ds.length = vs.length
  | [], vs, h => by simp only [Reps] at h; subst h; rfl
  | d :: ds, vs, h => by
    simp only [Reps] at h
    obtain ⟨v, r, rfl, _, h⟩ := h
    simp [Reps.length h]

/-- how heaps go on: what is tracked and not owned stays -/
structure Step (H : Hp) (B O : Bs) (H' : Hp) (B' O' : Bs) : Prop where
  keep : ∀ a o, H a = some o → ¬ O a → H' a = some o
  there : ∀ a, H a ≠ none → H' a ≠ none
  bnew : ∀ a, B' a → B a ∨ H a = none
  bold : ∀ a, B a → H a ≠ none → B' a ∨ O a
  ow : ∀ a, O' a → O a ∨ H a = none

theorem Step.refl (H : Hp) (B O : Bs) : Step H B O H B O := ⟨fun _ _ h _ => h, fun _ h => h, fun _ h => .inl h, fun _ h _ => .inl h, fun _ h => .inl h⟩
theorem Step.trans {H H1 H2 : Hp} {B O B1 O1 B2 O2 : Bs} (s : Step H B O H1 B1 O1) (t : Step H1 B1 O1 H2 B2 O2) : Step H B O H2 B2 O2 where
  keep := fun a o h n => t.keep a o (s.keep a o h n) fun z => (s.ow a z).elim n fun e => by rw [h] at e; cases e
  there := fun a h => t.there a (s.there a h)
  bnew := fun a h => (t.bnew a h).elim (s.bnew a) fun e => .inr (by
    cases q : H a with
    | none => rfl
    | some o => exact absurd e (s.there a (by rw [q]; simp)))
  bold := fun a h hn => (s.bold a h hn).elim (fun b => (t.bold a b (s.there a hn)).elim .inl fun o => (s.ow a o).elim .inr fun e => absurd e hn) .inr
  ow := fun a h => (t.ow a h).elim (s.ow a) fun e => .inr (by
    cases q : H a with
    | none => rfl
    | some o => exact absurd e (s.there a (by rw [q]; simp)))

/-- owned things are lists -/
def OwL (H : Hp) (B O : Bs) : Prop := ∀ a, O a → B a ∧ ∃ vs, H a = some (.lst vs)

theorem rd_some {H : Hp} {a : Addr} {u : HO} (h : Rd H a u) : ∃ o, H a = some o ∧ (o = u ∨ ∃ x, o = .frz x u) := by
  rcases h with h | ⟨o, h⟩
  · exact ⟨_, h, .inl rfl⟩
  · exact ⟨_, h, .inr ⟨o, rfl⟩⟩
section
variable {K : PySem.W.Frag} {H H' : Hp} {B O B' O' : Bs}
theorem Rd.keep {a : Addr} {u : HO} (s : Step H B O H' B' O') (n : ¬ O a) (h : Rd H a u) : Rd H' a u := by
  rcases h with h | ⟨o, h⟩
  · exact .inl (s.keep _ _ h n)
  · exact .inr ⟨o, s.keep _ _ h n⟩
theorem SqT.keep {a : Addr} {vs : List V} (ol : OwL H B O) (s : Step H B O H' B' O') (h : SqT K H a vs) : SqT K H' a vs := by
  rcases h with h | h
  · refine .inl (Rd.keep s (fun z => ?_) h)
    obtain ⟨_, ys, e⟩ := ol a z
    rcases h with h | ⟨o, h⟩ <;> (rw [e] at h; cases h)
  · exact .inr h
theorem SqF.keep {a : Addr} {vs : List V} (ol : OwL H B O) (s : Step H B O H' B' O') (h : SqF K H a vs) : SqF K H' a vs := by
  rcases h with ⟨o, h⟩ | h
  · refine .inl ⟨o, s.keep _ _ h fun z => ?_⟩
    obtain ⟨_, ys, e⟩ := ol a z
    rw [e] at h; cases h
  · exact .inr h
mutual
theorem Rep.stab (ol : OwL H B O) (s : Step H B O H' B' O') : ∀ {d : D} {v : V}, Rep K H B d v → Rep K H' B' d v
  | .non, _, h => by simp only [Rep] at h ⊢; exact h
  | .bl _, _, h => by simp only [Rep] at h ⊢; exact h
  | .int _, _, h => by simp only [Rep] at h ⊢; exact h
  | .str _, _, h => by simp only [Rep] at h ⊢; exact h
  | .tup ds, _, h => by
    simp only [Rep] at h ⊢
    obtain ⟨a, vs, e, q, r⟩ := h
    exact ⟨a, vs, e, SqT.keep ol s q, Reps.stab ol s r⟩
  | .lst ds, _, h => by
    simp only [Rep] at h ⊢
    obtain ⟨a, vs, e, n, q, r⟩ := h
    refine ⟨a, vs, e, fun z => (s.bnew a z).elim n fun e => ?_, s.keep _ _ q (fun z => n (ol a z).1), Reps.stab ol s r⟩
    rw [q] at e; cases e
  | .frl ds, _, h => by
    simp only [Rep] at h ⊢
    obtain ⟨a, vs, e, q, r⟩ := h
    exact ⟨a, vs, e, SqF.keep ol s q, Reps.stab ol s r⟩
theorem Reps.stab (ol : OwL H B O) (s : Step H B O H' B' O') : ∀ {ds : List D} {vs : List V}, Reps K H B ds vs → Reps K H' B' ds vs
  | [], _, h => by simp only [Reps] at h ⊢; exact h
  | d :: ds, _, h => by
    simp only [Reps] at h ⊢
    obtain ⟨v, r, e, p, q⟩ := h
    exact ⟨v, r, e, Rep.stab ol s p, Reps.stab ol s q⟩
end
/-- fewer forbidden places -/
theorem Step.less (h : ∀ a, B' a → B a) (h2 : ∀ a, B a → H a ≠ none → B' a ∨ O a) (h3 : ∀ a, O' a → O a) : Step H B O H B' O' :=
  ⟨fun _ _ e _ => e, fun _ e => e, fun a b => .inl (h a b), h2, fun a o => .inl (h3 a o)⟩
mutual
theorem Rep.anti (hb : ∀ a, B' a → B a ∨ H a = none) : ∀ {d : D} {v : V}, Rep K H B d v → Rep K H B' d v
  | .non, _, h => by simp only [Rep] at h ⊢; exact h
  | .bl _, _, h => by simp only [Rep] at h ⊢; exact h
  | .int _, _, h => by simp only [Rep] at h ⊢; exact h
  | .str _, _, h => by simp only [Rep] at h ⊢; exact h
  | .tup ds, _, h => by
    simp only [Rep] at h ⊢
    obtain ⟨a, vs, e, q, r⟩ := h
    exact ⟨a, vs, e, q, Reps.anti hb r⟩
  | .lst ds, _, h => by
    simp only [Rep] at h ⊢
    obtain ⟨a, vs, e, n, q, r⟩ := h
    refine ⟨a, vs, e, fun z => (hb a z).elim n fun e => ?_, q, Reps.anti hb r⟩
    rw [q] at e; cases e
  | .frl ds, _, h => by
    simp only [Rep] at h ⊢
    obtain ⟨a, vs, e, q, r⟩ := h
    exact ⟨a, vs, e, q, Reps.anti hb r⟩
theorem Reps.anti (hb : ∀ a, B' a → B a ∨ H a = none) : ∀ {ds : List D} {vs : List V}, Reps K H B ds vs → Reps K H B' ds vs
  | [], _, h => by simp only [Reps] at h ⊢; exact h
  | d :: ds, _, h => by
    simp only [Reps] at h ⊢
    obtain ⟨v, r, e, p, q⟩ := h
    exact ⟨v, r, e, Rep.anti hb p, Reps.anti hb q⟩
end
theorem RepS.stab (ol : OwL H B O) (s : Step H B O H' B' O') {d : D} {v : V} (h : RepS K H B O d v) : RepS K H' B' O' d v := by
  cases d with
  | lst ds =>
    obtain ⟨a, vs, e, q, n, r⟩ := h
    refine ⟨a, vs, e, s.keep _ _ q n, fun z => (s.ow a z).elim n fun e => ?_, Reps.stab ol s r⟩
    rw [q] at e; cases e
  | _ => exact Rep.stab ol s h
theorem Rep.toB {d : D} {v : V} (h : Rep K H B d v) : RepB K H B d v := by
  cases d with
  | lst ds =>
    simp only [Rep] at h
    obtain ⟨a, vs, e, n, q, r⟩ := h
    exact ⟨a, vs, e, q, r⟩
  | _ => exact h
theorem RepS.toB {d : D} {v : V} (h : RepS K H B O d v) : RepB K H B d v := by
  cases d with
  | lst ds =>
    obtain ⟨a, vs, e, q, n, r⟩ := h
    exact ⟨a, vs, e, q, r⟩
  | _ => exact h
theorem Rep.toS (ol : ∀ a, O a → B a) {d : D} {v : V} (h : Rep K H B d v) : RepS K H B O d v := by
  cases d with
  | lst ds =>
    simp only [Rep] at h
    obtain ⟨a, vs, e, n, q, r⟩ := h
    exact ⟨a, vs, e, q, fun z => n (ol a z), r⟩
  | _ => exact h
theorem Own.toB {d : D} {a : Addr} (h : Own K H B d a) : RepB K H B d (.ref a) := by
  cases d with
  | lst ds =>
    obtain ⟨vs, e, r⟩ := h
    exact ⟨a, vs, rfl, e, r⟩
  | _ => exact h.elim
theorem Own.stab (ol : OwL H B O) (s : Step H B O H' B' O') {d : D} {a : Addr} (n : ¬ O a) (h : Own K H B d a) : Own K H' B' d a := by
  cases d with
  | lst ds =>
    obtain ⟨vs, e, r⟩ := h
    exact ⟨vs, s.keep _ _ e n, Reps.stab ol s r⟩
  | _ => exact h.elim
theorem Own.lst {d : D} {a : Addr} (h : Own K H B d a) : ∃ vs, H a = some (.lst vs) := by
  cases d with
  | lst ds =>
    obtain ⟨vs, e, r⟩ := h
    exact ⟨vs, e⟩
  | _ => exact h.elim
end

/-! ### the slots -/
def OwAt (ρ : Ev) (σ : L2.St) (i : Nat) (a : Addr) : Prop := (∃ d, ρ[i]? = some (.ow d) ∨ ρ[i]? = some (.io d)) ∧ σ[i]? = some (some (.ref a))
def Ow (ρ : Ev) (σ : L2.St) : Bs := fun a => ∃ i, OwAt ρ σ i a
def SlRel (K : PySem.W.Frag) (H : Hp) (B O : Bs) : Sl → Option V → Prop
  | .un, _ => True
  | .fz d, o => ∃ v, o = some v ∧ Rep K H B d v
  | .ow d, o => ∃ a, o = some (.ref a) ∧ B a ∧ Own K H B d a
  | .io d, o => ∃ a, o = some (.ref a) ∧ B a ∧ Own K H B d a
  | .bw d, o => ∃ v, o = some v ∧ RepS K H B O d v
structure Good (K : PySem.W.Frag) (H : Hp) (B : Bs) (ρ : Ev) (σ : L2.St) : Prop where
  len : ρ.length = σ.length
  sl : ∀ (i : Nat) (s : Sl) (o : Option V), ρ[i]? = some s → σ[i]? = some o → SlRel K H B (Ow ρ σ) s o
  inj : ∀ i j a, OwAt ρ σ i a → OwAt ρ σ j a → i = j

section
variable {K : PySem.W.Frag} {H : Hp} {B : Bs} {ρ : Ev} {σ : L2.St}
theorem Good.at_ (g : Good K H B ρ σ) {i : Nat} {s : Sl} (h : ρ[i]? = some s) : ∃ o, σ[i]? = some o ∧ SlRel K H B (Ow ρ σ) s o := by
  have hi : i < σ.length := by rw [← g.len]; exact (List.getElem?_eq_some_iff.mp h).1
  exact ⟨σ[i], by simp [hi], g.sl i s _ h (by simp [hi])⟩
theorem Good.owl (g : Good K H B ρ σ) : OwL H B (Ow ρ σ) := fun a ⟨i, ⟨d, h⟩, e⟩ => by
  rcases h with h | h
  · obtain ⟨b, e', hb, w⟩ := g.sl i _ _ h e
    cases e'; exact ⟨hb, w.lst⟩
  · obtain ⟨b, e', hb, w⟩ := g.sl i _ _ h e
    cases e'; exact ⟨hb, w.lst⟩
theorem Good.ob (g : Good K H B ρ σ) : ∀ a, Ow ρ σ a → B a := fun a h => (g.owl a h).1
end

/-- how a value of the evaluator lies: H₀ the heap where its expression began -/
def RvRel (K : PySem.W.Frag) (H₀ H : Hp) (B O : Bs) (σ : L2.St) : RV → V → Prop
  | .val d, v => Rep K H B d v
  | .own d, v => ∃ a, v = .ref a ∧ H₀ a = none ∧ B a ∧ ¬ O a ∧ Own K H B d a
  | .slot i, v => σ[i]? = some (some v)
def force (ρ : Ev) : RV → Option D
  | .val d => some d
  | .own d => some d
  | .slot i => (ρ[i]?).bind Sl.get
section
variable {K : PySem.W.Frag} {H₀ H H' : Hp} {B B' O O' : Bs} {ρ ρ' : Ev} {σ : L2.St}
theorem RvRel.stab (ol : OwL H B O) (s : Step H B O H' B' O') {rv : RV} {v : V} (h : RvRel K H₀ H B O σ rv v) : RvRel K H₀ H' B' O' σ rv v := by
  cases rv with
  | val d => exact Rep.stab ol s h
  | own d =>
    obtain ⟨a, e, h0, b, n, w⟩ := h
    obtain ⟨vs, q⟩ := w.lst
    refine ⟨a, e, h0, (s.bold a b (by rw [q]; simp)).elim id fun z => absurd z n, fun z => (s.ow a z).elim n fun e => ?_, w.stab ol s n⟩
    rw [q] at e; cases e
  | slot i => exact h
theorem RvRel.base (hk : ∀ a, H a ≠ none → H₀ a ≠ none) {H1 : Hp} {rv : RV} {v : V} (h : RvRel K H₀ H1 B O σ rv v) : RvRel K H H1 B O σ rv v := by
  cases rv with
  | val d => exact h
  | own d =>
    obtain ⟨a, e, h0, r⟩ := h
    refine ⟨a, e, ?_, r⟩
    cases q : H a with
    | none => rfl
    | some o => exact absurd h0 (hk a (by rw [q]; simp))
  | slot i => exact h
theorem SlRel.toB {s : Sl} {o : Option V} {v : V} {d : D} (h : SlRel K H B O s o) (e : o = some v) (f : s.get = some d) : RepB K H B d v := by
  subst e
  cases s with
  | un => cases f
  | fz d' =>
    obtain ⟨v', e, r⟩ := h
    cases e; cases f; exact r.toB
  | ow d' =>
    obtain ⟨a, e, b, r⟩ := h
    cases e; cases f; exact r.toB
  | io d' =>
    obtain ⟨a, e, b, r⟩ := h
    cases e; cases f; exact r.toB
  | bw d' =>
    obtain ⟨v', e, r⟩ := h
    cases e; cases f; exact r.toB
theorem force_ok (g : Good K H B ρ σ) {rv : RV} {v : V} {d : D} (h : RvRel K H₀ H B (Ow ρ σ) σ rv v) (f : force ρ rv = some d) : RepB K H B d v := by
  cases rv with
  | val d' => cases f; exact Rep.toB h
  | own d' =>
    cases f
    obtain ⟨a, e, _, _, _, w⟩ := h
    subst e
    exact w.toB
  | slot i =>
    have f : (ρ[i]?).bind Sl.get = some d := f
    cases q : ρ[i]? with
    | none => rw [q] at f; cases f
    | some s =>
      rw [q] at f
      exact (g.sl i s _ q h).toB rfl f
end
end G
end

section
set_option Elab.async false
set_option linter.all false
set_option maxRecDepth 100000
set_option maxHeartbeats 4000000
/-! G2: the small language and its evaluator. -/
namespace G
open PySem PySem.Spec PyProof.Rows L2

/-! ### operations on data -/
mutual
def D.py : D → PyData
  | .non => .none
  | .bl b => .bool b
  | .int i => .int i
  | .str x => .str x
  | .tup ds => .tuple (D.pys ds)
  | .lst ds => .list (D.pys ds)
  | .frl ds => .list (D.pys ds)
def D.pys : List D → List PyData
  | [] => []
  | d :: ds => D.py d :: D.pys ds
end
mutual
/-- no frozen lists within -/
def D.nf : D → Bool
  | .tup ds => D.nfs ds
  | .lst ds => D.nfs ds
  | .frl _ => false
  | _ => true
def D.nfs : List D → Bool
  | [] => true
  | d :: ds => D.nf d && D.nfs ds
end
mutual
def D.eqv : D → D → Bool
  | .non, .non => true
  | .bl a, .bl b => a == b
  | .bl a, .int j => (if a then 1 else 0) == j
  | .int i, .bl b => i == (if b then 1 else 0)
  | .int i, .int j => i == j
  | .str x, .str y => x == y
  | .lst xs, .lst ys => D.eqvs xs ys
  | .tup xs, .tup ys => D.eqvs xs ys
  | _, _ => false
def D.eqvs : List D → List D → Bool
  | [], [] => true
  | x :: xs, y :: ys => D.eqv x y && D.eqvs xs ys
  | _, _ => false
end
mutual
/-- how deep; its texts are such -/
def D.sh : Nat → D → Bool
  | _, .str x => PySem.PyData.strOk x
  | n + 1, .tup ds => D.shs n ds
  | n + 1, .lst ds => D.shs n ds
  | _, .tup _ => false
  | _, .lst _ => false
  | _, .frl _ => false
  | _, _ => true
def D.shs : Nat → List D → Bool
  | _, [] => true
  | n, d :: ds => D.sh n d && D.shs n ds
end
abbrev D.ok (d : D) : Bool := D.sh 60 d

def D.truth : D → Option Bool
  | .non => some false
  | .bl b => some b
  | .int i => some (i != 0)
  | .str x => if x.length ≤ sizeLine then some (x.length != 0) else none
  | .tup ds => some (!ds.isEmpty)
  | .lst ds => some (!ds.isEmpty)
  | .frl ds => some (!ds.isEmpty)

inductive Uo where
  | neg | isN | notN
def uop : Uo → D → Option D
  | .neg, .int i => some (.int (-i))
  | .isN, .non => some (.bl true)
  | .isN, _ => some (.bl false)
  | .notN, .non => some (.bl false)
  | .notN, _ => some (.bl true)
  | _, _ => none

inductive Bo where
  | add | sub | mul | fdiv | mod | band | bor | bxor | pow | eq | ne | lt | le | gt | ge | isin | notin
  deriving DecidableEq
def inInt (i : Int) : Bool := decide (-(2 ^ 64) < i) && decide (i < 2 ^ 64)
def memD (x : D) (ds : List D) : Bool := ds.any fun z => D.eqv z x
def isInts : List D → Option (List Int)
  | [] => some []
  | .int i :: ds => (isInts ds).map (i :: ·)
  | _ => none
def bop : Bo → D → D → Option D
  | .add, .int i, .int j => some (.int (i + j))
  | .add, .str x, .str y => if x.length + y.length ≤ sizeLine then some (.str (x ++ y)) else none
  | .add, .tup xs, .tup ys => if xs.length + ys.length ≤ sizeLine then some (.tup (xs ++ ys)) else none
  | .add, .lst xs, .lst ys => if xs.length + ys.length ≤ sizeLine then some (.lst (xs ++ ys)) else none
  | .sub, .int i, .int j => some (.int (i - j))
  | .mul, .int i, .int j => if inInt i || inInt j then some (.int (i * j)) else none
  | .mul, .lst xs, .int k => if decide (-(2 ^ 63) ≤ k) && decide (k < 2 ^ 63) && decide (xs.length * k.toNat ≤ sizeLine) then some (.lst (List.replicate k.toNat xs).flatten) else none
  | .mul, .tup xs, .int k => if decide (-(2 ^ 63) ≤ k) && decide (k ≤ 1000) && decide (xs.length ≤ 1000) then some (.tup (List.replicate k.toNat xs).flatten) else none
  | .fdiv, .int i, .int j => if decide (j ≠ 0) && decide (j.natAbs < 1073741824) then some (.int (i.fdiv j)) else none
  | .mod, .int i, .int j => if j = 0 then none else some (.int (i.fmod j))
  | .band, .int i, .int j => some (.int (Builtin.bitAnd i j))
  | .bor, .int i, .int j => some (.int (Builtin.bitOr i j))
  | .bxor, .int i, .int j => some (.int (Builtin.bitXor i j))
  | .pow, .int i, .int j => if decide (0 ≤ j) && decide (j ≤ 1000000) && decide (i.natAbs < 2 ^ 64) then some (.int (i ^ j.toNat)) else none
  | .eq, x, y => if x.ok && y.ok then some (.bl (D.eqv x y)) else none
  | .ne, x, y => if x.ok && y.ok then some (.bl (!D.eqv x y)) else none
  | .lt, .int i, .int j => some (.bl (decide (i < j)))
  | .le, .int i, .int j => some (.bl (decide (i ≤ j)))
  | .gt, .int i, .int j => some (.bl (decide (j < i)))
  | .ge, .int i, .int j => some (.bl (decide (j ≤ i)))
  | .isin, x, .lst ds => if x.ok && D.shs 60 ds then some (.bl (memD x ds)) else none
  | .isin, x, .tup ds => if x.ok && D.shs 60 ds then some (.bl (memD x ds)) else none
  | .notin, x, .tup ds => if x.ok && D.shs 60 ds then some (.bl (!memD x ds)) else none
  | .notin, x, .lst ds => if x.ok && D.shs 60 ds then some (.bl (!memD x ds)) else none
  | _, _, _ => none

/-- o[i] -/
def idx : D → D → Option D
  | .tup ds, .int i => atI ds i
  | .lst ds, .int i => atI ds i
  | .str x, .int i => if x.length ≤ sizeLine then (atI x.cps.toList i).map fun c => .str ⟨#[c]⟩ else none
  | _, _ => none
def optI : Bool → D → Option (Option Int)
  | false, _ => some none
  | true, .int i => some (some i)
  | _, _ => none
def cutD (xs : List D) (lo hi : Option Int) : List D := (xs.drop (HT.sIx xs.length 0 lo)).take (HT.sIx xs.length xs.length hi - HT.sIx xs.length 0 lo)
def slc : D → Option Int → Option Int → Option D
  | .tup ds, l, h => some (.tup (cutD ds l h))
  | .lst ds, l, h => some (.lst (cutD ds l h))
  | .str x, l, h => if x.length ≤ sizeLine then some (.str (cutS x l h)) else none
  | _, _, _ => none

def elems : D → Option (List D)
  | .tup ds => some ds
  | .lst ds => some ds
  | _ => none
def maxI : List Int → Option Int
  | [] => none
  | i :: is => some (is.foldl (fun a b => if a < b then b else a) i)
def minI : List Int → Option Int
  | [] => none
  | i :: is => some (is.foldl (fun a b => if b < a then b else a) i)
def isBls : List D → Option (List Bool)
  | [] => some []
  | .bl b :: ds => (isBls ds).map (b :: ·)
  | _ => none
def isStrs : List D → Option (List Str)
  | [] => some []
  | .str b :: ds => (isStrs ds).map (b :: ·)
  | _ => none
def insI (i : Int) : List Int → List Int
  | [] => [i]
  | j :: js => if i ≤ j then i :: j :: js else j :: insI i js
def sortI : List Int → List Int
  | [] => []
  | i :: is => insI i (sortI is)
/-- the first place -/
def place (p : D → Bool) : List D → Option Nat
  | [] => none
  | d :: ds => if p d then some 0 else (place p ds).map (· + 1)
def eqStr (z : Str) : D → Bool
  | .str x => x == z
  | _ => false
/-- built-in functions and methods that change nothing -/
inductive Pr where
  | len | abs | max2 | min2 | int | tuple | list | isInt | isBool | isTuple | isStr | max1 | min1 | sum | any | all | sorted
  deriving DecidableEq
def prim : Pr → List D → Option D
  | .len, [.tup ds] => some (.int ds.length)
  | .len, [.lst ds] => some (.int ds.length)
  | .len, [.str x] => if x.length ≤ sizeLine then some (.int x.length) else none
  | .abs, [.int i] => some (.int (if i < 0 then -i else i))
  | .max2, [.int i, .int j] => some (.int (if j > i then j else i))
  | .min2, [.int i, .int j] => some (.int (if j < i then j else i))
  | .int, [.int i] => some (.int i)
  | .int, [.bl b] => some (.int (if b then 1 else 0))
  | .tuple, [.tup ds] => some (.tup ds)
  | .tuple, [.lst ds] => some (.tup ds)
  | .list, [.tup ds] => some (.lst ds)
  | .list, [.lst ds] => some (.lst ds)
  | .isInt, [d] => some (.bl (match d with | .int _ => true | .bl _ => true | _ => false))
  | .isBool, [d] => some (.bl (match d with | .bl _ => true | _ => false))
  | .isTuple, [d] => some (.bl (match d with | .tup _ => true | _ => false))
  | .isStr, [d] => some (.bl (match d with | .str _ => true | _ => false))
  | .max1, [d] => ((elems d).bind isInts).bind fun is => (maxI is).map .int
  | .min1, [d] => ((elems d).bind isInts).bind fun is => (minI is).map .int
  | .sum, [.lst ds] => (isInts ds).map fun is => .int is.sum
  | .any, [.lst ds] => (isBls ds).map fun bs => .bl (bs.any id)
  | .all, [.lst ds] => (isBls ds).map fun bs => .bl (bs.all id)
  | .sorted, [.lst ds] => (isInts ds).bind fun is => if is.length < 64 then some (.lst ((sortI is).map .int)) else none
  | _, _ => none

/-- the method index -/
def kindL : D → Option Unit
  | .lst _ => some ()
  | _ => none
def indexD : Bool → D → D → Option D
  | true, .lst ds, x => if x.ok && D.shs 60 ds then (place (fun z => D.eqv z x) ds).map fun j => .int (j : Nat) else none
  | false, .tup ds, .str z => if (isStrs ds).isSome then (place (eqStr z) ds).map fun j => .int (j : Nat) else none
  | _, _, _ => none

/-! ### the language -/
inductive Tg where
  | nm (i : Nat) | tp (is : List Nat)
/-- methods of a local name's list -/
inductive Mu where
  | append | pop | popAt | insert
  deriving DecidableEq
mutual
inductive E where
  | nvr | var (i : Nat) | con (d : D)
  | un (o : Uo) (a : E) | bin (o : Bo) (a b : E) | idx (a b : E) | sli (k m : Bool) (a l h : E)
  | chn (o p : Bo) (a b c : E)
  | and (a b : E) | or (a b : E) | not (a : E) | ite (c a b : E)
  | tup (es : Es) | lst (es : Es)
  | call (f : Nat) (io : List Bool) (es : Es)
  | rgl (k : Bool) (es : Es) | index (a b : E) | cix (d : D) (b : E)
  | prim (p : Pr) (es : Es)
  | mut (m : Mu) (i : Nat) (es : Es)
  | kin (neg : Bool) (kvs : List (Str × D)) (a : E)
  | kix (kvs : List (Str × D)) (a : E)
  | comp (vs : List Nat) (t : Tg) (it : It) (c : E) (q : Q)
inductive Es where
  | nil | cons (e : E) (es : Es)
inductive It where
  | nvr | val (e : E) | rng (es : Es) | enum (e : E) | zip (a b : E)
inductive Q where
  | yld (e : E) | fr (vs : List Nat) (t : Tg) (it : It) (c : E) (e : E)
end
mutual
inductive S where
  | asg (t : Tg) (e : E) | aug (i : Nat) (o : Bo) (e : E) | setx (i : Nat) (ix e : E) | augx (i : Nat) (ix : E) (o : Bo) (e : E)
  | par (is : List Nat) (es : Es)
  | exp (e : E) | ret (e : E) | ite (c : E) (a b : Ss) | whl (c : E) (b : Ss) | for (t : Tg) (it : It) (b : Ss)
  | brk | cnt | pass | nvr
inductive Ss where
  | nil | cons (s : S) (r : Ss)
end

/-- a new list that is handed on stays as it is -/
def RV.held : RV → RV
  | .own d => .val d
  | r => r

/-! ### the evaluator -/
def take (ρ : Ev) : RV → Option (D × Ev)
  | .val d => some (d, ρ)
  | .own d => some (d, ρ)
  | .slot i => match ρ[i]? with
    | some (.fz d) => some (d, ρ)
    | some (.ow d) => some (d, ρ.set i (.fz d))
    | some (.bw d) => if d.mt then none else some (d, ρ)
    | _ => none
def setS (ρ : Ev) (i : Nat) (s : Sl) : Option Ev := match ρ[i]? with
  | some (.io _) => none
  | some _ => some (ρ.set i s)
  | none => none
def setAll (ρ : Ev) : List Nat → List D → Option Ev
  | [], [] => some ρ
  | i :: is, d :: ds => (setS ρ i (.fz d)).bind fun ρ => setAll ρ is ds
  | _, _ => none
/-- a value that is to be stored: new lists stay the store's own -/
def takeO (ρ : Ev) : RV → Option (RV × Ev)
  | .own d => some (.own d, ρ)
  | r => (take ρ r).map fun p => (.val p.1, p.2)
def asgAll (ρ : Ev) : List Nat → List RV → Option Ev
  | [], [] => some ρ
  | i :: is, .val d :: rs => (setS ρ i (.fz d)).bind fun ρ => asgAll ρ is rs
  | i :: is, .own d :: rs => (setS ρ i (.ow d)).bind fun ρ => asgAll ρ is rs
  | _, _ => none
def asgT (ρ : Ev) : Tg → RV → Option Ev
  | .nm i, .val d => setS ρ i (.fz d)
  | .nm i, .own d => setS ρ i (.ow d)
  | .nm i, .slot j => (take ρ (.slot j)).bind fun p => setS p.2 i (.fz p.1)
  | .tp is, r => ((force ρ r).bind elems).bind fun ds => setAll ρ is ds
def wipeE (ρ : Ev) : List Nat → Ev
  | [] => ρ
  | v :: vs => (wipeE ρ vs).set v .un
/-- the own names of a comprehension get back what they held -/
def plainSl : Option Sl → Bool
  | some .un => true
  | some (.fz _) => true
  | _ => false
def back (ρ₀ ρ : Ev) : List Nat → Ev
  | [] => ρ
  | v :: vs => (back ρ₀ ρ vs).set v ((ρ₀[v]?).getD .un)
/-- while a list is walked its name may not change it -/
def lock (ρ : Ev) : List RV → Ev
  | [] => ρ
  | .slot i :: rs => match ρ[i]? with
    | some (.ow d) => lock (ρ.set i (.bw d)) rs
    | _ => lock ρ rs
  | _ :: rs => lock ρ rs
def unlock (ρ₀ ρ : Ev) : List RV → Ev
  | [] => ρ
  | .slot i :: rs => match ρ₀[i]?, ρ[i]? with
    | some (.ow _), some (.bw d) => unlock ρ₀ (ρ.set i (.ow d)) rs
    | _, _ => unlock ρ₀ ρ rs
  | _ :: rs => unlock ρ₀ ρ rs
def rangeD (lo : Int) (n : Nat) : List D := (List.range n).map fun (k : Nat) => D.int (lo + (k : Int))
def downD (hi : Int) (n : Nat) : List D := (List.range n).map fun (k : Nat) => D.int (hi - (k : Int))
def inR (i : Int) : Bool := decide (-(2 ^ 62) ≤ i) && decide (i < 2 ^ 62)
def rangeOf : List D → Option (List D)
  | [.int j] => if inR j then some (rangeD 0 j.toNat) else none
  | [.int i, .int j] => if inR i && inR j then some (rangeD i (j - i).toNat) else none
  | [.int i, .int j, .int k] => if decide (k = -1) && inR i && inR j then some (downD i (i - j).toNat) else none
  | _ => none
def rangeB (as : List D) : Option (List D) := match as with
  | [.int j] => if inR j && decide (j ≤ 16777216) then some (rangeD 0 j.toNat) else none
  | [.int i, .int j] => if inR i && inR j && decide (j - i ≤ 16777216) then some (rangeD i (j - i).toNat) else none
  | _ => none
def items : D → Option (List D)
  | .tup ds => some ds
  | .lst ds => some ds
  | .frl ds => some ds
  | _ => none
def enumD (n : Nat) : List D → List D
  | [] => []
  | d :: ds => .tup [.int n, d] :: enumD (n + 1) ds
def zipD : List D → List D → List D
  | x :: xs, y :: ys => .tup [x, y] :: zipD xs ys
  | _, _ => []

inductive Out where
  | rt (o : Bool) (d : D) (ios : List D) | ex (x : Exn) (ios : List D) | no
abbrev Fn := Nat → List Sl → Out

def argS (ρ : Ev) : Bool → RV → Option Sl
  | true, .slot i => match ρ[i]? with
    | some (.ow d) => some (.io d)
    | some (.io d) => some (.io d)
    | _ => none
  | true, _ => none
  | false, .val d => some (.fz d)
  | false, .own _ => none
  | false, .slot i => match ρ[i]? with
    | some (.fz d) => some (.fz d)
    | some (.ow d) => some (.bw d)
    | some (.io d) => some (.bw d)
    | some (.bw d) => some (.bw d)
    | _ => none
def argsS (ρ : Ev) : List Bool → List RV → Option (List Sl)
  | [], [] => some []
  | b :: bs, r :: rs => (argS ρ b r).bind fun s => (argsS ρ bs rs).map (s :: ·)
  | _, _ => none
def slotOf : RV → Option Nat
  | .slot i => some i
  | _ => none
/-- no list that may be changed is handed in twice -/
def apart : List Bool → List RV → Bool
  | true :: bs, r :: rs => (rs.all fun q => decide (slotOf q ≠ slotOf r)) && apart bs rs
  | false :: bs, r :: rs => ((bs.zip rs).all fun q => !q.1 || decide (slotOf q.2 ≠ slotOf r)) && apart bs rs
  | _, _ => true
def putBack (ρ : Ev) : List Bool → List RV → List D → Option Ev
  | [], [], [] => some ρ
  | true :: bs, .slot i :: rs, d :: ds => match ρ[i]? with
    | some (.ow _) => putBack (ρ.set i (.ow d)) bs rs ds
    | some (.io _) => putBack (ρ.set i (.io d)) bs rs ds
    | _ => none
  | false :: bs, _ :: rs, ds => putBack ρ bs rs ds
  | _, _, _ => none

def mutD : Mu → List D → List D → Option (D × List D)
  | .append, ds, [d] => if ds.length < sizeLine then some (.non, ds ++ [d]) else none
  | .pop, ds, [] => (ds[ds.length - 1]?).map fun d => (d, ds.dropLast)
  | .popAt, ds, [.int i] => if decide (-(2 ^ 63) ≤ i) && decide (i < 2 ^ 63) then (ixN ds.length i).bind fun k => (ds[k]?).map fun d => (d, ds.eraseIdx k) else none
  | .insert, ds, [.int i, d] => if decide (0 ≤ i) && decide (i < 2 ^ 63) && decide (ds.length < sizeLine) then some (.non, ds.take i.toNat ++ [d] ++ ds.drop i.toNat) else none
  | _, _, _ => none
/-- the list that a name owns -/
def ownL : Option Sl → Option (List D)
  | some (.ow (.lst ds)) => some ds
  | some (.io (.lst ds)) => some ds
  | _ => none
def reown (ρ : Ev) (i : Nat) (d : D) : Ev := match ρ[i]? with
  | some (.ow _) => ρ.set i (.ow d)
  | some (.io _) => ρ.set i (.io d)
  | _ => ρ

/-- over the items of a comprehension's clause; the clause's own names are wiped behind each turn -/
def loopC (vs : List Nat) (f : D → Ev → Res (List D)) : List D → Ev → Res (List D)
  | [], ρ => .ok [] ρ
  | d :: ds, ρ => (f d ρ).bind fun xs ρ => (loopC vs f ds (wipeE ρ vs)).bind fun ys ρ => .ok (xs ++ ys) ρ
def guard (b : Bool) (r : Res (List D)) (ρ : Ev) : Res (List D) := if b then r else .ok [] ρ
def forces (ρ : Ev) : List RV → Option (List D)
  | [] => some []
  | r :: rs => (force ρ r).bind fun d => (forces ρ rs).map (d :: ·)
def ofO {α : Type} (o : Option α) (ρ : Ev) : Res α := match o with
  | some a => .ok a ρ
  | none => .no
def truthOf (ρ : Ev) (r : RV) : Res Bool := ofO ((force ρ r).bind D.truth) ρ
def outR (ρ : Ev) (bs : List Bool) (rs : List RV) : Out → Res RV
  | .rt o d ios => match putBack ρ bs rs ios with
    | some ρ => .ok (if o then .own d else .val d) ρ
    | none => .no
  | .ex x ios => match putBack ρ bs rs ios with
    | some ρ => .ex x ρ
    | none => .no
  | .no => .no
def chk (b : Bool) (r : Res RV) : Res RV := if b then r else .no
/-- no exception out of it -/
def Res.calm {α : Type} : Res α → Res α
  | .ex _ _ => .no
  | r => r
/-- the items, and what must stand still while they are walked -/
def walkB (ρ : Ev) : RV → Bool
  | .slot i => match ρ[i]? with
    | some (.io _) => false
    | _ => true
  | _ => true
def itemsR (ρ : Ev) (r : RV) : Option (List D) := if walkB ρ r then (force ρ r).bind items else none
def seqR (ρ : Ev) (r : RV) : Option (List D) := if walkB ρ r then (force ρ r).bind elems else none

mutual
def ev (F : Fn) : E → Ev → Res RV
  | .nvr, _ => .no
  | .var i, ρ => match ρ[i]? with
    | some .un => .no
    | some _ => .ok (.slot i) ρ
    | none => .no
  | .con d, ρ => .ok (.val d) ρ
  | .un o a, ρ => (ev F a ρ).bind fun r ρ => ofO (((force ρ r).bind (uop o)).map RV.new) ρ
  | .bin o a b, ρ => (ev F a ρ).bind fun r ρ => (ev F b ρ).bind fun s ρ => ofO (((force ρ r).bind fun x => (force ρ s).bind fun y => bop o x y).map RV.new) ρ
  | .idx a b, ρ => (ev F a ρ).bind fun r ρ => (ev F b ρ).bind fun s ρ => ofO (((force ρ r).bind fun x => (force ρ s).bind fun y => idx x y).map RV.val) ρ
  | .sli k m a l h, ρ => (ev F a ρ).bind fun r ρ => (ev F l ρ).bind fun s ρ => (ofO ((force ρ s).bind (optI k)) ρ).bind fun y ρ => (ev F h ρ).bind fun t ρ => (ofO ((force ρ t).bind (optI m)) ρ).bind fun z ρ =>
      ofO (((force ρ r).bind fun x => slc x y z).map RV.new) ρ
  | .chn o p a b c, ρ => (ev F a ρ).bind fun r ρ => (ev F b ρ).bind fun s ρ => match (force ρ r).bind fun x => (force ρ s).bind fun y => bop o x y with
    | some (.bl true) => (ev F c ρ).bind fun t ρ => ofO (((force ρ s).bind fun x => (force ρ t).bind fun y => bop p x y).map RV.new) ρ
    | some (.bl false) => .ok (.val (.bl false)) ρ
    | _ => .no
  | .and a b, ρ => (ev F a ρ).bind fun r ρ => (truthOf ρ r).bind fun k ρ => if k then ev F b ρ else .ok r ρ
  | .or a b, ρ => (ev F a ρ).bind fun r ρ => (truthOf ρ r).bind fun k ρ => if k then .ok r ρ else ev F b ρ
  | .not a, ρ => (ev F a ρ).bind fun r ρ => (truthOf ρ r).bind fun k ρ => .ok (.val (.bl (!k))) ρ
  | .ite c a b, ρ => (ev F c ρ).bind fun r ρ => (truthOf ρ r).bind fun k ρ => if k then ev F a ρ else ev F b ρ
  | .tup es, ρ => (evTs F es ρ).bind fun ds ρ => .ok (.val (.tup ds)) ρ
  | .lst es, ρ => (evTs F es ρ).bind fun ds ρ => .ok (.own (.lst ds)) ρ
  | .call f io es, ρ => (evCs F es ρ).bind fun rs ρ => match argsS ρ io rs with
    | some args => chk (apart io rs) (outR ρ io rs (F f args))
    | none => .no
  | .index a b, ρ => (ev F a ρ).bind fun r ρ => (ofO ((force ρ r).bind kindL) ρ).bind fun _ ρ => (ev F b ρ).bind fun s ρ => ofO (((force ρ r).bind fun x => (force ρ s).bind fun y => indexD true x y).map RV.val) ρ
  | .cix d b, ρ => (ev F b ρ).bind fun s ρ => ofO (((force ρ s).bind fun y => indexD false d y).map RV.val) ρ
  | .rgl k es, ρ => (evBs F es ρ).bind fun rs ρ => ofO (((forces ρ rs).bind rangeB).map fun ds => if k then RV.own (.lst ds) else RV.val (.tup ds)) ρ
  | .prim p es, ρ => (evBs F es ρ).bind fun rs ρ => ofO (((forces ρ rs).bind (prim p)).map RV.new) ρ
  | .mut m i es, ρ => match ownL (ρ[i]?) with
    | none => .no
    | some _ => (evTs F es ρ).bind fun as ρ => match ownL (ρ[i]?) with
      | some ds => match mutD m ds as with
        | some (d, ds') => .ok (.val d) (reown ρ i (.lst ds'))
        | none => .no
      | none => .no
  | .kin neg kvs a, ρ => (ev F a ρ).bind fun r ρ => match force ρ r with
    | some (.str z) => .ok (.val (.bl (neg != (kvs.lookup z).isSome))) ρ
    | _ => .no
  | .kix kvs a, ρ => (ev F a ρ).bind fun r ρ => match force ρ r with
    | some (.str z) => ofO ((kvs.lookup z).map RV.val) ρ
    | _ => .no
  | .comp vs t it c q, ρ => (evI F it ρ).bind fun p ρ₁ =>
      if vs.all fun v => plainSl ρ₁[v]? then
        match loopC vs (fun d ρ => match asgT ρ t (.val d) with
          | some ρ => (ev F c ρ).bind fun r ρ => (truthOf ρ r).bind fun k ρ => guard k (evQ F q ρ) ρ
          | none => .no) p.1 (wipeE (lock ρ₁ p.2) vs) with
        | .ok ds ρ₂ => if ds.length ≤ sizeLine then .ok (.own (.lst ds)) (unlock ρ₁ (back ρ₁ ρ₂ vs) p.2) else .no
        | _ => .no
      else .no
def evTs (F : Fn) : Es → Ev → Res (List D)
  | .nil, ρ => .ok [] ρ
  | .cons e es, ρ => (ev F e ρ).bind fun r ρ => (ofO (take ρ r) ρ).bind fun p _ => (evTs F es p.2).bind fun ds ρ => .ok (p.1 :: ds) ρ
def evBs (F : Fn) : Es → Ev → Res (List RV)
  | .nil, ρ => .ok [] ρ
  | .cons e es, ρ => (ev F e ρ).bind fun r ρ => (evBs F es ρ).bind fun rs ρ => .ok (r :: rs) ρ
def evCs (F : Fn) : Es → Ev → Res (List RV)
  | .nil, ρ => .ok [] ρ
  | .cons e es, ρ => (ev F e ρ).bind fun r ρ => (evCs F es ρ).bind fun rs ρ => .ok (r.held :: rs) ρ
def evI (F : Fn) : It → Ev → Res (List D × List RV)
  | .nvr, _ => .no
  | .val e, ρ => (ev F e ρ).bind fun r ρ => ofO ((itemsR ρ r).map fun ds => (ds, [r])) ρ
  | .rng es, ρ => (evBs F es ρ).bind fun rs ρ => ofO (((forces ρ rs).bind rangeOf).map fun ds => (ds, [])) ρ
  | .enum e, ρ => (ev F e ρ).bind fun r ρ => ofO ((seqR ρ r).map fun ds => (enumD 0 ds, [r])) ρ
  | .zip a b, ρ => (ev F a ρ).bind fun r ρ => (ev F b ρ).bind fun s ρ => ofO ((seqR ρ r).bind fun ds => (seqR ρ s).map fun es => (zipD ds es, [r, s])) ρ
def evPs (F : Fn) : Es → Ev → Res (List RV)
  | .nil, ρ => .ok [] ρ
  | .cons e es, ρ => (ev F e ρ).bind fun r ρ => (ofO (takeO ρ r) ρ).bind fun p _ => (evPs F es p.2).bind fun rs ρ => .ok (p.1 :: rs) ρ
def evQ (F : Fn) : Q → Ev → Res (List D)
  | .yld e, ρ => (ev F e ρ).bind fun r ρ => (ofO (take ρ r) ρ).bind fun p _ => .ok [p.1] p.2
  | .fr vs t it c e, ρ => (evI F it ρ).bind fun p ρ₁ =>
      if vs.all fun v => plainSl ρ₁[v]? then
        (loopC vs (fun d ρ => match asgT ρ t (.val d) with
          | some ρ => (ev F c ρ).bind fun r ρ => (truthOf ρ r).bind fun k ρ => guard k ((ev F e ρ).bind fun r ρ => (ofO (take ρ r) ρ).bind fun p _ => .ok [p.1] p.2) ρ
          | none => .no) p.1 (wipeE (lock ρ₁ p.2) vs)).bind fun ds ρ => .ok ds (unlock ρ₁ (back ρ₁ ρ vs) p.2)
      else .no
end

/-! ### statements -/
inductive SR where
  | nx (ρ : Ev) | bk (ρ : Ev) | ct (ρ : Ev) | rt (o : Bool) (d : D) (ρ : Ev) | ex (x : Exn) (ρ : Ev) | no
def Res.sr {α : Type} (r : Res α) (f : α → Ev → SR) : SR := match r with
  | .ok a ρ => f a ρ
  | .ex x ρ => .ex x ρ
  | .no => .no
def SR.seq (r : SR) (f : Ev → SR) : SR := match r with
  | .nx ρ => f ρ
  | r => r
/-- a op= b: values that no one changes -/
def aop : Bo → D → D → Option D
  | .add, .int i, .int j => some (.int (i + j))
  | .add, .str x, .str y => if x.length + y.length ≤ sizeLine then some (.str (x ++ y)) else none
  | .add, .tup xs, .tup ys => if xs.length + ys.length ≤ sizeLine then some (.tup (xs ++ ys)) else none
  | .sub, .int i, .int j => some (.int (i - j))
  | .mul, .int i, .int j => if inInt i || inInt j then some (.int (i * j)) else none
  | .bxor, .int i, .int j => some (.int (Builtin.bitXor i j))
  | .band, .int i, .int j => some (.int (Builtin.bitAnd i j))
  | .bor, .int i, .int j => some (.int (Builtin.bitOr i j))
  | _, _, _ => none
def retR (ρ : Ev) : RV → SR
  | .val d => .rt false d ρ
  | .own d => .rt true d ρ
  | .slot i => match ρ[i]? with
    | some (.ow d) => .rt true d ρ
    | _ => match take ρ (.slot i) with
      | some (d, ρ) => .rt false d ρ
      | none => .no
def whN (c : Ev → Res Bool) (b : Ev → SR) : Nat → Ev → SR
  | 0, _ => .no
  | n + 1, ρ => (c ρ).sr fun k ρ => if k then match b ρ with
    | .nx ρ => whN c b n ρ
    | .ct ρ => whN c b n ρ
    | .bk ρ => .nx ρ
    | r => r
    else .nx ρ
def forN (f : D → Ev → SR) : List D → Ev → SR
  | [], ρ => .nx ρ
  | d :: ds, ρ => match f d ρ with
    | .nx ρ => forN f ds ρ
    | .ct ρ => forN f ds ρ
    | .bk ρ => .nx ρ
    | r => r
def SR.unl (ρ₁ : Ev) (rs : List RV) : SR → SR
  | .nx ρ => .nx (unlock ρ₁ ρ rs)
  | .rt o d ρ => .rt o d (unlock ρ₁ ρ rs)
  | .ex x ρ => .ex x (unlock ρ₁ ρ rs)
  | _ => .no
def ofS (o : Option Ev) : SR := match o with
  | some ρ => .nx ρ
  | none => .no
/-- x[i] = d of a list that a name owns -/
def setL (ρ : Ev) (i : Nat) (ix : D) (d : D) : Option Ev := match ownL ρ[i]?, ix with
  | some ds, .int k => (ixN ds.length k).map fun j => reown ρ i (.lst (ds.set j d))
  | _, _ => none
def getL (ρ : Ev) (i : Nat) (ix : D) : Option D := match ownL ρ[i]?, ix with
  | some ds, .int k => (ixN ds.length k).bind fun j => ds[j]?
  | _, _ => none
def fzAt (ρ : Ev) (i : Nat) : Option D := match ρ[i]? with
  | some (.fz d) => some d
  | _ => none
mutual
def evS (F : Fn) (n : Nat) : S → Ev → SR
  | .nvr, _ => .no
  | .pass, ρ => .nx ρ
  | .brk, ρ => .bk ρ
  | .cnt, ρ => .ct ρ
  | .asg t e, ρ => (ev F e ρ).sr fun r ρ => ofS (asgT ρ t r)
  | .aug i o e, ρ => match fzAt ρ i with
    | some x => (ev F e ρ).sr fun r ρ => ofS (((force ρ r).bind fun y => aop o x y).bind fun d => setS ρ i (.fz d))
    | none => .no
  | .setx i ix e, ρ => (ev F e ρ).sr fun r ρ => (ofO (take ρ r) ρ).sr fun p _ => if (ownL p.2[i]?).isSome then (ev F ix p.2).sr fun s ρ => ofS ((force ρ s).bind fun k => setL ρ i k p.1) else .no
  | .augx i ix o e, ρ => if (ownL ρ[i]?).isSome then (ev F ix ρ).sr fun s ρ => match force ρ s with
      | some k => match getL ρ i k with
        | some x => (ev F e ρ).sr fun r ρ => ofS (((force ρ r).bind fun y => aop o x y).bind fun d => setL ρ i k d)
        | none => .no
      | none => .no
    else .no
  | .par is es, ρ => (evPs F es ρ).sr fun rs ρ => ofS (asgAll ρ is rs)
  | .exp e, ρ => (ev F e ρ).sr fun _ ρ => .nx ρ
  | .ret e, ρ => (ev F e ρ).sr fun r ρ => retR ρ r
  | .ite c a b, ρ => ((ev F c ρ).bind fun r ρ => truthOf ρ r).sr fun k ρ => if k then evSs F n a ρ else evSs F n b ρ
  | .whl c b, ρ => whN (fun ρ => (ev F c ρ).bind fun r ρ => truthOf ρ r) (evSs F n b) n ρ
  | .for t it b, ρ => (evI F it ρ).sr fun p ρ₁ => (forN (fun d ρ => (ofS (asgT ρ t (.val d))).seq (evSs F n b)) p.1 (lock ρ₁ p.2)).unl ρ₁ p.2
def evSs (F : Fn) (n : Nat) : Ss → Ev → SR
  | .nil, ρ => .nx ρ
  | .cons s r, ρ => (evS F n s ρ).seq (evSs F n r)
end

/-! ### defs -/
def noOw : Sl → Bool
  | .ow _ => false
  | _ => true
/-- the lists handed in, at the end -/
def iosOf : List Sl → Ev → Option (List D)
  | [], _ => some []
  | .io _ :: as, .io d :: ρ => (iosOf as ρ).map (d :: ·)
  | .io _ :: _, _ => none
  | _ :: as, _ :: ρ => iosOf as ρ
  | _ :: _, [] => none
def outOf (args : List Sl) : SR → Out
  | .nx ρ => match iosOf args ρ with
    | some l => .rt false .non l
    | none => .no
  | .rt o d ρ => match iosOf args ρ with
    | some l => .rt o d l
    | none => .no
  | .ex x ρ => match iosOf args ρ with
    | some l => .ex x l
    | none => .no
  | _ => .no
structure Fd where
  n : Nat
  a : Nat
  ss : Ss
/-- calls to the depth k, loops to wf turns -/
def callN (T : List Fd) (wf : Nat) : Nat → Fn
  | 0, _, _ => .no
  | k + 1, f, args => match T[f]? with
    | some d => if args.all noOw && decide (args.length = d.a) then outOf args (evSs (callN T wf k) wf d.ss (args ++ List.replicate (d.n - args.length) .un)) else .no
    | none => .no
end G
end

section
set_option Elab.async false
set_option linter.all false
set_option maxRecDepth 100000
set_option maxHeartbeats 4000000
/-! G3: what the evaluator's answer wishes of the heap; sequencing. -/
namespace G
open PySem PySem.Spec PyProof.Rows L2

/-- what is fixed in a proof about a program: the written part, what the module's names hold -/
structure Pg where
  K : PySem.W.Frag
  mg : Str → Option Value

abbrev Rl (α β : Type) := Hp → Hp → Bs → Bs → Ev → α → β → Prop
/-- the start may be taken from earlier -/
def Rb {α β : Type} (R : Rl α β) : Prop := ∀ H H1 H2 B O ρ a b, (∀ p, H p ≠ none → H1 p ≠ none) → R H1 H2 B O ρ a b → R H H2 B O ρ a b
def XRel (G : Pg) (x : Exn) (cls : Value) (d : Option Addr) (H : Hp) : Prop := G.mg x.c = some cls ∧ x.d.isNone = true ∧ d = none

/-- borrowed slots were such ahead; slots of the caller's lists stay -/
structure Go (H : Hp) (B : Bs) (ρ : Ev) (σ : L2.St) (H' : Hp) (B' : Bs) (ρ' : Ev) (σ' : L2.St) : Prop where
  st : Step H B (Ow ρ σ) H' B' (Ow ρ' σ')
  kb : ∀ (i : Nat) d, ρ'[i]? = some (.bw d) → ρ[i]? = some (.bw d) ∧ σ'[i]? = σ[i]?
  ki : ∀ (i : Nat) d, ρ[i]? = some (.io d) → ∃ d', ρ'[i]? = some (.io d') ∧ σ'[i]? = σ[i]?
theorem Go.refl (H : Hp) (B : Bs) (ρ : Ev) (σ : L2.St) : Go H B ρ σ H B ρ σ := ⟨Step.refl _ _ _, fun _ _ h => ⟨h, rfl⟩, fun _ d h => ⟨d, h, rfl⟩⟩
theorem Go.trans {H H1 H2 : Hp} {B B1 B2 : Bs} {ρ ρ1 ρ2 : Ev} {σ σ1 σ2 : L2.St} (s : Go H B ρ σ H1 B1 ρ1 σ1) (t : Go H1 B1 ρ1 σ1 H2 B2 ρ2 σ2) : Go H B ρ σ H2 B2 ρ2 σ2 :=
  ⟨s.st.trans t.st, fun i d h => ⟨(s.kb i d (t.kb i d h).1).1, (t.kb i d h).2.trans (s.kb i d (t.kb i d h).1).2⟩, fun i d h => by
    obtain ⟨d1, h1, e1⟩ := s.ki i d h
    obtain ⟨d2, h2, e2⟩ := t.ki i d1 h1
    exact ⟨d2, h2, e2.trans e1⟩⟩
/-- the slots stay -/
theorem Go.of {H H' : Hp} {B B' : Bs} {ρ : Ev} {σ : L2.St} (s : Step H B (Ow ρ σ) H' B' (Ow ρ σ)) : Go H B ρ σ H' B' ρ σ := ⟨s, fun _ _ h => ⟨h, rfl⟩, fun _ d h => ⟨d, h, rfl⟩⟩

def Run {α β : Type} (G : Pg) (R : Rl α β) (W : L2.WX) (σ : L2.St) (H : Hp) (B : Bs) (ρ : Ev) (r : Res α) (Q : β → Hp → Prop) : Prop := match r with
  | .ok a ρ' => ∀ b H' B', Good G.K H' B' ρ' σ → Go H B ρ σ H' B' ρ' σ → R H H' B' (Ow ρ' σ) ρ' a b → Q b H'
  | .ex x ρ' => ∀ cls d H' B', Good G.K H' B' ρ' σ → Go H B ρ σ H' B' ρ' σ → XRel G x cls d H' → W cls d σ H'
  | .no => False

section
variable {α β γ δ : Type} {G : Pg} {W : L2.WX} {σ : L2.St} {H H1 : Hp} {B B1 : Bs} {ρ ρ1 : Ev}
theorem Run.pre {R : Rl α β} (rb : Rb R) {r : Res α} {Q : β → Hp → Prop} (s : Go H B ρ σ H1 B1 ρ1 σ) (h : Run G R W σ H B ρ r Q) : Run G R W σ H1 B1 ρ1 r Q := by
  cases r with
  | ok a ρ' => exact fun b H' B' g s' q => h b H' B' g (s.trans s') (rb _ _ _ _ _ _ _ _ s.st.there q)
  | ex x ρ' => exact fun cls d H' B' g s' q => h cls d H' B' g (s.trans s') q
  | no => exact h
/-- from a later state, what is wanted still told from the first -/
theorem Run.from_ {R : Rl α β} {r : Res α} {Q : β → Hp → Prop} (s : Go H B ρ σ H1 B1 ρ1 σ) (h : Run G R W σ H B ρ r Q) : Run G (fun _ H' B' O' ρ' a b => R H H' B' O' ρ' a b) W σ H1 B1 ρ1 r Q := by
  cases r with
  | ok a ρ' => exact fun b H' B' g s' q => h b H' B' g (s.trans s') q
  | ex x ρ' => exact fun cls d H' B' g s' q => h cls d H' B' g (s.trans s') q
  | no => exact h
theorem Run.bind {R : Rl α β} {R2 : Rl γ δ} (rb : Rb R2) {r : Res α} {f : α → Ev → Res γ} {Q : δ → Hp → Prop} {Q1 : β → Hp → Prop} (h : Run G R2 W σ H B ρ (r.bind f) Q)
    (k : ∀ a ρ1 b H1 B1, Good G.K H1 B1 ρ1 σ → Go H B ρ σ H1 B1 ρ1 σ → R H H1 B1 (Ow ρ1 σ) ρ1 a b → Run G R2 W σ H1 B1 ρ1 (f a ρ1) Q → Q1 b H1) : Run G R W σ H B ρ r Q1 := by
  cases r with
  | ok a ρ' => exact fun b H' B' g s' q => k a ρ' b H' B' g s' q (Run.pre rb s' h)
  | ex x ρ' => exact h
  | no => exact h
theorem Run.bind0 {R : Rl α β} {R2 : Rl γ δ} {r : Res α} {f : α → Ev → Res γ} {Q : δ → Hp → Prop} {Q1 : β → Hp → Prop} (h : Run G R2 W σ H B ρ (r.bind f) Q)
    (k : ∀ a ρ1 b H1 B1, Good G.K H1 B1 ρ1 σ → Go H B ρ σ H1 B1 ρ1 σ → R H H1 B1 (Ow ρ1 σ) ρ1 a b → Run G R2 W σ H B ρ (f a ρ1) Q → Q1 b H1) : Run G R W σ H B ρ r Q1 := by
  cases r with
  | ok a ρ' => exact fun b H' B' g s' q => k a ρ' b H' B' g s' q h
  | ex x ρ' => exact h
  | no => exact h
theorem Run.imp {R : Rl α β} {r : Res α} {Q Q' : β → Hp → Prop} (h : Run G R W σ H B ρ r Q) (k : ∀ b H1, Q b H1 → Q' b H1) : Run G R W σ H B ρ r Q' := by
  cases r with
  | ok a ρ' => exact fun b H' B' g s' q => k _ _ (h b H' B' g s' q)
  | ex x ρ' => exact h
  | no => exact h
theorem Run.ofO {R : Rl α β} {o : Option α} {Q : β → Hp → Prop} (h : Run G R W σ H B ρ (ofO o ρ1) Q) : ∃ a, o = some a ∧ Run G R W σ H B ρ (.ok a ρ1) Q := by
  cases o with
  | none => exact False.elim h
  | some a => exact ⟨a, rfl, h⟩
end

/-! ### the relations -/
def RvR (G : Pg) (σ : L2.St) : Rl RV V := fun H0 H B O _ r v => RvRel G.K H0 H B O σ r v
def BlR : Rl Bool Bool := fun _ _ _ _ _ a b => a = b
def DsR (G : Pg) : Rl (List D) (List V) := fun _ H B _ _ ds vs => Reps G.K H B ds vs
inductive RvsR (G : Pg) (σ : L2.St) : Hp → Hp → Bs → Bs → List RV → List V → Prop where
  | nil {H0 H B O} : RvsR G σ H0 H B O [] []
  | cons {H0 H B O r v rs vs} : RvRel G.K H0 H B O σ r v → RvsR G σ H0 H B O rs vs → RvsR G σ H0 H B O (r :: rs) (v :: vs)
def VsR (G : Pg) (σ : L2.St) : Rl (List RV) (List V) := fun H0 H B O _ rs vs => RvsR G σ H0 H B O rs vs
theorem RvR.rb {G : Pg} {σ : L2.St} : Rb (RvR G σ) := fun _ _ _ _ _ _ _ _ hk h => RvRel.base hk h
theorem BlR.rb : Rb BlR := fun _ _ _ _ _ _ _ _ _ h => h
theorem DsR.rb {G : Pg} : Rb (DsR G) := fun _ _ _ _ _ _ _ _ _ h => h
theorem RvsR.rb {G : Pg} {σ : L2.St} : Rb (VsR G σ) := fun H H1 H2 B O ρ rs vs hk h => by
  have go : ∀ {rs vs}, RvsR G σ H1 H2 B O rs vs → RvsR G σ H H2 B O rs vs := fun {rs} => by
    induction rs with
    | nil => intro vs h; cases h; exact .nil
    | cons r rs ih =>
      intro vs h
      cases h with
      | cons r t => exact .cons (RvRel.base hk r) (ih t)
  exact go h
theorem RvsR.stab {G : Pg} {σ : L2.St} {H0 H B O H' B' O'} (ol : OwL H B O) (s : Step H B O H' B' O') : ∀ {rs vs}, RvsR G σ H0 H B O rs vs → RvsR G σ H0 H' B' O' rs vs
  | [], _, h => by cases h; exact .nil
  | r :: rs, _, h => by
    cases h with
    | cons r t => exact .cons (RvRel.stab ol s r) (RvsR.stab ol s t)

def TEv (G : Pg) (W : L2.WX) (r : Ev → Res RV) : L2.TE := fun σ H Q => ∃ B ρ, Good G.K H B ρ σ ∧ Run G (RvR G σ) W σ H B ρ (r ρ) Q
def TTv (G : Pg) (W : L2.WX) (r : Ev → Res Bool) : L2.TT := fun σ H Q => ∃ B ρ, Good G.K H B ρ σ ∧ Run G BlR W σ H B ρ (r ρ) Q
def TAv (G : Pg) (W : L2.WX) (r : Ev → Res (List RV)) : L2.TA := fun σ H Q => ∃ B ρ, Good G.K H B ρ σ ∧ Run G (VsR G σ) W σ H B ρ (r ρ) Q
def TDv (G : Pg) (W : L2.WX) (r : Ev → Res (List D)) : L2.TA := fun σ H Q => ∃ B ρ, Good G.K H B ρ σ ∧ Run G (DsR G) W σ H B ρ (r ρ) Q

theorem _root_.L2.PE.imp {X : Cx} {e : Expr} {t t' : L2.TE} (h : PE X e t) (k : ∀ σ H Q, t' σ H Q → t σ H Q) : PE X e t' := ⟨fun pins s σ H Q I q => h.run pins s σ H Q I (k σ H Q q)⟩
theorem _root_.L2.PT.imp {X : Cx} {e : Expr} {t t' : L2.TT} (h : PT X e t) (k : ∀ σ H Q, t' σ H Q → t σ H Q) : PT X e t' := ⟨fun pins s σ H Q I q => h.run pins s σ H Q I (k σ H Q q)⟩
theorem _root_.L2.PW.imp {X : Cx} {e : Expr} {t t' : L2.TT} (h : PW X e t) (k : ∀ σ H Q, t' σ H Q → t σ H Q) : PW X e t' := ⟨fun wh pins s σ H Q I q => h.run wh pins s σ H Q I (k σ H Q q)⟩
theorem _root_.L2.PA.imp {X : Cx} {e : List Expr} {t t' : L2.TA} (h : PA X e t) (k : ∀ σ H Q, t' σ H Q → t σ H Q) : PA X e t' := ⟨fun pos pins s σ H Q I q => h.run pos pins s σ H Q I (k σ H Q q)⟩
theorem _root_.L2.PS.imp {X : Cx} {e : Stmt} {t t' : L2.TS} (h : PS X e t) (k : ∀ D σ H, t' D σ H → t D σ H) : PS X e t' := ⟨fun pins s σ H D I q => h.run pins s σ H D I (k D σ H q)⟩
theorem _root_.L2.PSs.imp {X : Cx} {e : List Stmt} {t t' : L2.TS} (h : PSs X e t) (k : ∀ D σ H, t' D σ H → t D σ H) : PSs X e t' := ⟨fun pins s σ H D I q => h.run pins s σ H D I (k D σ H q)⟩

/-! ### the slots, further -/
section
variable {K : PySem.W.Frag} {H H' : Hp} {B B' : Bs} {ρ : Ev} {σ : L2.St}
/-- the heap goes on, the owned lists stay -/
theorem Good.stab (g : Good K H B ρ σ) (s : Step H B (Ow ρ σ) H' B' (Ow ρ σ)) (hb : ∀ a, Ow ρ σ a → B' a) (ho : ∀ a, Ow ρ σ a → H' a = H a) : Good K H' B' ρ σ := by
  refine ⟨g.len, fun i sl o e1 e2 => ?_, g.inj⟩
  have h := g.sl i sl o e1 e2
  have own : ∀ {d a}, Ow ρ σ a → Own K H B d a → Own K H' B' d a := fun {d a} z w => by
    cases d with
    | lst ds =>
      obtain ⟨vs, e, r⟩ := w
      exact ⟨vs, (ho a z).trans e, Reps.stab g.owl s r⟩
    | _ => exact w.elim
  cases sl with
  | un => trivial
  | fz d => obtain ⟨v, e, r⟩ := h; exact ⟨v, e, Rep.stab g.owl s r⟩
  | bw d => obtain ⟨v, e, r⟩ := h; exact ⟨v, e, RepS.stab g.owl s r⟩
  | ow d =>
    obtain ⟨a, e, b, w⟩ := h
    have z : Ow ρ σ a := ⟨i, ⟨d, .inl e1⟩, by rw [e2, e]⟩
    exact ⟨a, e, hb a z, own z w⟩
  | io d =>
    obtain ⟨a, e, b, w⟩ := h
    have z : Ow ρ σ a := ⟨i, ⟨d, .inr e1⟩, by rw [e2, e]⟩
    exact ⟨a, e, hb a z, own z w⟩
theorem Step.alloc {p : Addr} {o : HO} {O : Bs} (n : H p = none) (hb : ∀ a, B' a → B a ∨ a = p) (hb2 : ∀ a, B a → a ≠ p → B' a) : Step H B O (upd H p o) B' O where
  keep := fun a u e _ => by rw [upd_ne (ne_of_none e n)]; exact e
  there := fun a e => by
    by_cases q : a = p
    · subst q; rw [upd_same]; simp
    · rw [upd_ne q]; exact e
  bnew := fun a b => (hb a b).elim .inl fun e => .inr (by rw [e]; exact n)
  bold := fun a b e => .inl (hb2 a b fun q => by subst q; exact e n)
  ow := fun _ z => .inl z
/-- a new object at p, which may become forbidden -/
theorem Good.alloc (g : Good K H B ρ σ) {p : Addr} {o : HO} (n : H p = none) (hb : ∀ a, B' a → B a ∨ a = p) (hb2 : ∀ a, B a → a ≠ p → B' a) : Good K (upd H p o) B' ρ σ := by
  refine g.stab (Step.alloc n hb hb2) (fun a z => hb2 a (g.ob a z) fun q => ?_) fun a z => ?_
  · obtain ⟨_, vs, e⟩ := g.owl a z
    subst q; rw [n] at e; cases e
  · obtain ⟨_, vs, e⟩ := g.owl a z
    rw [upd_ne (ne_of_none e n)]
abbrev plus (B : Bs) (p : Addr) : Bs := fun a => B a ∨ a = p
abbrev minus (B : Bs) (p : Addr) : Bs := fun a => B a ∧ a ≠ p
theorem Rep.at_new {p : Addr} {o : HO} (ol : OwL H B (Ow ρ σ)) (n : H p = none) {d : D} {v : V} (h : Rep K H B d v) : Rep K (upd H p o) (plus B p) d v :=
  Rep.stab ol (Step.alloc n (fun _ z => z) (fun _ z _ => .inl z)) h
theorem Reps.at_new {p : Addr} {o : HO} (ol : OwL H B (Ow ρ σ)) (n : H p = none) {d : List D} {v : List V} (h : Reps K H B d v) : Reps K (upd H p o) (plus B p) d v :=
  Reps.stab ol (Step.alloc n (fun _ z => z) (fun _ z _ => .inl z)) h
end

/-! ### ends of readings -/
section
variable {G : Pg} {W : L2.WX} {σ : L2.St} {H : Hp} {B : Bs} {ρ : Ev}
/-- the value stands already -/
theorem Run.here {α β : Type} {R : Rl α β} {a : α} {Q : β → Hp → Prop} (g : Good G.K H B ρ σ) (h : Run G R W σ H B ρ (.ok a ρ) Q) {b : β} (r : R H H B (Ow ρ σ) ρ a b) : Q b H :=
  h b H B g (Go.refl _ _ _ _) r
/-- a value that is no list -/
theorem Run.flat {d : D} {Q : V → Hp → Prop} (g : Good G.K H B ρ σ) (h : Run G (RvR G σ) W σ H B ρ (.ok (RV.new d) ρ) Q) {v : V} (nl : d.mt = false) (r : Rep G.K H B d v) : Q v H := by
  refine h.here g (b := v) ?_
  cases d with
  | lst ds => cases nl
  | _ => exact r
theorem Run.val {d : D} {Q : V → Hp → Prop} (g : Good G.K H B ρ σ) (h : Run G (RvR G σ) W σ H B ρ (.ok (RV.val d) ρ) Q) {v : V} (r : Rep G.K H B d v) : Q v H := h.here g (b := v) r
/-- a new tuple -/
theorem Run.newT {ds : List D} {Q : V → Hp → Prop} (g : Good G.K H B ρ σ) (h : Run G (RvR G σ) W σ H B ρ (.ok (RV.val (.tup ds)) ρ) Q) {vs : List V} (r : Reps G.K H B ds vs) : ∀ p, H p = none → Q (.ref p) (upd H p (.tup vs)) := fun p n => by
  have s : Step H B (Ow ρ σ) (upd H p (.tup vs)) B (Ow ρ σ) := Step.alloc n (fun _ z => .inl z) (fun _ z _ => z)
  refine h (.ref p) _ B (g.alloc n (fun _ z => .inl z) (fun _ z _ => z)) (Go.of s) ?_
  show Rep _ _ _ _ _
  simp only [Rep]
  exact ⟨p, vs, rfl, .inl (.inl upd_same), Reps.stab g.owl s r⟩
/-- a new list -/
theorem Run.newL {ds : List D} {Q : V → Hp → Prop} (g : Good G.K H B ρ σ) (h : Run G (RvR G σ) W σ H B ρ (.ok (RV.own (.lst ds)) ρ) Q) {vs : List V} (r : Reps G.K H B ds vs) : ∀ p, H p = none → Q (.ref p) (upd H p (.lst vs)) := fun p n => by
  have s : Step H B (Ow ρ σ) (upd H p (.lst vs)) (plus B p) (Ow ρ σ) := Step.alloc n (fun _ z => z) (fun _ z _ => .inl z)
  refine h (.ref p) _ (plus B p) (g.alloc n (fun _ z => z) (fun _ z _ => .inl z)) (Go.of s) ?_
  refine ⟨p, rfl, n, .inr rfl, fun z => ?_, vs, upd_same, Reps.stab g.owl s r⟩
  obtain ⟨_, ws, e⟩ := g.owl p z
  rw [n] at e; cases e
end
end G
end

section
set_option Elab.async false
set_option linter.all false
set_option maxRecDepth 100000
set_option maxHeartbeats 4000000
/-! G4a: tuple * 1, tuple * 0. -/
namespace G
open PySem PySem.Spec PyProof.Rows L2
theorem tuple_mul1W (l : Addr) (items : Array Value) (n : Nat) (dd : Option Addr) (sl : Array (Option Value)) (x : Int) (u : Tok) (c0 : (decide (x < -(2 ^ 63)) || decide (x ≥ 2 ^ 63)) = false) (c1 : (items.isEmpty || x == 1) = true) :
    Meets (Builtin.«tuple.__mul__» ⟨[.ref l, .int x u], []⟩) (fun _ R s => s.heap.get? l = some { cls := .type "tuple", dict := dd, data := .seq items n, slots := sl } ∧
      R (.ok (.ret (Value.ref l))) { s with heap := s.heap, toks := s.toks }) :=
  .of_wp fun prog w A R s h => by
    obtain ⟨hp, g, d, tk, os⟩ := s
    obtain ⟨hl, h⟩ := h
    have f1 := AutoSeq1.idx_int
    wp_walk using wpAny_loadPart' hl
    repeat (first
      | (refine wpAny_ite_false (decide_eq_false (by rw [c0]; exact Bool.false_ne_true)) ?_; wp_walk using wpAny_loadPart' hl)
      | (refine wpAny_ite_true (decide_eq_true c1) ?_; wp_walk using wpAny_loadPart' hl))
    exact ⟨_, rfl, h⟩
theorem tuple_mul0W (l : Addr) (items : Array Value) (n : Nat) (dd : Option Addr) (sl : Array (Option Value)) (x : Int) (u : Tok) (c0 : (decide (x < -(2 ^ 63)) || decide (x ≥ 2 ^ 63)) = false) (c1 : (items.isEmpty || x == 1) = false) (c2 : (decide (x ≤ 0) || items.isEmpty) = true) :
    Meets (Builtin.«tuple.__mul__» ⟨[.ref l, .int x u], []⟩) (fun _ R s => s.heap.get? l = some { cls := .type "tuple", dict := dd, data := .seq items n, slots := sl } ∧
      R (.ok (.ret (Value.ref s.heap.objs.size))) { s with heap := s.heap.push { cls := Value.type "tuple", data := Data.seq #[] }, toks := s.toks }) :=
  .of_wp fun prog w A R s h => by
    obtain ⟨hp, g, d, tk, os⟩ := s
    obtain ⟨hl, h⟩ := h
    have f1 := AutoSeq1.idx_int
    wp_walk using wpAny_loadPart' hl
    repeat (first
      | (refine wpAny_ite_false (decide_eq_false (by rw [c0]; exact Bool.false_ne_true)) ?_; wp_walk using wpAny_loadPart' hl)
      | (refine wpAny_ite_false (decide_eq_false (by rw [c1]; exact Bool.false_ne_true)) ?_; wp_walk using wpAny_loadPart' hl)
      | (refine wpAny_ite_true (decide_eq_true c2) ?_; wp_walk using wpAny_loadPart' hl))
    exact ⟨_, rfl, h⟩
/-- t * k: t itself for 1 or an empty t, an empty one below 1, a new one else -/
def rRepA (K : PySem.W.Frag) : R2 := fun x y H Q => ∃ l k xs, x = .ref l ∧ y = .int k ∧ SqT K H l xs ∧ -(2 ^ 63) ≤ k ∧ k ≤ 1000 ∧ xs.length ≤ 1000 ∧
  (xs = [] ∨ k = 1 → Q (.ref l) H) ∧ (xs ≠ [] → k ≠ 1 → ∀ p, H p = none → Q (.ref p) (upd H p (.tup (List.replicate k.toNat xs).flatten)))
theorem op_repA {X : Cx} : OpR X (binaryOp .Mult) (rRepA X.K) := by
  intro pins s σ H x y v u Q I rx ry h
  obtain ⟨l, k, xs, rfl, rfl, hT, h1, h2, hz, q1, q2⟩ := h
  by_cases hA : xs = [] ∨ k = 1
  · cases rx
    obtain ⟨t, rfl⟩ := ry
    obtain ⟨its, r, ⟨⟨cls, dd, data, sl⟩, ho, hc, n, hd⟩, hs⟩ := I.tuple hT
    simp only at hc hd
    subst hc hd
    have hle : its.length = xs.length := r.length.symm
    have c0 : (decide (k < -(2 ^ 63)) || decide (k ≥ 2 ^ 63)) = false := by
      rw [decide_eq_false (by omega), decide_eq_false (by omega)] <;> rfl
    have c1 : (its.toArray.isEmpty || k == 1) = true := by
      rcases hA with e | e
      · have : its = [] := List.eq_nil_of_length_eq_zero (by rw [hle, e]; rfl)
        subst this
        rfl
      · subst e
        simp
    exact wpAny_binaryOp_repeat_ref (T := "tuple") (U := "int") (by decide) ⟨_, ho, rfl⟩ (fun s' => typeIs_int s' k t) noFill_tuple_mul F.fills_int_mul F.slot_int_rmul repeat_tuple F.slot_int_index.lookup
      (call_meets F.slot_int_rmul (typeIs_int s k t) F.entry_int_rmul (F.args_int_rmul_2 _ _) (int_rmul_tuple k t l its.toArray n dd sl)
        ⟨ho, rfl, ⟨_, ho, rfl⟩, call_meets F.slot_tuple_mul ⟨_, ho, rfl⟩ F.entry_tuple_mul (F.args_tuple_mul_2 _ _) (tuple_mul1W l its.toArray n dd sl k t c0 c1) ⟨ho, ⟨.ref l, H, I, rfl, q1 hA⟩⟩⟩)
  · have hx : xs ≠ [] := fun e => hA (.inl e)
    have hk : k ≠ 1 := fun e => hA (.inr e)
    by_cases h3 : 2 ≤ k
    · exact op_repT pins s σ H _ _ v u Q I rx ry ⟨l, k, xs, rfl, rfl, hT, hx, h3, h2, hz, q2 hx hk⟩
    · cases rx
      obtain ⟨t, rfl⟩ := ry
      obtain ⟨its, r, ⟨⟨cls, dd, data, sl⟩, ho, hc, n, hd⟩, hs⟩ := I.tuple hT
      simp only at hc hd
      subst hc hd
      have hle : its.length = xs.length := r.length.symm
      have hn : its ≠ [] := fun e => hx (by
        rw [e] at hle
        exact List.eq_nil_of_length_eq_zero hle.symm)
      have hi : its.toArray.isEmpty = false := by
        cases its with
        | nil => exact absurd rfl hn
        | cons a b => rfl
      have c0 : (decide (k < -(2 ^ 63)) || decide (k ≥ 2 ^ 63)) = false := by
        rw [decide_eq_false (by omega), decide_eq_false (by omega)] <;> rfl
      have c1 : (its.toArray.isEmpty || k == 1) = false := by
        rw [hi, Bool.false_or]
        exact beq_eq_false_iff_ne.mpr hk
      have c2 : (decide (k ≤ 0) || its.toArray.isEmpty) = true := by
        rw [decide_eq_true (by omega)]; rfl
      have hkz : k.toNat = 0 := by omega
      have q3 := q2 hx hk
      rw [hkz] at q3
      refine wpAny_binaryOp_repeat_ref (T := "tuple") (U := "int") (by decide) ⟨_, ho, rfl⟩ (fun s' => typeIs_int s' k t) noFill_tuple_mul F.fills_int_mul F.slot_int_rmul repeat_tuple F.slot_int_index.lookup
        (call_meets F.slot_int_rmul (typeIs_int s k t) F.entry_int_rmul (F.args_int_rmul_2 _ _) (int_rmul_tuple k t l its.toArray n dd sl)
          ⟨ho, rfl, ⟨_, ho, rfl⟩, call_meets F.slot_tuple_mul ⟨_, ho, rfl⟩ F.entry_tuple_mul (F.args_tuple_mul_2 _ _) (tuple_mul0W l its.toArray n dd sl k t c0 c1 c2) ⟨ho, ?_⟩⟩)
      refine ⟨.ref s.heap.objs.size, _, I.laid (t' := s.toks) (o := .tup (List.replicate 0 xs).flatten) (fun b ob q => Heap.get?_push_of_some _ q) (Nat.le_refl _) ?_, rfl, q3 _ (I.hok.fresh (Nat.le_refl _))⟩
      exact ⟨Nat.zero_le _, [], .nil, IsTup.new _ _⟩
end G
end

section
set_option Elab.async false
set_option linter.all false
set_option maxRecDepth 100000
set_option maxHeartbeats 4000000
/-! G4: the operations on data are the machine's. -/
namespace G
open PySem PySem.Spec PyProof.Rows L2

/-! ### equality -/
mutual
theorem eqv_py : ∀ (m n : Nat) (d e : D), D.sh m d = true → D.sh n e = true → PyData.eqv d.py e.py = D.eqv d e
  | m, n, d, e, h1, h2 => by
    cases d <;> cases e <;> first
      | rfl
      | (cases m <;> simp [D.sh] at h1; done)
      | (cases n <;> simp [D.sh] at h2; done)
      | (cases m with
         | zero => simp [D.sh] at h1
         | succ m => cases n with
           | zero => simp [D.sh] at h2
           | succ n =>
             simp only [D.sh] at h1 h2
             simp only [D.py, PyData.eqv, D.eqv]
             exact eqvs_py m n _ _ h1 h2)
theorem eqvs_py : ∀ (m n : Nat) (ds es : List D), D.shs m ds = true → D.shs n es = true → PyData.eqvAll (D.pys ds) (D.pys es) = D.eqvs ds es
  | _, _, [], [], _, _ => by simp [D.pys, PyData.eqvAll, D.eqvs]
  | _, _, [], _ :: _, _, _ => by simp [D.pys, PyData.eqvAll, D.eqvs]
  | _, _, _ :: _, [], _, _ => by simp [D.pys, PyData.eqvAll, D.eqvs]
  | m, n, d :: ds, e :: es, h1, h2 => by
    simp only [D.shs, Bool.and_eq_true] at h1 h2
    simp only [D.pys, PyData.eqvAll, D.eqvs]
    rw [eqv_py m n d e h1.1 h2.1, eqvs_py m n ds es h1.2 h2.2]
end
mutual
theorem sh_py : ∀ (n : Nat) (d : D), D.sh n d = true → d.py.canLay0 = true ∧ d.py.depth ≤ n
  | n, .non, _ => by simp [D.py, PyData.canLay0, PyData.depth]
  | n, .bl _, _ => by simp [D.py, PyData.canLay0, PyData.depth]
  | n, .int _, _ => by simp [D.py, PyData.canLay0, PyData.depth]
  | n, .str x, h => by
    simp only [D.sh] at h
    simp [D.py, PyData.canLay0, PyData.depth, h]
  | 0, .tup _, h => by simp [D.sh] at h
  | 0, .lst _, h => by simp [D.sh] at h
  | n, .frl _, h => by cases n <;> simp [D.sh] at h
  | n + 1, .tup ds, h => by
    simp only [D.sh] at h
    have q := shs_py n ds h
    simp only [D.py, PyData.canLay0, PyData.depth]
    exact ⟨q.1, by omega⟩
  | n + 1, .lst ds, h => by
    simp only [D.sh] at h
    have q := shs_py n ds h
    simp only [D.py, PyData.canLay0, PyData.depth]
    exact ⟨q.1, by omega⟩
theorem shs_py : ∀ (n : Nat) (ds : List D), D.shs n ds = true → PyData.canLayAll0 (D.pys ds) = true ∧ PyData.depthAll (D.pys ds) ≤ n
  | n, [], _ => by simp [D.pys, PyData.canLayAll0, PyData.depthAll]
  | n, d :: ds, h => by
    simp only [D.shs, Bool.and_eq_true] at h
    have h1 := sh_py n d h.1
    have h2 := shs_py n ds h.2
    simp only [D.pys, PyData.canLayAll0, PyData.depthAll, Bool.and_eq_true]
    exact ⟨⟨h1.1, h2.1⟩, by omega⟩
end
theorem ok_shaped {d : D} (h : d.ok = true) : SeqAt.shaped d.py = true := by
  obtain ⟨h1, h2⟩ := sh_py 60 d h
  unfold SeqAt.shaped
  rw [h1, Bool.true_and]
  exact decide_eq_true (by omega)
theorem oks_shaped {ds : List D} (h : D.shs 60 ds = true) : SeqAt.shaped (.list (D.pys ds)) = true := by
  obtain ⟨h1, h2⟩ := shs_py 60 ds h
  unfold SeqAt.shaped
  simp only [PyData.canLay0, PyData.depth]
  rw [h1, Bool.true_and]
  exact decide_eq_true (by omega)
section
variable {K : PySem.W.Frag} {H : Hp} {B : Bs}
mutual
theorem rep_dp : ∀ (n : Nat) (d : D) (v : V), D.sh n d = true → Rep K H B d v → Dp K H v d.py
  | _, .non, _, _, h => by simp only [Rep] at h; subst h; exact .non
  | _, .bl b, _, _, h => by simp only [Rep] at h; subst h; exact .bl b
  | _, .int b, _, _, h => by simp only [Rep] at h; subst h; exact .int b
  | _, .str b, _, _, h => by simp only [Rep] at h; subst h; exact .str b
  | 0, .tup _, _, h, _ => by simp [D.sh] at h
  | 0, .lst _, _, h, _ => by simp [D.sh] at h
  | n, .frl _, _, h, _ => by cases n <;> simp [D.sh] at h
  | n + 1, .tup ds, _, s, h => by
    simp only [Rep] at h
    simp only [D.sh] at s
    obtain ⟨a, vs, rfl, q, r⟩ := h
    simp only [D.py]
    exact .tup q (reps_dp n ds vs s r)
  | n + 1, .lst ds, _, s, h => by
    simp only [Rep] at h
    simp only [D.sh] at s
    obtain ⟨a, vs, rfl, _, q, r⟩ := h
    simp only [D.py]
    exact .lst (.inl (.inl q)) (reps_dp n ds vs s r)
theorem reps_dp : ∀ (n : Nat) (ds : List D) (vs : List V), D.shs n ds = true → Reps K H B ds vs → DpAll K H vs (D.pys ds)
  | _, [], _, _, h => by simp only [Reps] at h; subst h; exact .nil
  | n, d :: ds, _, s, h => by
    simp only [Reps] at h
    simp only [D.shs, Bool.and_eq_true] at s
    obtain ⟨v, r, rfl, p, q⟩ := h
    simp only [D.pys]
    exact .cons (rep_dp n d v s.1 p) (reps_dp n ds r s.2 q)
end
theorem repB_dp (d : D) (v : V) (s : d.ok = true) (h : RepB K H B d v) : Dp K H v d.py := by
  cases d with
  | lst ds =>
    have s : D.sh 60 (.lst ds) = true := s
    simp only [D.sh] at s
    obtain ⟨a, vs, rfl, q, r⟩ := h
    simp only [D.py]
    exact .lst (.inl (.inl q)) (reps_dp 59 ds vs s r)
  | _ => exact rep_dp (B := B) 60 _ v s h
/-! ### the parts of data -/
theorem Reps.at_ : ∀ {ds : List D} {vs : List V} {i : Nat} {d : D}, Reps K H B ds vs → ds[i]? = some d → ∃ v, vs[i]? = some v ∧ Rep K H B d v
  | [], _, _, _, _, e => by simp at e
  | d :: ds, _, 0, _, h, e => by
    simp only [Reps] at h
    obtain ⟨v, r, rfl, p, q⟩ := h
    simp at e; subst e
    exact ⟨v, rfl, p⟩
  | d :: ds, _, i + 1, _, h, e => by
    simp only [Reps] at h
    obtain ⟨v, r, rfl, p, q⟩ := h
    exact Reps.at_ (i := i) q (by simpa using e)
theorem Reps.atI {ds : List D} {vs : List V} {i : Int} {d : D} (h : Reps K H B ds vs) (e : atI ds i = some d) : ∃ v, L2.atI vs i = some v ∧ Rep K H B d v := by
  unfold L2.atI at e ⊢
  rw [← h.length]
  cases q : ixN ds.length i with
  | none => rw [q] at e; cases e
  | some j =>
    rw [q] at e
    obtain ⟨v, h1, h2⟩ := h.at_ e
    exact ⟨v, h1, h2⟩
theorem Reps.append : ∀ {ds es : List D} {vs ws : List V}, Reps K H B ds vs → Reps K H B es ws → Reps K H B (ds ++ es) (vs ++ ws)
  | [], _, _, _, h, k => by simp only [Reps] at h; subst h; exact k
  | d :: ds, _, _, _, h, k => by
    simp only [Reps] at h
    obtain ⟨v, r, rfl, p, q⟩ := h
    simp only [List.cons_append, Reps]
    exact ⟨v, _, rfl, p, Reps.append q k⟩
theorem Reps.take : ∀ {ds : List D} {vs : List V} (n : Nat), Reps K H B ds vs → Reps K H B (ds.take n) (vs.take n)
  | _, _, 0, _ => by simp [Reps]
  | [], _, n + 1, h => by simp only [Reps] at h; subst h; simp [Reps]
  | d :: ds, _, n + 1, h => by
    simp only [Reps] at h
    obtain ⟨v, r, rfl, p, q⟩ := h
    simp only [List.take_succ_cons, Reps]
    exact ⟨v, _, rfl, p, Reps.take n q⟩
theorem Reps.drop : ∀ {ds : List D} {vs : List V} (n : Nat), Reps K H B ds vs → Reps K H B (ds.drop n) (vs.drop n)
  | _, _, 0, h => h
  | [], _, n + 1, h => by simp only [Reps] at h; subst h; simp [Reps]
  | d :: ds, _, n + 1, h => by
    simp only [Reps] at h
    obtain ⟨v, r, rfl, p, q⟩ := h
    simp only [List.drop_succ_cons]
    exact Reps.drop n q
theorem Reps.rep {ds : List D} {vs : List V} (h : Reps K H B ds vs) : ∀ n, Reps K H B (List.replicate n ds).flatten (List.replicate n vs).flatten
  | 0 => by simp [Reps]
  | n + 1 => by
    simp only [List.replicate_succ, List.flatten_cons]
    exact h.append (Reps.rep h n)
theorem Reps.eraseIdx : ∀ {ds : List D} {vs : List V} (n : Nat), Reps K H B ds vs → Reps K H B (ds.eraseIdx n) (vs.eraseIdx n)
  | [], _, n, h => by simp only [Reps] at h; subst h; simp [Reps]
  | d :: ds, _, 0, h => by
    simp only [Reps] at h
    obtain ⟨v, r, rfl, p, q⟩ := h
    exact q
  | d :: ds, _, n + 1, h => by
    simp only [Reps] at h
    obtain ⟨v, r, rfl, p, q⟩ := h
    simp only [List.eraseIdx_cons_succ, Reps]
    exact ⟨v, _, rfl, p, Reps.eraseIdx n q⟩
theorem Reps.dropLast {ds : List D} {vs : List V} (h : Reps K H B ds vs) : Reps K H B ds.dropLast vs.dropLast := by
  rw [List.dropLast_eq_take, List.dropLast_eq_take, h.length]
  exact h.take _
theorem Reps.set {d : D} {v : V} (r : Rep K H B d v) : ∀ {ds : List D} {vs : List V} (n : Nat), Reps K H B ds vs → Reps K H B (ds.set n d) (vs.set n v)
  | [], _, n, h => by simp only [Reps] at h; subst h; simp [Reps]
  | e :: ds, _, 0, h => by
    simp only [Reps] at h
    obtain ⟨w, s, rfl, p, q⟩ := h
    simp only [List.set_cons_zero, Reps]
    exact ⟨v, _, rfl, r, q⟩
  | e :: ds, _, n + 1, h => by
    simp only [Reps] at h
    obtain ⟨w, s, rfl, p, q⟩ := h
    simp only [List.set_cons_succ, Reps]
    exact ⟨w, _, rfl, p, Reps.set r n q⟩
theorem Reps.one {d : D} {v : V} (r : Rep K H B d v) : Reps K H B [d] [v] := by
  simp only [Reps]
  exact ⟨v, [], rfl, r, rfl⟩
theorem Reps.cut {ds : List D} {vs : List V} (h : Reps K H B ds vs) (lo hi : Option Int) : Reps K H B (cutD ds lo hi) (cutV vs lo hi) := by
  unfold cutD cutV
  rw [h.length]
  exact (h.drop _).take _
end

/-! ### operators -/
section
variable {G : Pg} {W : L2.WX} {X : Cx}
/-- o's rule r answers as g does -/
def Fits (G : Pg) (W : L2.WX) (r : R2) (g : D → D → Option D) : Prop := ∀ (σ : L2.St) (H : Hp) (B : Bs) (ρ : Ev) (x y d : D) (v w : V) (Q : V → Hp → Prop),
  Good G.K H B ρ σ → RepB G.K H B x v → RepB G.K H B y w → g x y = some d → Run G (RvR G σ) W σ H B ρ (.ok (RV.new d) ρ) Q → r v w H Q
theorem fits_add (hK : X.K = G.K) : ∃ r, OpR X (binaryOp .Add) r ∧ Fits G W r (bop .add) := by
  refine ⟨_, op_add.or (op_add_str.or ((op_catA (X := X)).or op_cat)), ?_⟩
  intro σ H B ρ x y d v w Q g hx hy e run
  cases x <;> cases y <;> simp only [bop] at e <;> try (cases e; done)
  case int.int i j =>
    cases e
    have hx : v = .int i := by simpa only [RepB, Rep] using hx
    have hy : w = .int j := by simpa only [RepB, Rep] using hy
    subst hx hy
    exact .inl ⟨i, j, rfl, rfl, run.flat g rfl (by simp [Rep])⟩
  case str.str i j =>
    split at e <;> cases e
    have hx : v = .str i := by simpa only [RepB, Rep] using hx
    have hy : w = .str j := by simpa only [RepB, Rep] using hy
    subst hx hy
    exact .inr (.inl ⟨i, j, rfl, rfl, by assumption, run.flat g rfl (by simp [Rep])⟩)
  case tup.tup xs ys =>
    split at e <;> cases e
    rename_i hz
    simp only [RepB, Rep] at hx hy
    obtain ⟨a, vs, rfl, qa, ra⟩ := hx
    obtain ⟨b, ws, rfl, qb, rb⟩ := hy
    rw [← hK] at qa qb
    refine .inr (.inr (.inl ⟨a, b, vs, ws, rfl, rfl, qa, qb, by rw [← ra.length, ← rb.length]; exact hz, fun e => ?_, fun _ e => ?_, fun _ _ p n => run.newT g (ra.append rb) p n⟩))
    · refine run.flat g rfl ?_
      simp only [Rep]
      refine ⟨b, ws, rfl, by rw [← hK]; exact qb, ?_⟩
      have q := ra.append rb
      rw [e] at q
      exact q
    · refine run.flat g rfl ?_
      simp only [Rep]
      refine ⟨a, vs, rfl, by rw [← hK]; exact qa, ?_⟩
      have q := ra.append rb
      rw [e, List.append_nil] at q
      exact q
  case lst.lst xs ys =>
    split at e <;> cases e
    rename_i hz
    obtain ⟨a, vs, rfl, qa, ra⟩ := hx
    obtain ⟨b, ws, rfl, qb, rb⟩ := hy
    exact .inr (.inr (.inr ⟨a, b, vs, ws, rfl, rfl, qa, qb, by rw [← ra.length, ← rb.length]; exact hz, run.newL g (ra.append rb)⟩))
theorem fits_int {f : Value → Value → Sem Value} {o : Bo} {C : Int → Int → Prop} {h : Int → Int → Int} (rule : OpR X f (rI C fun i j => .int (h i j)))
    (e : ∀ x y d, bop o x y = some d → ∃ i j, x = .int i ∧ y = .int j ∧ C i j ∧ d = .int (h i j)) : ∃ r, OpR X f r ∧ Fits G W r (bop o) := by
  refine ⟨_, rule, ?_⟩
  intro σ H B ρ x y d v w Q g hx hy eq run
  obtain ⟨i, j, rfl, rfl, c, rfl⟩ := e x y d eq
  have hx : v = .int i := by simpa only [RepB, Rep] using hx
  have hy : w = .int j := by simpa only [RepB, Rep] using hy
  subst hx hy
  exact ⟨i, j, rfl, rfl, c, run.flat g rfl (by simp [Rep])⟩
theorem fits_int0 {f : Value → Value → Sem Value} {o : Bo} {h : Int → Int → Int} (rule : OpR X f (rI0 fun i j => .int (h i j)))
    (e : ∀ x y d, bop o x y = some d → ∃ i j, x = .int i ∧ y = .int j ∧ d = .int (h i j)) : ∃ r, OpR X f r ∧ Fits G W r (bop o) := by
  refine ⟨_, rule, ?_⟩
  intro σ H B ρ x y d v w Q g hx hy eq run
  obtain ⟨i, j, rfl, rfl, rfl⟩ := e x y d eq
  have hx : v = .int i := by simpa only [RepB, Rep] using hx
  have hy : w = .int j := by simpa only [RepB, Rep] using hy
  subst hx hy
  exact ⟨i, j, rfl, rfl, run.flat g rfl (by simp [Rep])⟩
theorem fits_cmp {f : Value → Value → Sem Value} {o : Bo} {h : Int → Int → Bool} (rule : OpR X f (rI0 fun i j => .bl (h i j)))
    (e : ∀ x y d, bop o x y = some d → ∃ i j, x = .int i ∧ y = .int j ∧ d = .bl (h i j)) : ∃ r, OpR X f r ∧ Fits G W r (bop o) := by
  refine ⟨_, rule, ?_⟩
  intro σ H B ρ x y d v w Q g hx hy eq run
  obtain ⟨i, j, rfl, rfl, rfl⟩ := e x y d eq
  have hx : v = .int i := by simpa only [RepB, Rep] using hx
  have hy : w = .int j := by simpa only [RepB, Rep] using hy
  subst hx hy
  exact ⟨i, j, rfl, rfl, run.flat g rfl (by simp [Rep])⟩
theorem fits_mul (hK : X.K = G.K) : ∃ r, OpR X (binaryOp .Mult) r ∧ Fits G W r (bop .mul) := by
  refine ⟨_, (op_mul.or op_rep).or op_repA, ?_⟩
  intro σ H B ρ x y d v w Q g hx hy e run
  cases x <;> cases y <;> simp only [bop] at e <;> try (cases e; done)
  case int.int i j =>
    split at e <;> cases e
    rename_i hc
    have hx : v = .int i := by simpa only [RepB, Rep] using hx
    have hy : w = .int j := by simpa only [RepB, Rep] using hy
    subst hx hy
    refine .inl (.inl ⟨i, j, rfl, rfl, ?_, run.flat g rfl (by simp [Rep])⟩)
    simp only [inInt, Bool.or_eq_true, Bool.and_eq_true, decide_eq_true_eq] at hc
    exact hc
  case lst.int xs k =>
    split at e <;> cases e
    rename_i hc
    simp only [Bool.and_eq_true, decide_eq_true_eq] at hc
    obtain ⟨⟨h1, h2⟩, h3⟩ := hc
    obtain ⟨a, vs, rfl, qa, ra⟩ := hx
    have hy : w = .int k := by simpa only [RepB, Rep] using hy
    subst hy
    exact .inl (.inr ⟨a, k, vs, rfl, rfl, qa, h1, h2, by rw [← ra.length]; exact h3, run.newL g (ra.rep _)⟩)
  case tup.int xs k =>
    split at e <;> cases e
    rename_i hc
    simp only [Bool.and_eq_true, decide_eq_true_eq] at hc
    obtain ⟨⟨h1, h2⟩, h3⟩ := hc
    simp only [RepB, Rep] at hx
    obtain ⟨a, vs, rfl, qa, ra⟩ := hx
    have hy : w = .int k := by simpa only [RepB, Rep] using hy
    subst hy
    refine .inr ⟨a, k, vs, rfl, rfl, by rw [hK]; exact qa, h1, h2, by rw [← ra.length]; exact h3, fun hs => ?_, fun _ _ => run.newT g (ra.rep _)⟩
    refine run.flat g rfl ?_
    simp only [Rep]
    refine ⟨a, vs, rfl, qa, ?_⟩
    rcases hs with rfl | rfl
    · have : xs = [] := List.eq_nil_of_length_eq_zero (by rw [ra.length]; rfl)
      subst this
      have e : (List.replicate k.toNat ([] : List D)).flatten = [] := by
        generalize k.toNat = m
        induction m with
        | zero => rfl
        | succ m ih => rw [List.replicate_succ, List.flatten_cons, ih]; rfl
      rw [e]
      exact ra
    · have e : (List.replicate (1 : Int).toNat xs).flatten = xs := by
        show (xs :: []).flatten = xs
        simp
      rw [e]
      exact ra
theorem fits_eq (hK : X.K = G.K) (hu : X.A.units + 64 < cLine) : ∃ r, OpR X (compareOp .Eq) r ∧ Fits G W r (bop .eq) := by
  refine ⟨_, op_eqD hu, ?_⟩
  intro σ H B ρ x y d v w Q g hx hy e run
  simp only [bop] at e
  split at e <;> cases e
  rename_i hc
  simp only [Bool.and_eq_true] at hc
  refine ⟨x.py, y.py, by rw [hK]; exact repB_dp x v hc.1 hx, by rw [hK]; exact repB_dp y w hc.2 hy, ok_shaped hc.1, ok_shaped hc.2, ?_⟩
  rw [eqv_py 60 60 x y hc.1 hc.2]
  exact run.flat g rfl (by simp [Rep])
theorem fits_ne (hK : X.K = G.K) (hu : X.A.units + 64 < cLine) : ∃ r, OpR X (compareOp .NotEq) r ∧ Fits G W r (bop .ne) := by
  refine ⟨_, op_neD hu, ?_⟩
  intro σ H B ρ x y d v w Q g hx hy e run
  simp only [bop] at e
  split at e <;> cases e
  rename_i hc
  simp only [Bool.and_eq_true] at hc
  refine ⟨x.py, y.py, by rw [hK]; exact repB_dp x v hc.1 hx, by rw [hK]; exact repB_dp y w hc.2 hy, ok_shaped hc.1, ok_shaped hc.2, ?_⟩
  rw [eqv_py 60 60 x y hc.1 hc.2]
  exact run.flat g rfl (by simp [Rep])
theorem any_py {x : D} (hx : x.ok = true) : ∀ {ds : List D}, D.shs 60 ds = true → ((D.pys ds).any fun z => PyData.eqv z x.py) = memD x ds
  | [], _ => rfl
  | d :: ds, h => by
    simp only [D.shs, Bool.and_eq_true] at h
    simp only [D.pys, memD, List.any_cons]
    rw [eqv_py 60 60 d x h.1 hx, any_py hx h.2]
    rfl
def rInDT (K : PySem.W.Frag) : R2 := fun x y H Q => ∃ d ds, Dp K H x d ∧ Dp K H y (.tuple ds) ∧ SeqAt.shaped d = true ∧ SeqAt.shaped (.list ds) = true ∧ Q (.bl (ds.any fun z => PyData.eqv z d)) H
def rNotInDT (K : PySem.W.Frag) : R2 := fun x y H Q => ∃ d ds, Dp K H x d ∧ Dp K H y (.tuple ds) ∧ SeqAt.shaped d = true ∧ SeqAt.shaped (.list ds) = true ∧ Q (.bl (!ds.any fun z => PyData.eqv z d)) H
theorem op_inDT (hu : X.A.units + 65 < cLine) : OpR X (compareOp .In) (rInDT X.K) := by
  intro pins s σ H x y v u Q I rx ry h
  obtain ⟨d, ds, hd, he, sd, se, q⟩ := h
  obtain ⟨as, r1⟩ := Dp.reads I d x v hd rx
  obtain ⟨bs, r2⟩ := Dp.reads I (.tuple ds) y u he ry
  exact SeqAt.in_tuple_reads r2 r1 (SeqAt.canLay_of_shaped se) (SeqAt.canLay_of_shaped sd) (room_in_shaped sd hu) ⟨.bl _, H, I, rfl, q⟩
theorem op_notInDT (hu : X.A.units + 65 < cLine) : OpR X (compareOp .NotIn) (rNotInDT X.K) := by
  intro pins s σ H x y v u Q I rx ry h
  obtain ⟨d, ds, hd, he, sd, se, q⟩ := h
  obtain ⟨as, r1⟩ := Dp.reads I d x v hd rx
  obtain ⟨bs, r2⟩ := Dp.reads I (.tuple ds) y u he ry
  exact SeqAt.notIn_tuple_reads r2 r1 (SeqAt.canLay_of_shaped se) (SeqAt.canLay_of_shaped sd) (room_in_shaped sd hu) ⟨.bl _, H, I, rfl, q⟩
theorem fits_in (hK : X.K = G.K) (hu : X.A.units + 65 < cLine) : ∃ r, OpR X (compareOp .In) r ∧ Fits G W r (bop .isin) := by
  refine ⟨_, (op_inD hu).or (op_inDT hu), ?_⟩
  intro σ H B ρ x y d v w Q g hx hy e run
  cases y <;> simp only [bop] at e <;> try (cases e; done)
  case lst ds =>
    split at e <;> cases e
    rename_i hc
    simp only [Bool.and_eq_true] at hc
    obtain ⟨a, vs, rfl, qa, ra⟩ := hy
    refine .inl ⟨x.py, D.pys ds, by rw [hK]; exact repB_dp x v hc.1 hx, ?_, ok_shaped hc.1, oks_shaped hc.2, ?_⟩
    · rw [hK]
      exact .lst (.inl (.inl qa)) (reps_dp 60 ds vs hc.2 ra)
    · rw [any_py hc.1 hc.2]
      exact run.flat g rfl (by simp [Rep])
  case tup ds =>
    split at e <;> cases e
    rename_i hc
    simp only [Bool.and_eq_true] at hc
    simp only [RepB, Rep] at hy
    obtain ⟨p, vs, rfl, qa, ra⟩ := hy
    refine .inr ⟨x.py, D.pys ds, by rw [hK]; exact repB_dp x v hc.1 hx, ?_, ok_shaped hc.1, oks_shaped hc.2, ?_⟩
    · rw [hK]
      exact .tup qa (reps_dp 60 ds vs hc.2 ra)
    · rw [any_py hc.1 hc.2]
      exact run.flat g rfl (by simp [Rep])
theorem fits_notin (hK : X.K = G.K) (hu : X.A.units + 65 < cLine) : ∃ r, OpR X (compareOp .NotIn) r ∧ Fits G W r (bop .notin) := by
  refine ⟨_, (op_notInD hu).or (op_notInDT hu), ?_⟩
  intro σ H B ρ x y d v w Q g hx hy e run
  cases y <;> simp only [bop] at e <;> try (cases e; done)
  case lst ds =>
    split at e <;> cases e
    rename_i hc
    simp only [Bool.and_eq_true] at hc
    obtain ⟨a, vs, rfl, qa, ra⟩ := hy
    refine .inl ⟨x.py, D.pys ds, by rw [hK]; exact repB_dp x v hc.1 hx, ?_, ok_shaped hc.1, oks_shaped hc.2, ?_⟩
    · rw [hK]
      exact .lst (.inl (.inl qa)) (reps_dp 60 ds vs hc.2 ra)
    · rw [any_py hc.1 hc.2]
      exact run.flat g rfl (by simp [Rep])
  case tup ds =>
    split at e <;> cases e
    rename_i hc
    simp only [Bool.and_eq_true] at hc
    simp only [RepB, Rep] at hy
    obtain ⟨p, vs, rfl, qa, ra⟩ := hy
    refine .inr ⟨x.py, D.pys ds, by rw [hK]; exact repB_dp x v hc.1 hx, ?_, ok_shaped hc.1, oks_shaped hc.2, ?_⟩
    · rw [hK]
      exact .tup qa (reps_dp 60 ds vs hc.2 ra)
    · rw [any_py hc.1 hc.2]
      exact run.flat g rfl (by simp [Rep])
end

/-- which operator of the text is which here -/
def bOp : Operator → Option Bo
  | .Add => some .add | .Sub => some .sub | .Mult => some .mul | .FloorDiv => some .fdiv | .Mod => some .mod
  | .BitAnd => some .band | .BitOr => some .bor | .BitXor => some .bxor | .Pow => some .pow
  | _ => none
def cOp : CmpOp → Option Bo
  | .Eq => some .eq | .NotEq => some .ne | .Lt => some .lt | .LtE => some .le | .Gt => some .gt | .GtE => some .ge
  | .In => some .isin | .NotIn => some .notin
  | _ => none
section
variable {G : Pg} {W : L2.WX} {X : Cx}
theorem bin_ok (hK : X.K = G.K) {op : Operator} {o : Bo} (h : bOp op = some o) : ∃ r, OpR X (binaryOp op) r ∧ Fits G W r (bop o) := by
  cases op <;> simp only [bOp] at h <;> cases h
  · exact fits_add hK
  · refine fits_int0 op_sub fun x y d e => ?_
    cases x <;> cases y <;> simp only [bop] at e <;> cases e
    exact ⟨_, _, rfl, rfl, rfl⟩
  · exact fits_mul hK
  · refine fits_int op_modN fun x y d e => ?_
    cases x <;> cases y <;> simp only [bop] at e <;> try (cases e; done)
    split at e <;> cases e
    exact ⟨_, _, rfl, rfl, by assumption, rfl⟩
  · refine fits_int op_pow fun x y d e => ?_
    cases x <;> cases y <;> simp only [bop] at e <;> try (cases e; done)
    split at e <;> cases e
    rename_i hc
    simp only [Bool.and_eq_true, decide_eq_true_eq] at hc
    exact ⟨_, _, rfl, rfl, ⟨hc.1.1, hc.1.2, hc.2⟩, rfl⟩
  · refine fits_int0 op_or fun x y d e => ?_
    cases x <;> cases y <;> simp only [bop] at e <;> cases e
    exact ⟨_, _, rfl, rfl, rfl⟩
  · refine fits_int0 op_xor fun x y d e => ?_
    cases x <;> cases y <;> simp only [bop] at e <;> cases e
    exact ⟨_, _, rfl, rfl, rfl⟩
  · refine fits_int0 op_and fun x y d e => ?_
    cases x <;> cases y <;> simp only [bop] at e <;> cases e
    exact ⟨_, _, rfl, rfl, rfl⟩
  · refine fits_int op_fdivN fun x y d e => ?_
    cases x <;> cases y <;> simp only [bop] at e <;> try (cases e; done)
    split at e <;> cases e
    rename_i hc
    simp only [Bool.and_eq_true, decide_eq_true_eq] at hc
    exact ⟨_, _, rfl, rfl, ⟨hc.1, hc.2⟩, rfl⟩
theorem cmp_ok (hK : X.K = G.K) (hu : X.A.units + 65 < cLine) {op : CmpOp} {o : Bo} (h : cOp op = some o) : ∃ r, OpR X (compareOp op) r ∧ Fits G W r (bop o) := by
  cases op <;> simp only [cOp] at h <;> cases h
  · exact fits_eq hK (by omega)
  · exact fits_ne hK (by omega)
  · refine fits_cmp op_lt fun x y d e => ?_
    cases x <;> cases y <;> simp only [bop] at e <;> cases e
    exact ⟨_, _, rfl, rfl, rfl⟩
  · refine fits_cmp op_le fun x y d e => ?_
    cases x <;> cases y <;> simp only [bop] at e <;> cases e
    exact ⟨_, _, rfl, rfl, rfl⟩
  · refine fits_cmp op_gt fun x y d e => ?_
    cases x <;> cases y <;> simp only [bop] at e <;> cases e
    exact ⟨_, _, rfl, rfl, rfl⟩
  · refine fits_cmp op_ge fun x y d e => ?_
    cases x <;> cases y <;> simp only [bop] at e <;> cases e
    exact ⟨_, _, rfl, rfl, rfl⟩
  · exact fits_in hK hu
  · exact fits_notin hK hu
end
end G
end

section
set_option Elab.async false
set_option linter.all false
set_option maxRecDepth 100000
set_option maxHeartbeats 4000000
/-! G5: expressions, construct by construct. -/
namespace G
open PySem PySem.Spec PyProof.Rows L2

/-- the test of an expression -/
def tst (F : Fn) (e : E) (ρ : Ev) : Res Bool := (ev F e ρ).bind fun r ρ => truthOf ρ r

section
variable {G : Pg} {F : Fn} {W : L2.WX} {X : Cx} {a b c : Expr} {a' b' c' : E} {pos : Pos}
theorem truV_of (hK : X.K = G.K) {H : Hp} {B : Bs} {d : D} {v : V} {k : Bool} (h : RepB G.K H B d v) (e : d.truth = some k) : TruV X.K v H k := by
  cases d with
  | non => cases e; have h : v = .non := by simpa only [RepB, Rep] using h
           subst h; rfl
  | bl b => cases e; have h : v = .bl k := by simpa only [RepB, Rep] using h
            subst h; rfl
  | int i => cases e; have h : v = .int i := by simpa only [RepB, Rep] using h
             subst h; rfl
  | str x =>
    have h : v = .str x := by simpa only [RepB, Rep] using h
    subst h
    simp only [D.truth] at e
    split at e <;> cases e
    refine ⟨by assumption, ?_⟩
    cases q : x.length with
    | zero => rfl
    | succ n =>
      have e1 : ((n + 1 : Nat) != 0) = true := by simp
      have e2 : (((n + 1 : Nat) : Int) != 0) = true := by simp; omega
      rw [e1, e2]
  | tup ds =>
    cases e
    simp only [RepB, Rep] at h
    obtain ⟨a, vs, rfl, q, r⟩ := h
    refine .inr (.inl ⟨vs, by rw [hK]; exact q, ?_⟩)
    have := r.length
    cases ds <;> cases vs <;> simp_all
  | lst ds =>
    cases e
    obtain ⟨a, vs, rfl, q, r⟩ := h
    refine .inl ⟨vs, .inl (.inl q), ?_⟩
    have := r.length
    cases ds <;> cases vs <;> simp_all
  | frl ds =>
    cases e
    simp only [RepB, Rep] at h
    obtain ⟨a, vs, rfl, q, r⟩ := h
    refine .inl ⟨vs, ?_, ?_⟩
    · rw [hK]
      rcases q with ⟨o, q⟩ | q
      · exact .inl (.inr ⟨o, q⟩)
      · exact .inr q
    · have := r.length
      cases ds <;> cases vs <;> simp_all
/-- the value's truth stands -/
theorem Run.tru (hK : X.K = G.K) {σ : L2.St} {H H0 H1 : Hp} {B0 B1 : Bs} {ρ0 ρ1 : Ev} {r : RV} {v : V} {γ δ : Type} {R : Rl γ δ} {f : Bool → Ev → Res γ} {Q : δ → Hp → Prop} (g : Good G.K H1 B1 ρ1 σ) (h : RvRel G.K H H1 B1 (Ow ρ1 σ) σ r v)
    (run : Run G R W σ H0 B0 ρ0 ((truthOf ρ1 r).bind f) Q) : ∃ k, TruV X.K v H1 k ∧ Run G R W σ H0 B0 ρ0 (f k ρ1) Q := by
  unfold truthOf at run
  cases e : force ρ1 r with
  | none => rw [e] at run; exact run.elim
  | some d =>
    rw [e] at run
    cases e2 : d.truth with
    | none =>
      have e2 : (some d).bind D.truth = none := e2
      rw [e2] at run; exact run.elim
    | some k =>
      have e3 : (some d).bind D.truth = some k := e2
      rw [e3] at run
      exact ⟨k, truV_of hK (force_ok g h e) e2, run⟩

theorem s_var {i : Nat} {x : Str} (hN : X.N[i]? = some x) (hv : Vis X.env.scope x) (hd : (x == ("__debug__" : Str)) = false) (hcd : (x == ("__classdict__" : Str)) = false) : PE X (.Name x pos) (TEv G W (ev F (.var i))) := by
  refine (pe_var (i := i) hN hv hd hcd).imp fun σ H Q ⟨B, ρ, g, run⟩ => ?_
  simp only [ev] at run
  cases e : ρ[i]? with
  | none => rw [e] at run; exact run.elim
  | some s =>
    rw [e] at run
    obtain ⟨o, e2, h⟩ := g.at_ e
    have go : ∀ v, o = some v → Run G (RvR G σ) W σ H B ρ (.ok (.slot i) ρ) Q → tVar i σ H Q := fun v ev run => ⟨v, by rw [e2, ev], run.here g (b := v) (by show σ[i]? = _; rw [e2, ev])⟩
    cases s with
    | un => exact run.elim
    | fz d => obtain ⟨v, ev, _⟩ := h; exact go v ev run
    | ow d => obtain ⟨v, ev, _⟩ := h; exact go _ ev run
    | io d => obtain ⟨v, ev, _⟩ := h; exact go _ ev run
    | bw d => obtain ⟨v, ev, _⟩ := h; exact go _ ev run
theorem s_con {e : Expr} {d : D} {v : V} (h : PE X e (tC v)) (r : ∀ H B, Rep G.K H B d v) : PE X e (TEv G W (ev F (.con d))) := by
  refine h.imp fun σ H Q ⟨B, ρ, g, run⟩ => ?_
  simp only [ev] at run
  exact run.val g (r H B)

/-- an operator over two operands -/
theorem two {σ : L2.St} {H : Hp} {Q : V → Hp → Prop} {r : R2} {fop : D → D → Option D} (fit : Fits G W r fop)
    (h : TEv G W (fun ρ => (ev F a' ρ).bind fun r ρ => (ev F b' ρ).bind fun s ρ => ofO (((force ρ r).bind fun x => (force ρ s).bind fun y => fop x y).map RV.new) ρ) σ H Q) :
    tOp r (TEv G W (ev F a')) (TEv G W (ev F b')) σ H Q := by
  obtain ⟨B, ρ, g, run⟩ := h
  refine ⟨B, ρ, g, run.bind RvR.rb fun ra ρ1 v H1 B1 g1 s1 rel1 run1 => ?_⟩
  refine ⟨B1, ρ1, g1, run1.bind RvR.rb fun rb ρ2 w H2 B2 g2 s2 rel2 run2 => ?_⟩
  obtain ⟨d, e, run2⟩ := run2.ofO
  cases e1 : force ρ2 ra with
  | none => rw [e1] at e; cases e
  | some x =>
    rw [e1] at e
    cases e2 : force ρ2 rb with
    | none => rw [e2] at e; cases e
    | some y =>
      rw [e2] at e
      cases e3 : fop x y with
      | none =>
        have e : (fop x y).map RV.new = some d := e
        rw [e3] at e; cases e
      | some z =>
        have e : (fop x y).map RV.new = some d := e
        rw [e3] at e; cases e
        exact fit σ H2 B2 ρ2 x y z v w Q g2 (force_ok g2 (RvRel.stab g1.owl s2.st rel1) e1) (force_ok g2 rel2 e2) e3 run2
theorem s_bin (hK : X.K = G.K) {op : Operator} {o : Bo} (h : bOp op = some o) (ha : PE X a (TEv G W (ev F a'))) (hb : PE X b (TEv G W (ev F b'))) : PE X (.BinOp a op b pos) (TEv G W (ev F (.bin o a' b'))) := by
  obtain ⟨r, ho, fit⟩ := bin_ok (G := G) (W := W) hK h
  exact (pe_op ho ha hb).imp fun σ H Q q => two fit (by simpa only [ev] using q)
theorem s_cmp (hK : X.K = G.K) (hu : X.A.units + 65 < cLine) {op : CmpOp} {o : Bo} (h : cOp op = some o) (hm : behindInMarks op b = false) (ha : PE X a (TEv G W (ev F a'))) (hb : PE X b (TEv G W (ev F b'))) : PE X (.Compare a [op] [b] pos) (TEv G W (ev F (.bin o a' b'))) := by
  obtain ⟨r, ho, fit⟩ := cmp_ok (G := G) (W := W) hK hu h
  exact (pe_cmpR ho ha hb hm).imp fun σ H Q q => two fit (by simpa only [ev] using q)
/-- a comparison's answer is a bool -/
theorem cmp_bl {op : CmpOp} {o : Bo} (h : cOp op = some o) {x y d : D} (e : bop o x y = some d) : ∃ k, d = .bl k := by
  cases op <;> simp only [cOp] at h <;> cases h <;> cases x <;> cases y <;> simp only [bop] at e <;> first
    | (cases e; exact ⟨_, rfl⟩)
    | (split at e <;> cases e; exact ⟨_, rfl⟩)
    | (cases e; done)
theorem new_bl {σ : L2.St} {H H' : Hp} {B' O' : Bs} {k : Bool} {v : V} (h : RvRel G.K H H' B' O' σ (RV.new (.bl k)) v) : v = .bl k := by
  have h : Rep G.K H' B' (.bl k) v := h
  simpa only [Rep] using h
/-- a test over a value that is a bool -/
theorem bool_test {σ : L2.St} {H : Hp} {B : Bs} {ρ : Ev} {r : Res RV} {Q : Bool → Hp → Prop} (hr : ∀ rv ρ', r = .ok rv ρ' → ∃ k, rv = RV.new (.bl k)) (run : Run G BlR W σ H B ρ (r.bind fun r ρ => truthOf ρ r) Q) :
    Run G (RvR G σ) W σ H B ρ r (fun x H' => ∃ k, x = .bl k ∧ Q k H') := by
  cases r with
  | ok rv ρ' =>
    obtain ⟨k, rfl⟩ := hr rv ρ' rfl
    intro v H' B' g s rel
    exact ⟨k, new_bl rel, run k H' B' g s rfl⟩
  | ex x ρ' => exact run
  | no => exact run
theorem res_bind_ok {α β : Type} {r : Res α} {f : α → Ev → Res β} {b : β} {ρ : Ev} (h : r.bind f = .ok b ρ) : ∃ a ρ1, r = .ok a ρ1 ∧ f a ρ1 = .ok b ρ := by
  cases r with
  | ok a ρ1 => exact ⟨a, ρ1, rfl, h⟩
  | ex x ρ1 => cases h
  | no => cases h
theorem ofO_ok {α : Type} {o : Option α} {ρ ρ' : Ev} {a : α} (h : ofO o ρ = .ok a ρ') : o = some a ∧ ρ = ρ' := by
  cases o with
  | none => cases h
  | some b => cases h; exact ⟨rfl, rfl⟩
theorem opt_bind_some {α β : Type} {o : Option α} {f : α → Option β} {b : β} (h : o.bind f = some b) : ∃ a, o = some a ∧ f a = some b := by
  cases o with
  | none => cases h
  | some a => exact ⟨a, rfl, h⟩
theorem t_cmp (hK : X.K = G.K) (hu : X.A.units + 65 < cLine) {op : CmpOp} {o : Bo} (h : cOp op = some o) (hm : behindInMarks op b = false) (ha : PE X a (TEv G W (ev F a'))) (hb : PE X b (TEv G W (ev F b'))) : PT X (.Compare a [op] [b] pos) (TTv G W (tst F (.bin o a' b'))) := by
  obtain ⟨r, ho, fit⟩ := cmp_ok (G := G) (W := W) hK hu h
  refine (pt_cmpR ho ha hb hm).imp fun σ H Q ⟨B, ρ, g, run⟩ => ?_
  refine two fit ⟨B, ρ, g, ?_⟩
  have q := bool_test (r := ev F (.bin o a' b') ρ) (fun rv ρ' e => ?_) run
  · simpa only [ev] using q
  · simp only [ev] at e
    obtain ⟨r1, ρ1, _, e⟩ := res_bind_ok e
    obtain ⟨r2, ρ2, _, e⟩ := res_bind_ok e
    obtain ⟨e, _⟩ := ofO_ok e
    obtain ⟨d, e', rfl⟩ := Option.map_eq_some_iff.mp e
    obtain ⟨x, _, e2⟩ := opt_bind_some e'
    obtain ⟨y, _, e3⟩ := opt_bind_some e2
    obtain ⟨k, rfl⟩ := cmp_bl h e3
    exact ⟨k, rfl⟩
/-- is None -/
theorem s_isN {j p2} {neg : Bool} (ha : PE X a (TEv G W (ev F a'))) : PE X (.Compare a [if neg then .IsNot else .Is] [.Constant .none j p2] pos) (TEv G W (ev F (.un (if neg then .notN else .isN) a'))) := by
  have key : ∀ {σ : L2.St} {H : Hp} {Q : V → Hp → Prop}, TEv G W (ev F (.un (if neg then .notN else .isN) a')) σ H Q → TEv G W (ev F a') σ H fun x H1 => Q (.bl (if neg then !decide (x = .non) else decide (x = .non))) H1 := by
    rintro σ H Q ⟨B, ρ, g, run⟩
    simp only [ev] at run
    refine ⟨B, ρ, g, run.bind RvR.rb fun ra ρ1 v H1 B1 g1 s1 rel1 run1 => ?_⟩
    obtain ⟨d, e, run1⟩ := run1.ofO
    obtain ⟨d, e', rfl⟩ := Option.map_eq_some_iff.mp e
    obtain ⟨x, e1, e⟩ := opt_bind_some e'
    have hx := force_ok g1 rel1 e1
    have hv : ∀ k, d = .bl k → v ≠ V.non ∨ True → Run G (RvR G σ) W σ H1 B1 ρ1 (.ok (RV.new d) ρ1) Q → Q (.bl k) H1 := fun k e _ run => by subst e; exact run.flat g1 rfl (by simp [Rep])
    have fin : ∀ k, d = .bl k → Q (.bl k) H1 := fun k e => hv k e (.inr trivial) run1
    cases x with
    | non =>
      have : v = .non := by simpa only [RepB, Rep] using hx
      subst this
      cases neg <;> (cases e; exact fin _ rfl)
    | bl k =>
      have : v = .bl k := by simpa only [RepB, Rep] using hx
      subst this
      cases neg <;> (cases e; exact fin _ rfl)
    | int k =>
      have : v = .int k := by simpa only [RepB, Rep] using hx
      subst this
      cases neg <;> (cases e; exact fin _ rfl)
    | str k =>
      have : v = .str k := by simpa only [RepB, Rep] using hx
      subst this
      cases neg <;> (cases e; exact fin _ rfl)
    | tup ds =>
      simp only [RepB, Rep] at hx
      obtain ⟨p, vs, rfl, _⟩ := hx
      cases neg <;> (cases e; exact fin _ rfl)
    | lst ds =>
      obtain ⟨p, vs, rfl, _⟩ := hx
      cases neg <;> (cases e; exact fin _ rfl)
    | frl ds =>
      simp only [RepB, Rep] at hx
      obtain ⟨p, vs, rfl, _⟩ := hx
      cases neg <;> (cases e; exact fin _ rfl)
  cases neg with
  | false => exact (pe_cmp (pc_isN ha)).imp fun σ H Q q => key q
  | true => exact (pe_cmp (pc_notN ha)).imp fun σ H Q q => key q
theorem s_neg (ha : PE X a (TEv G W (ev F a'))) : PE X (.UnaryOp .USub a pos) (TEv G W (ev F (.un .neg a'))) := by
  refine (pe_un un_neg ha).imp fun σ H Q ⟨B, ρ, g, run⟩ => ?_
  simp only [ev] at run
  refine ⟨B, ρ, g, run.bind RvR.rb fun ra ρ1 v H1 B1 g1 s1 rel1 run1 => ?_⟩
  obtain ⟨d, e0, run1⟩ := run1.ofO
  obtain ⟨d, e', rfl⟩ := Option.map_eq_some_iff.mp e0
  obtain ⟨x, e1, e⟩ := opt_bind_some e'
  have hx := force_ok g1 rel1 e1
  cases x <;> simp only [uop] at e <;> try (cases e; done)
  case int i =>
    cases e
    have : v = .int i := by simpa only [RepB, Rep] using hx
    subst this
    exact ⟨i, rfl, run1.flat g1 rfl (by simp [Rep])⟩
/-- o[i] -/
theorem s_idx (hK : X.K = G.K) (hs : PlainIx b) (ha : PE X a (TEv G W (ev F a'))) (hb : PE X b (TEv G W (ev F b'))) : PE X (.Subscript a b pos) (TEv G W (ev F (.idx a' b'))) := by
  refine (pe_ix ix_seq ha hb hs).imp fun σ H Q ⟨B, ρ, g, run⟩ => ?_
  simp only [ev] at run
  refine ⟨B, ρ, g, run.bind RvR.rb fun ra ρ1 v H1 B1 g1 s1 rel1 run1 => ?_⟩
  refine ⟨B1, ρ1, g1, run1.bind RvR.rb fun rb ρ2 w H2 B2 g2 s2 rel2 run2 => ?_⟩
  obtain ⟨d, e0, run2⟩ := run2.ofO
  obtain ⟨z, e', rfl⟩ := Option.map_eq_some_iff.mp e0
  obtain ⟨x, e1, e''⟩ := opt_bind_some e'
  obtain ⟨y, e2, e⟩ := opt_bind_some e''
  have hx := force_ok g2 (RvRel.stab g1.owl s2.st rel1) e1
  have hy := force_ok g2 rel2 e2
  cases x <;> cases y <;> simp only [idx] at e <;> try (cases e; done)
  case tup.int ds i =>
    simp only [RepB, Rep] at hx hy
    subst hy
    obtain ⟨p, vs, rfl, q, r⟩ := hx
    obtain ⟨u, h1, h2⟩ := r.atI e
    exact .inr (.inl ⟨p, vs, i, u, rfl, rfl, by rw [hK]; exact q, h1, run2.val g2 h2⟩)
  case lst.int ds i =>
    have hy : w = .int i := by simpa only [RepB, Rep] using hy
    subst hy
    obtain ⟨p, vs, rfl, q, r⟩ := hx
    obtain ⟨u, h1, h2⟩ := r.atI e
    exact .inl ⟨p, vs, i, u, rfl, rfl, .inl (.inl q), h1, run2.val g2 h2⟩
  case str.int x i =>
    simp only [RepB, Rep] at hx hy
    subst hx hy
    split at e <;> try (cases e; done)
    obtain ⟨c, e3, rfl⟩ := Option.map_eq_some_iff.mp e
    exact .inr (.inr ⟨x, i, c, rfl, rfl, by assumption, e3, run2.val g2 (by simp [Rep])⟩)
/-- not -/
theorem s_not (hK : X.K = G.K) (ha : PE X a (TEv G W (ev F a'))) : PE X (.UnaryOp .Not a pos) (TEv G W (ev F (.not a'))) := by
  refine (pe_notT ha).imp fun σ H Q ⟨B, ρ, g, run⟩ => ?_
  simp only [ev] at run
  refine ⟨B, ρ, g, run.bind RvR.rb fun ra ρ1 v H1 B1 g1 s1 rel1 run1 => ?_⟩
  obtain ⟨k, t, run1⟩ := run1.tru hK g1 rel1
  exact ⟨k, t, run1.val g1 (by simp [Rep])⟩
theorem s_and (hK : X.K = G.K) {rest : List Expr} (ha : PE X a (TEv G W (ev F a'))) (hb : PE X (.BoolOp .And (b :: rest) pos) (TEv G W (ev F b'))) : PE X (.BoolOp .And (a :: b :: rest) pos) (TEv G W (ev F (.and a' b'))) := by
  refine (pe_andT ha hb).imp fun σ H Q ⟨B, ρ, g, run⟩ => ?_
  simp only [ev] at run
  refine ⟨B, ρ, g, run.bind0 fun ra ρ1 v H1 B1 g1 s1 rel1 run1 => ?_⟩
  obtain ⟨k, t, run1⟩ := run1.tru hK g1 rel1
  refine ⟨k, t, ?_⟩
  cases k with
  | true => exact ⟨B1, ρ1, g1, run1.pre RvR.rb s1⟩
  | false => exact run1 v H1 B1 g1 s1 rel1
theorem s_or (hK : X.K = G.K) {rest : List Expr} (ha : PE X a (TEv G W (ev F a'))) (hb : PE X (.BoolOp .Or (b :: rest) pos) (TEv G W (ev F b'))) : PE X (.BoolOp .Or (a :: b :: rest) pos) (TEv G W (ev F (.or a' b'))) := by
  refine (pe_orT ha hb).imp fun σ H Q ⟨B, ρ, g, run⟩ => ?_
  simp only [ev] at run
  refine ⟨B, ρ, g, run.bind0 fun ra ρ1 v H1 B1 g1 s1 rel1 run1 => ?_⟩
  obtain ⟨k, t, run1⟩ := run1.tru hK g1 rel1
  refine ⟨k, t, ?_⟩
  cases k with
  | false => exact ⟨B1, ρ1, g1, run1.pre RvR.rb s1⟩
  | true => exact run1 v H1 B1 g1 s1 rel1
/-! ### tests -/
theorem t_val (hK : X.K = G.K) (ha : PE X a (TEv G W (ev F a'))) (he : ∀ whole, isTrue a X.env whole = (do let v ← whole; standAt a.pos; holding [v] (truthy v))) : PT X a (TTv G W (tst F a')) := by
  refine (pt_truth ha he).imp fun σ H Q ⟨B, ρ, g, run⟩ => ?_
  refine ⟨B, ρ, g, Run.bind0 (f := fun r ρ => truthOf ρ r) run fun ra ρ1 v H1 B1 g1 s1 rel1 run1 => ?_⟩
  have run2 : Run G BlR W σ H B ρ ((truthOf ρ1 ra).bind fun k ρ => .ok k ρ) Q := by
    cases e : truthOf ρ1 ra with
    | ok k ρ2 => rw [e] at run1; exact run1
    | ex x ρ2 => rw [e] at run1; exact run1
    | no => rw [e] at run1; exact run1
  obtain ⟨k, t, run2⟩ := run2.tru hK g1 rel1
  exact ⟨k, t, run2 k H1 B1 g1 s1 rfl⟩
/-- a truth asked again -/
theorem tru_again {ρ ρ' : Ev} {r : RV} {k : Bool} (h : truthOf ρ r = .ok k ρ') : truthOf ρ' r = .ok k ρ' ∧ ρ' = ρ := by
  unfold truthOf at h ⊢
  obtain ⟨e, rfl⟩ := ofO_ok h
  exact ⟨by rw [e]; rfl, rfl⟩
theorem Res.bind_assoc {α β γ : Type} (r : Res α) (f : α → Ev → Res β) (g : β → Ev → Res γ) : (r.bind f).bind g = r.bind fun a ρ => (f a ρ).bind g := by
  cases r <;> rfl
theorem tst_and {ρ : Ev} : tst F (.and a' b') ρ = (tst F a' ρ).bind fun k ρ => if k then tst F b' ρ else .ok false ρ := by
  unfold tst
  simp only [ev, Res.bind_assoc]
  congr 1
  funext r ρ1
  cases e : truthOf ρ1 r with
  | ok k ρ2 =>
    obtain ⟨e2, rfl⟩ := tru_again e
    cases k with
    | true => rfl
    | false => exact e2
  | ex x ρ2 => rfl
  | no => rfl
theorem tst_or {ρ : Ev} : tst F (.or a' b') ρ = (tst F a' ρ).bind fun k ρ => if k then .ok true ρ else tst F b' ρ := by
  unfold tst
  simp only [ev, Res.bind_assoc]
  congr 1
  funext r ρ1
  cases e : truthOf ρ1 r with
  | ok k ρ2 =>
    obtain ⟨e2, rfl⟩ := tru_again e
    cases k with
    | false => rfl
    | true => exact e2
  | ex x ρ2 => rfl
  | no => rfl
theorem tst_not {ρ : Ev} : tst F (.not a') ρ = (tst F a' ρ).bind fun k ρ => .ok (!k) ρ := by
  unfold tst
  simp only [ev, Res.bind_assoc]
  congr 1
theorem tst_ite {ρ : Ev} : tst F (.ite c' a' b') ρ = (tst F c' ρ).bind fun k ρ => if k then tst F a' ρ else tst F b' ρ := by
  unfold tst
  simp only [ev, Res.bind_assoc]
  congr 1
  funext r ρ1
  congr 1
  funext k ρ2
  cases k <;> rfl
theorem w_and {rest : List Expr} (ha : PT X a (TTv G W (tst F a'))) (hb : PW X (.BoolOp .And (b :: rest) pos) (TTv G W (tst F b'))) : PW X (.BoolOp .And (a :: b :: rest) pos) (TTv G W (tst F (.and a' b'))) := by
  refine (pw_and ha hb).imp fun σ H Q ⟨B, ρ, g, run⟩ => ?_
  rw [tst_and] at run
  refine ⟨B, ρ, g, run.bind BlR.rb fun k ρ1 k' H1 B1 g1 s1 rel1 run1 => ?_⟩
  cases rel1
  cases k with
  | true => exact ⟨B1, ρ1, g1, run1⟩
  | false => exact run1.here g1 (b := false) rfl
theorem w_or {rest : List Expr} (ha : PT X a (TTv G W (tst F a'))) (hb : PW X (.BoolOp .Or (b :: rest) pos) (TTv G W (tst F b'))) : PW X (.BoolOp .Or (a :: b :: rest) pos) (TTv G W (tst F (.or a' b'))) := by
  refine (pw_or ha hb).imp fun σ H Q ⟨B, ρ, g, run⟩ => ?_
  rw [tst_or] at run
  refine ⟨B, ρ, g, run.bind BlR.rb fun k ρ1 k' H1 B1 g1 s1 rel1 run1 => ?_⟩
  cases rel1
  cases k with
  | false => exact ⟨B1, ρ1, g1, run1⟩
  | true => exact run1.here g1 (b := true) rfl
theorem t_not (ha : PT X a (TTv G W (tst F a'))) : PT X (.UnaryOp .Not a pos) (TTv G W (tst F (.not a'))) := by
  refine (pt_not ha).imp fun σ H Q ⟨B, ρ, g, run⟩ => ?_
  rw [tst_not] at run
  refine ⟨B, ρ, g, run.bind BlR.rb fun k ρ1 k' H1 B1 g1 s1 rel1 run1 => ?_⟩
  cases rel1
  exact run1.here g1 (b := !k) rfl
theorem s_ite (hc : PT X c (TTv G W (tst F c'))) (ha : PE X a (TEv G W (ev F a'))) (hb : PE X b (TEv G W (ev F b'))) : PE X (.IfExp c a b pos) (TEv G W (ev F (.ite c' a' b'))) := by
  refine (pe_ifExp hc ha hb).imp fun σ H Q ⟨B, ρ, g, run⟩ => ?_
  have e : ev F (.ite c' a' b') ρ = (tst F c' ρ).bind fun k ρ => if k then ev F a' ρ else ev F b' ρ := by
    unfold tst
    simp only [ev, Res.bind_assoc]
  rw [e] at run
  refine ⟨B, ρ, g, run.bind RvR.rb fun k ρ1 k' H1 B1 g1 s1 rel1 run1 => ?_⟩
  cases rel1
  cases k with
  | true => exact ⟨B1, ρ1, g1, run1⟩
  | false => exact ⟨B1, ρ1, g1, run1⟩
end
/-- a if t else b, as a test -/
theorem pt_ifExp {X : Cx} {c a b : Expr} {pos : Pos} {tc ta tb : L2.TT} (hc : PT X c tc) (ha : PT X a ta) (hb : PT X b tb) : PT X (.IfExp c a b pos) (fun σ H Q => tc σ H fun k H1 => if k = true then ta σ H1 Q else tb σ H1 Q) := by
  refine ⟨fun pins s σ H Q I h => ?_⟩
  show wpAny _ _ (do if ← isTrue c X.env (eval c X.env) then isTrue a X.env (eval a X.env) else isTrue b X.env (eval b X.env)) _ _ s
  refine wpAny_bind (thn (hc.run pins s σ H _ I h) fun k s1 ⟨H1, I1, q1⟩ => ?_)
  cases k with
  | true => exact ha.run pins s1 σ H1 Q I1 q1
  | false => exact hb.run pins s1 σ H1 Q I1 q1
section
variable {G : Pg} {F : Fn} {W : L2.WX} {X : Cx} {a b c : Expr} {a' b' c' : E} {pos : Pos}
theorem t_ite (hc : PT X c (TTv G W (tst F c'))) (ha : PT X a (TTv G W (tst F a'))) (hb : PT X b (TTv G W (tst F b'))) : PT X (.IfExp c a b pos) (TTv G W (tst F (.ite c' a' b'))) := by
  refine (pt_ifExp hc ha hb).imp fun σ H Q ⟨B, ρ, g, run⟩ => ?_
  rw [tst_ite] at run
  refine ⟨B, ρ, g, run.bind BlR.rb fun k ρ1 k' H1 B1 g1 s1 rel1 run1 => ?_⟩
  cases rel1
  cases k with
  | true => exact ⟨B1, ρ1, g1, run1⟩
  | false => exact ⟨B1, ρ1, g1, run1⟩
end
end G
end

section
set_option Elab.async false
set_option linter.all false
set_option maxRecDepth 100000
set_option maxHeartbeats 4000000
/-! G6: slots stored and frozen; displays, argument lists, slices, chains. -/
namespace G
open PySem PySem.Spec PyProof.Rows L2

section
variable {K : PySem.W.Frag} {H H0 H' : Hp} {B B0 B' O0 : Bs} {ρ ρ' ρ0 : Ev} {σ σ0 : L2.St}
theorem owAt_set {i j : Nat} {s : Sl} {a : Addr} (h : OwAt (ρ.set i s) σ j a) (n : ∀ d, s ≠ .ow d ∧ s ≠ .io d) : OwAt ρ σ j a ∧ j ≠ i := by
  obtain ⟨⟨d, h⟩, e⟩ := h
  by_cases q : i = j
  · subst q
    by_cases hi : i < ρ.length
    · rw [List.getElem?_set_self hi] at h
      rcases h with h | h <;> (cases h; first | exact absurd rfl (n d).1 | exact absurd rfl (n d).2)
    · rw [List.getElem?_eq_none (by simpa using hi)] at h
      rcases h with h | h <;> cases h
  · rw [List.getElem?_set_ne q] at h
    exact ⟨⟨⟨d, h⟩, e⟩, fun z => q z.symm⟩
theorem get_set {α : Type} {l : List α} {i j : Nat} {s t : α} (h : (l.set i s)[j]? = some t) : (j = i ∧ t = s) ∨ (j ≠ i ∧ l[j]? = some t) := by
  by_cases q : i = j
  · subst q
    by_cases hi : i < l.length
    · rw [List.getElem?_set_self hi] at h
      cases h; exact .inl ⟨rfl, rfl⟩
    · rw [List.getElem?_eq_none (by simpa using hi)] at h; cases h
  · rw [List.getElem?_set_ne q] at h
    exact .inr ⟨fun z => q z.symm, h⟩

/-- an owned list is let stand for ever -/
theorem Good.freeze (g : Good K H B ρ σ) {i : Nat} {d : D} {a : Addr} (h : ρ[i]? = some (.ow d)) (e : σ[i]? = some (some (.ref a))) :
    Good K H (minus B a) (ρ.set i (.fz d)) σ ∧ Step H B (Ow ρ σ) H (minus B a) (Ow (ρ.set i (.fz d)) σ) ∧ Rep K H (minus B a) d (.ref a) := by
  have hO : Ow ρ σ a := ⟨i, ⟨d, .inl h⟩, e⟩
  obtain ⟨a', e', hb, w⟩ := g.sl i _ _ h e
  cases e'
  have hn : ∀ d', Sl.fz d ≠ .ow d' ∧ Sl.fz d ≠ .io d' := fun _ => ⟨(fun z => nomatch z), (fun z => nomatch z)⟩
  have ow' : ∀ b, Ow (ρ.set i (.fz d)) σ b → Ow ρ σ b ∧ b ≠ a := fun b ⟨j, z⟩ => by
    obtain ⟨z1, z2⟩ := owAt_set z hn
    refine ⟨⟨j, z1⟩, fun q => z2 (g.inj j i b z1 ⟨⟨d, .inl h⟩, by rw [q]; exact e⟩)⟩
  have st : Step H B (Ow ρ σ) H (minus B a) (Ow (ρ.set i (.fz d)) σ) := Step.less (fun b z => z.1) (fun b z _ => by
    by_cases q : b = a
    · subst q; exact .inr hO
    · exact .inl ⟨z, q⟩) fun b z => (ow' b z).1
  have rep : Rep K H (minus B a) d (.ref a) := by
    cases d with
    | lst ds =>
      obtain ⟨vs, q, r⟩ := w
      simp only [Rep]
      exact ⟨a, vs, rfl, fun z => z.2 rfl, q, Reps.stab g.owl st r⟩
    | _ => exact w.elim
  refine ⟨⟨by rw [List.length_set]; exact g.len, fun j s o e1 e2 => ?_, fun j k b z1 z2 => ?_⟩, st, rep⟩
  · rcases get_set e1 with ⟨rfl, rfl⟩ | ⟨hj, e1⟩
    · rw [e] at e2; cases e2
      exact ⟨_, rfl, rep⟩
    · have q := g.sl j s o e1 e2
      cases s with
      | un => trivial
      | fz d' => obtain ⟨v, ev, r⟩ := q; exact ⟨v, ev, Rep.stab g.owl st r⟩
      | bw d' => obtain ⟨v, ev, r⟩ := q; exact ⟨v, ev, RepS.stab g.owl st r⟩
      | ow d' =>
        obtain ⟨b, ev, hb', w'⟩ := q
        have ne : b ≠ a := fun z => by
          subst z
          exact hj (g.inj j i b ⟨⟨d', .inl e1⟩, by rw [e2, ev]⟩ ⟨⟨d, .inl h⟩, e⟩)
        refine ⟨b, ev, ⟨hb', ne⟩, ?_⟩
        cases d' with
        | lst ds =>
          obtain ⟨vs, q, r⟩ := w'
          exact ⟨vs, q, Reps.stab g.owl st r⟩
        | _ => exact w'.elim
      | io d' =>
        obtain ⟨b, ev, hb', w'⟩ := q
        have ne : b ≠ a := fun z => by
          subst z
          exact hj (g.inj j i b ⟨⟨d', .inr e1⟩, by rw [e2, ev]⟩ ⟨⟨d, .inl h⟩, e⟩)
        refine ⟨b, ev, ⟨hb', ne⟩, ?_⟩
        cases d' with
        | lst ds =>
          obtain ⟨vs, q, r⟩ := w'
          exact ⟨vs, q, Reps.stab g.owl st r⟩
        | _ => exact w'.elim
  · exact g.inj j k b (owAt_set z1 hn).1 (owAt_set z2 hn).1

/-- fewer forbidden places, none of an owned list -/
theorem Good.less (g : Good K H B ρ σ) (h : ∀ a, B' a → B a) (h2 : ∀ a, B a → Ow ρ σ a → B' a) : Good K H B' ρ σ := by
  have anti : ∀ a, B' a → B a ∨ H a = none := fun a z => .inl (h a z)
  have own : ∀ {d a}, Own K H B d a → Own K H B' d a := fun {d a} w => by
    cases d with
    | lst ds =>
      obtain ⟨vs, q, r⟩ := w
      exact ⟨vs, q, Reps.anti anti r⟩
    | _ => exact w.elim
  refine ⟨g.len, fun j s o e1 e2 => ?_, g.inj⟩
  have q := g.sl j s o e1 e2
  cases s with
  | un => trivial
  | fz d' => obtain ⟨v, ev, r⟩ := q; exact ⟨v, ev, Rep.anti anti r⟩
  | bw d' =>
    obtain ⟨v, ev, r⟩ := q
    refine ⟨v, ev, ?_⟩
    cases d' with
    | lst ds =>
      obtain ⟨b, vs, e, q, n, r⟩ := r
      exact ⟨b, vs, e, q, n, Reps.anti anti r⟩
    | _ => exact Rep.anti anti r
  | ow d' =>
    obtain ⟨b, ev, hb, w⟩ := q
    exact ⟨b, ev, h2 b hb ⟨j, ⟨d', .inl e1⟩, by rw [e2, ev]⟩, own w⟩
  | io d' =>
    obtain ⟨b, ev, hb, w⟩ := q
    exact ⟨b, ev, h2 b hb ⟨j, ⟨d', .inr e1⟩, by rw [e2, ev]⟩, own w⟩

theorem RepS.flat {O : Bs} {d : D} {v : V} (h : RepS K H B O d v) (n : d.mt = false) : Rep K H B d v := by
  cases d with
  | lst ds => cases n
  | _ => exact h
/-- a value is taken to stay: s is the way from the start of its expression -/
theorem take_ok (g : Good K H B ρ σ) (s : Go H0 B0 ρ0 σ0 H B ρ σ) {rv : RV} {v : V} {d : D} (h : RvRel K H0 H B (Ow ρ σ) σ rv v) (e : take ρ rv = some (d, ρ')) :
    ∃ B', Good K H B' ρ' σ ∧ Go H0 B0 ρ0 σ0 H B' ρ' σ ∧ Rep K H B' d v := by
  cases rv with
  | val d' => cases e; exact ⟨B, g, s, h⟩
  | own d' =>
    cases e
    obtain ⟨a, rfl, h0, hb, n, w⟩ := h
    have hl : ∀ b, minus B a b → B b := fun b z => z.1
    have h2 : ∀ b, B b → Ow ρ σ b → minus B a b := fun b z o => ⟨z, fun q => n (q ▸ o)⟩
    refine ⟨minus B a, g.less hl h2, ⟨⟨s.st.keep, s.st.there, fun b z => s.st.bnew b z.1, fun b z nn => (s.st.bold b z nn).elim (fun q => .inl ⟨q, fun z => nn (z ▸ h0)⟩) .inr, s.st.ow⟩, s.kb, s.ki⟩, ?_⟩
    cases d with
    | lst ds =>
      obtain ⟨vs, q, r⟩ := w
      simp only [Rep]
      exact ⟨a, vs, rfl, fun z => z.2 rfl, q, Reps.anti (fun b z => .inl z.1) r⟩
    | _ => exact w.elim
  | slot i =>
    have h : σ[i]? = some (some v) := h
    simp only [take] at e
    cases q : ρ[i]? with
    | none => rw [q] at e; cases e
    | some sl =>
      rw [q] at e
      have r := g.sl i sl _ q h
      cases sl with
      | un => cases e
      | io d' => cases e
      | fz d' =>
        cases e
        obtain ⟨v', ev, r⟩ := r
        cases ev
        exact ⟨B, g, s, r⟩
      | bw d' =>
        dsimp only at e
        split at e <;> cases e
        obtain ⟨v', ev, r⟩ := r
        cases ev
        rename_i hm
        exact ⟨B, g, s, r.flat (by cases k : d.mt <;> first | rfl | exact absurd k hm)⟩
      | ow d' =>
        cases e
        obtain ⟨a, ev, hb, w⟩ := r
        cases ev
        obtain ⟨g2, s2, r2⟩ := g.freeze q h
        refine ⟨_, g2, s.trans ⟨s2, fun j d'' z => ?_, fun j d'' z => ⟨d'', ?_, rfl⟩⟩, r2⟩
        · rcases get_set z with ⟨_, z⟩ | ⟨_, z⟩
          · cases z
          · exact ⟨z, rfl⟩
        · rw [List.getElem?_set_ne (fun k => by subst k; rw [q] at z; cases z)]
          exact z
end

section
variable {G : Pg} {F : Fn} {W : L2.WX} {X : Cx} {a b c : Expr} {a' b' c' : E} {pos : Pos}
/-! ### displays -/
theorem d_nil : PA X [] (TDv G W (evTs F .nil)) := pa_nil.imp fun σ H Q ⟨B, ρ, g, run⟩ => by
  simp only [evTs] at run
  exact run.here g (b := []) (by show Reps _ _ _ [] []; simp [Reps])
theorem d_cons {es : List Expr} {es' : Es} (ha : PE X a (TEv G W (ev F a'))) (hr : PA X es (TDv G W (evTs F es'))) (hs : starEach (a :: es) X.env = (false, eval a X.env) :: starEach es X.env) : PA X (a :: es) (TDv G W (evTs F (.cons a' es'))) := by
  refine (pa_cons ha hr hs).imp fun σ H Q ⟨B, ρ, g, run⟩ => ?_
  simp only [evTs] at run
  refine ⟨B, ρ, g, run.bind0 fun ra ρ1 v H1 B1 g1 s1 rel1 run1 => ?_⟩
  cases e : take ρ1 ra with
  | none => rw [e] at run1; exact run1.elim
  | some p =>
    obtain ⟨d, ρ2⟩ := p
    rw [e] at run1
    obtain ⟨B2, g2, s2, r2⟩ := take_ok g1 s1 rel1 e
    have run2 : Run G (DsR G) W σ H B ρ ((evTs F es' ρ2).bind fun ds ρ => .ok (d :: ds) ρ) Q := run1
    refine ⟨B2, ρ2, g2, (run2.pre DsR.rb s2).bind0 fun ds ρ3 vs H3 B3 g3 s3 rel3 run3 => ?_⟩
    refine run3 (v :: vs) H3 B3 g3 s3 ?_
    show Reps _ _ _ (d :: ds) (v :: vs)
    simp only [Reps]
    exact ⟨v, vs, rfl, Rep.stab g2.owl s3.st r2, rel3⟩
def Es.len : Es → Nat
  | .nil => 0
  | .cons _ es => es.len + 1
theorem evTs_len : ∀ (es : Es) {ρ ρ' : Ev} {ds : List D}, evTs F es ρ = .ok ds ρ' → ds.length = es.len
  | .nil, ρ, ρ', ds, h => by simp only [evTs] at h; cases h; rfl
  | .cons e es, ρ, ρ', ds, h => by
    simp only [evTs] at h
    obtain ⟨r, ρ1, _, h⟩ := res_bind_ok h
    obtain ⟨p, ρ2, _, h⟩ := res_bind_ok h
    obtain ⟨ds', ρ3, h1, h⟩ := res_bind_ok h
    cases h
    have := evTs_len es h1
    simp [Es.len, this]
theorem s_tup {es : List Expr} {es' : Es} {x1} (hn : es'.len ≤ 10000) (h : PA X es (TDv G W (evTs F es'))) : PE X (.Tuple es x1 pos) (TEv G W (ev F (.tup es'))) := by
  refine (pe_tup h).imp fun σ H Q ⟨B, ρ, g, run⟩ => ?_
  simp only [ev] at run
  refine ⟨B, ρ, g, ?_⟩
  cases hr : evTs F es' ρ with
  | no => rw [hr] at run; exact run
  | ex x ρ1 => rw [hr] at run; exact run
  | ok ds ρ1 =>
    rw [hr] at run
    intro vs H1 B1 g1 s1 rel1
    refine ⟨by rw [← Reps.length rel1, evTs_len es' hr, sizeLine_eq]; omega, ?_⟩
    exact Run.newT g1 (Run.pre (ρ1 := ρ1) RvR.rb s1 run) rel1
theorem s_lst {es : List Expr} {es' : Es} (hn : es'.len ≤ 10000) (h : PA X es (TDv G W (evTs F es'))) : PE X (.List es pos) (TEv G W (ev F (.lst es'))) := by
  refine (pe_lst h).imp fun σ H Q ⟨B, ρ, g, run⟩ => ?_
  simp only [ev] at run
  refine ⟨B, ρ, g, ?_⟩
  cases hr : evTs F es' ρ with
  | no => rw [hr] at run; exact run
  | ex x ρ1 => rw [hr] at run; exact run
  | ok ds ρ1 =>
    rw [hr] at run
    intro vs H1 B1 g1 s1 rel1
    refine ⟨by rw [← Reps.length rel1, evTs_len es' hr, sizeLine_eq]; omega, ?_⟩
    exact Run.newL g1 (Run.pre (ρ1 := ρ1) RvR.rb s1 run) rel1
/-! ### argument lists -/
theorem a_nil : PA X [] (TAv G W (evBs F .nil)) := pa_nil.imp fun σ H Q ⟨B, ρ, g, run⟩ => by
  simp only [evBs] at run
  exact run.here g (b := []) .nil
theorem a_cons {es : List Expr} {es' : Es} (ha : PE X a (TEv G W (ev F a'))) (hr : PA X es (TAv G W (evBs F es'))) (hs : starEach (a :: es) X.env = (false, eval a X.env) :: starEach es X.env) : PA X (a :: es) (TAv G W (evBs F (.cons a' es'))) := by
  refine (pa_cons ha hr hs).imp fun σ H Q ⟨B, ρ, g, run⟩ => ?_
  simp only [evBs] at run
  refine ⟨B, ρ, g, run.bind0 fun ra ρ1 v H1 B1 g1 s1 rel1 run1 => ?_⟩
  have run1 : Run G (VsR G σ) W σ H B ρ ((evBs F es' ρ1).bind fun rs ρ => .ok (ra :: rs) ρ) Q := run1
  refine ⟨B1, ρ1, g1, Run.bind0 (R := VsR G σ) (f := fun rs ρ => .ok (ra :: rs) ρ) (R2 := fun H2 H' B' O' _ rs vs => RvsR G σ H H' B' O' rs vs) (Q := Q) ?_ fun rs ρ3 vs H3 B3 g3 s3 rel3 run3 => ?_⟩
  · cases hq : evBs F es' ρ1 with
    | no => rw [hq] at run1; exact run1
    | ex x ρ2 => rw [hq] at run1; exact Run.pre (ρ1 := ρ1) RvsR.rb s1 run1
    | ok rs ρ2 =>
      rw [hq] at run1
      exact fun vs H' B' g' s' rel => run1 vs H' B' g' (s1.trans s') rel
  · refine run3 (v :: vs) H3 B3 g3 s3 (.cons (RvRel.stab g1.owl s3.st rel1) ?_)
    exact RvsR.rb _ _ _ _ _ ρ3 _ _ s1.st.there rel3
theorem forces_ok {σ : L2.St} {H0 H : Hp} {B : Bs} {ρ : Ev} (g : Good G.K H B ρ σ) : ∀ {rs : List RV} {vs : List V} {ds : List D}, RvsR G σ H0 H B (Ow ρ σ) rs vs → forces ρ rs = some ds → Paired (fun d v => RepB G.K H B d v) ds vs
  | [], _, _, h, e => by cases h; cases e; exact .nil
  | r :: rs, _, _, h, e => by
    cases h with
    | cons h1 h2 =>
      simp only [forces] at e
      obtain ⟨d, e1, e⟩ := opt_bind_some e
      obtain ⟨ds, e2, rfl⟩ := Option.map_eq_some_iff.mp e
      exact .cons (force_ok g h1 e1) (forces_ok g h2 e2)
/-! ### slices -/
theorem o_none {σ : L2.St} {H : Hp} {R : Option Int → Hp → Prop} (h : R none H) : tNoPart σ H R := h
/-- a part of a slice -/
theorem s_sli (hK : X.K = G.K) {lo hi : Option Expr} {l' h' : E} {k m : Bool} {p2 : Pos} (ha : PE X a (TEv G W (ev F a')))
    (hl : (lo = none ∧ k = false ∧ l' = .con .non) ∨ ∃ e, lo = some e ∧ k = true ∧ PE X e (TEv G W (ev F l')))
    (hh : (hi = none ∧ m = false ∧ h' = .con .non) ∨ ∃ e, hi = some e ∧ m = true ∧ PE X e (TEv G W (ev F h'))) :
    PE X (.Subscript a (.Slice lo hi none p2) pos) (TEv G W (ev F (.sli k m a' l' h'))) := by
  -- what a part's reading asks
  have part : ∀ {o : Option Expr} {e' : E} {k : Bool}, ((o = none ∧ k = false ∧ e' = .con .non) ∨ ∃ e, o = some e ∧ k = true ∧ PE X e (TEv G W (ev F e'))) →
      ∃ t, PO X o t ∧ ∀ (σ : L2.St) (H : Hp) (B : Bs) (ρ : Ev) (R : Option Int → Hp → Prop) (γ δ : Type) (RR : Rl γ δ) (rb : Rb RR) (f : Option Int → Ev → Res γ) (Q : δ → Hp → Prop), Good G.K H B ρ σ →
        Run G RR W σ H B ρ ((ev F e' ρ).bind fun s ρ => (ofO ((force ρ s).bind (optI k)) ρ).bind f) Q →
        (∀ y ρ1 H1 B1, Good G.K H1 B1 ρ1 σ → Go H B ρ σ H1 B1 ρ1 σ → Run G RR W σ H1 B1 ρ1 (f y ρ1) Q → R y H1) → t σ H R := by
    rintro o e' k (⟨rfl, rfl, rfl⟩ | ⟨e, rfl, rfl, he⟩)
    · refine ⟨_, po_none, fun σ H B ρ R γ δ RR rb f Q g run go => ?_⟩
      simp only [ev] at run
      exact go none ρ H B g (Go.refl _ _ _ _) run
    · refine ⟨_, po_some he, fun σ H B ρ R γ δ RR rb f Q g run go => ?_⟩
      refine ⟨B, ρ, g, run.bind rb fun ra ρ1 v H1 B1 g1 s1 rel1 run1 => ?_⟩
      cases q : (force ρ1 ra).bind (optI true) with
      | none => rw [q] at run1; exact run1.elim
      | some y =>
        rw [q] at run1
        obtain ⟨x, e1, e2⟩ := opt_bind_some q
        have hx := force_ok g1 rel1 e1
        cases x <;> simp only [optI] at e2 <;> try (cases e2; done)
        case int i =>
          cases e2
          have : v = .int i := by simpa only [RepB, Rep] using hx
          exact ⟨i, this, go _ ρ1 H1 B1 g1 s1 run1⟩
  obtain ⟨tl, pl, kl⟩ := part hl
  obtain ⟨th, ph, kh⟩ := part hh
  refine (pe_slice (((sl_list (X := X)).or (sl_tupA (X := X))).or sl_str) ha pl ph).imp fun σ H Q ⟨B, ρ, g, run⟩ => ?_
  simp only [ev] at run
  refine ⟨B, ρ, g, run.bind RvR.rb fun ra ρ1 v H1 B1 g1 s1 rel1 run1 => ?_⟩
  refine kl σ H1 B1 ρ1 _ _ _ (RvR G σ) RvR.rb _ Q g1 run1 fun y ρ2 H2 B2 g2 s2 run2 => ?_
  refine kh σ H2 B2 ρ2 _ _ _ (RvR G σ) RvR.rb _ Q g2 run2 fun z ρ3 H3 B3 g3 s3 run3 => ?_
  obtain ⟨d, e0, run3⟩ := run3.ofO
  obtain ⟨d, e', rfl⟩ := Option.map_eq_some_iff.mp e0
  obtain ⟨x, e1, e⟩ := opt_bind_some e'
  have hx := force_ok g3 (RvRel.stab g1.owl (s2.trans s3).st rel1) e1
  cases x <;> simp only [slc] at e <;> try (cases e; done)
  case tup ds =>
    cases e
    simp only [RepB, Rep] at hx
    obtain ⟨p, vs, rfl, q, r⟩ := hx
    refine .inl (.inr ⟨p, vs, rfl, by rw [hK]; exact q, fun hw => ?_, fun _ p' n => run3.newT g3 (r.cut y z) p' n⟩)
    refine run3.val g3 ?_
    have ec : cutD ds y z = ds := by
      unfold cutD
      rw [r.length, hw.1, hw.2, List.drop_zero, Nat.sub_zero, ← r.length, List.take_length]
    simp only [Rep]
    exact ⟨p, vs, rfl, q, by rw [ec]; exact r⟩
  case lst ds =>
    cases e
    obtain ⟨p, vs, rfl, q, r⟩ := hx
    exact .inl (.inl ⟨p, vs, rfl, .inl (.inl q), fun p' n => run3.newL g3 (r.cut y z) p' n⟩)
  case str w =>
    split at e <;> cases e
    have : v = .str w := by simpa only [RepB, Rep] using hx
    subst this
    exact .inr ⟨w, rfl, by assumption, run3.val g3 (by simp [Rep])⟩
/-! ### a < b < c -/
theorem chain_core (hK : X.K = G.K) (hu : X.A.units + 65 < cLine) {op op' : CmpOp} {o p : Bo} (h1 : cOp op = some o) (h2 : cOp op' = some p) : ∃ r r', OpR X (compareOp op) r ∧ OpR X (compareOp op') r' ∧
    ∀ (σ : L2.St) (H : Hp) (Q : V → Hp → Prop), TEv G W (ev F (.chn o p a' b' c')) σ H Q → tChain r r' (TEv G W (ev F a')) (TEv G W (ev F b')) (TEv G W (ev F c')) σ H Q := by
  obtain ⟨r, ho, fit⟩ := cmp_ok (G := G) (W := W) hK hu h1
  obtain ⟨r', ho', fit'⟩ := cmp_ok (G := G) (W := W) hK hu h2
  refine ⟨r, r', ho, ho', fun σ H Q ⟨B, ρ, g, run⟩ => ?_⟩
  simp only [ev] at run
  refine ⟨B, ρ, g, run.bind RvR.rb fun ra ρ1 v H1 B1 g1 s1 rel1 run1 => ?_⟩
  refine ⟨B1, ρ1, g1, run1.bind RvR.rb fun rb ρ2 w H2 B2 g2 s2 rel2 run2 => ?_⟩
  have hx1 := RvRel.stab g1.owl s2.st rel1
  cases e : (force ρ2 ra).bind fun x => (force ρ2 rb).bind fun y => bop o x y with
  | none => rw [e] at run2; exact run2.elim
  | some d =>
    rw [e] at run2
    obtain ⟨x, e1, e'⟩ := opt_bind_some e
    obtain ⟨y, e2, e3⟩ := opt_bind_some e'
    obtain ⟨k, rfl⟩ := cmp_bl h1 e3
    refine fit σ H2 B2 ρ2 x y (.bl k) v w _ g2 (force_ok g2 hx1 e1) (force_ok g2 rel2 e2) e3 ?_
    intro z H3 B3 g3 s3 rel3
    refine ⟨k, new_bl rel3, ?_⟩
    cases k with
    | false => exact run2 (.bl false) H3 B3 g3 s3 (show Rep _ _ _ _ _ by simp [Rep])
    | true =>
      have run3 : Run G (RvR G σ) W σ H2 B2 ρ2 ((ev F c' ρ2).bind fun t ρ => ofO (((force ρ rb).bind fun x => (force ρ t).bind fun y => bop p x y).map RV.new) ρ) Q := run2
      refine ⟨B3, ρ2, g3, (run3.pre RvR.rb s3).bind RvR.rb fun rc ρ4 u H4 B4 g4 s4 rel4 run4 => ?_⟩
      obtain ⟨d, e0, run4⟩ := run4.ofO
      obtain ⟨d, e', rfl⟩ := Option.map_eq_some_iff.mp e0
      obtain ⟨x', e1', e''⟩ := opt_bind_some e'
      obtain ⟨y', e2', e3'⟩ := opt_bind_some e''
      exact fit' σ H4 B4 ρ4 x' y' d w u Q g4 (force_ok g4 (RvRel.stab g3.owl s4.st (RvRel.stab g2.owl s3.st rel2)) e1') (force_ok g4 rel4 e2') e3' run4
theorem s_chn (hK : X.K = G.K) (hu : X.A.units + 65 < cLine) {op op' : CmpOp} {o p : Bo} (h1 : cOp op = some o) (h2 : cOp op' = some p) (hm : lastMarks [op, op'] [b, c] = false)
    (ha : PE X a (TEv G W (ev F a'))) (hb : PE X b (TEv G W (ev F b'))) (hc : PE X c (TEv G W (ev F c'))) : PE X (.Compare a [op, op'] [b, c] pos) (TEv G W (ev F (.chn o p a' b' c'))) := by
  obtain ⟨r, r', ho, ho', k⟩ := chain_core (G := G) (F := F) (W := W) (a' := a') (b' := b') (c' := c') hK hu h1 h2
  exact (pe_chain ho ho' ha hb hc hm).imp k
theorem t_chn (hK : X.K = G.K) (hu : X.A.units + 65 < cLine) {op op' : CmpOp} {o p : Bo} (h1 : cOp op = some o) (h2 : cOp op' = some p) (hm : lastMarks [op, op'] [b, c] = false)
    (ha : PE X a (TEv G W (ev F a'))) (hb : PE X b (TEv G W (ev F b'))) (hc : PE X c (TEv G W (ev F c'))) : PT X (.Compare a [op, op'] [b, c] pos) (TTv G W (tst F (.chn o p a' b' c'))) := by
  obtain ⟨r, r', ho, ho', k⟩ := chain_core (G := G) (F := F) (W := W) (a' := a') (b' := b') (c' := c') hK hu h1 h2
  refine (pt_chain ho ho' ha hb hc hm).imp fun σ H Q ⟨B, ρ, g, run⟩ => ?_
  refine k σ H _ ⟨B, ρ, g, bool_test (fun rv ρ' e => ?_) run⟩
  simp only [ev] at e
  obtain ⟨r1, ρ1, _, e⟩ := res_bind_ok e
  obtain ⟨r2, ρ2, _, e⟩ := res_bind_ok e
  split at e
  · obtain ⟨r3, ρ3, _, e⟩ := res_bind_ok e
    obtain ⟨e, _⟩ := ofO_ok e
    obtain ⟨d, e', rfl⟩ := Option.map_eq_some_iff.mp e
    obtain ⟨x, _, e2⟩ := opt_bind_some e'
    obtain ⟨y, _, e3⟩ := opt_bind_some e2
    obtain ⟨k, rfl⟩ := cmp_bl h2 e3
    exact ⟨k, rfl⟩
  · cases e; exact ⟨false, rfl⟩
  · cases e
end
end G
end

section
set_option Elab.async false
set_option linter.all false
set_option maxRecDepth 100000
set_option maxHeartbeats 4000000
/-! G7: calls: built-ins, defs of the text, methods of a local list. -/
namespace G
open PySem PySem.Spec PyProof.Rows L2

/-! ### built-ins -/
section
variable {G : Pg} {F : Fn} {W : L2.WX} {X : Cx} {a b c : Expr} {a' b' c' : E} {pos : Pos}
abbrev RBs (G : Pg) (H : Hp) (B : Bs) (ds : List D) (vs : List V) : Prop := Paired (fun d v => RepB G.K H B d v) ds vs
def FitsP (G : Pg) (W : L2.WX) (r : List V → Hp → VK → Prop) (g : List D → Option D) : Prop := ∀ (σ : L2.St) (H : Hp) (B : Bs) (ρ : Ev) (ds : List D) (d : D) (vs : List V) (Q : V → Hp → Prop),
  Good G.K H B ρ σ → RBs G H B ds vs → g ds = some d → Run G (RvR G σ) W σ H B ρ (.ok (RV.new d) ρ) Q → r vs H Q
theorem p_call {es : List Expr} {es' : Es} {p : Pr} {r : List V → Hp → VK → Prop} (fit : FitsP G W r (prim p)) {t : L2.TE} {e : Expr} (h : PE X e t)
    (k : ∀ σ H Q, (TAv G W (evBs F es') σ H fun vs H1 => r vs H1 Q) → t σ H Q) : PE X e (TEv G W (ev F (.prim p es'))) := by
  refine h.imp fun σ H Q ⟨B, ρ, g, run⟩ => k σ H Q ?_
  simp only [ev] at run
  refine ⟨B, ρ, g, run.bind RvR.rb fun rs ρ1 vs H1 B1 g1 s1 rel1 run1 => ?_⟩
  obtain ⟨d, e0, run1⟩ := run1.ofO
  obtain ⟨d, e', rfl⟩ := Option.map_eq_some_iff.mp e0
  obtain ⟨ds, e1, e⟩ := opt_bind_some e'
  exact fit σ H1 B1 ρ1 ds d vs Q g1 (forces_ok g1 rel1 e1) e run1
theorem pr1 {K : PySem.W.Frag} {R : D → V → Prop} {d : D} {vs : List V} (h : Paired R [d] vs) : ∃ v, vs = [v] ∧ R d v := by
  cases h with
  | cons r t => cases t; exact ⟨_, rfl, r⟩
theorem pr2 {K : PySem.W.Frag} {R : D → V → Prop} {d e : D} {vs : List V} (h : Paired R [d, e] vs) : ∃ v w, vs = [v, w] ∧ R d v ∧ R e w := by
  cases h with
  | cons r t => cases t with
    | cons r' t => cases t; exact ⟨_, _, rfl, r, r'⟩
theorem pr3 {K : PySem.W.Frag} {R : D → V → Prop} {d e f : D} {vs : List V} (h : Paired R [d, e, f] vs) : ∃ v w u, vs = [v, w, u] ∧ R d v ∧ R e w ∧ R f u := by
  cases h with
  | cons r t =>
    obtain ⟨w, u, rfl, r', r''⟩ := pr2 (K := K) t
    exact ⟨_, _, _, rfl, r, r', r''⟩

/-- what a built-in name is, and its rule -/
inductive Bi where
  | fn (id : String) | ty (T : String)
def Bi.v : Bi → Value
  | .fn id => .builtin id
  | .ty T => .type T
def prOf (x : Str) (n : Nat) : Option (Pr × Bi) :=
  if x = "len" ∧ n = 1 then some (.len, .fn "len")
  else if x = "abs" ∧ n = 1 then some (.abs, .fn "abs")
  else if x = "max" ∧ n = 2 then some (.max2, .fn "max")
  else if x = "min" ∧ n = 2 then some (.min2, .fn "min")
  else if x = "int" ∧ n = 1 then some (.int, .ty "int")
  else if x = "tuple" ∧ n = 1 then some (.tuple, .ty "tuple")
  else if x = "list" ∧ n = 1 then some (.list, .ty "list")
  else if x = "max" ∧ n = 1 then some (.max1, .fn "max")
  else if x = "min" ∧ n = 1 then some (.min1, .fn "min")
  else if x = "sum" ∧ n = 1 then some (.sum, .fn "sum")
  else if x = "any" ∧ n = 1 then some (.any, .fn "any")
  else if x = "all" ∧ n = 1 then some (.all, .fn "all")
  else if x = "sorted" ∧ n = 1 then some (.sorted, .fn "sorted")
  else none
theorem fit_len (hK : X.K = G.K) : ∃ r, CallR X (.builtin "len") r ∧ FitsP G W r (prim .len) := by
  refine ⟨fun xs H Q => (∃ p ys, xs = [.ref p] ∧ (SqL X.K H p ys ∨ SqT X.K H p ys) ∧ Q (.int ys.length) H) ∨ (∃ z, xs = [.str z] ∧ z.length ≤ sizeLine ∧ Q (.int z.length) H), ?_, ?_⟩
  · intro pins s σ H xs us Q I r q
    rcases q with q | q
    · exact call_len_seq pins s σ H xs us Q I r q
    · exact call_len_str pins s σ H xs us Q I r q
  · intro σ H B ρ ds d vs Q g h e run
    unfold prim at e
    split at e <;> try (cases e; done)
    all_goals try (rename_i e0; cases e0; done)
    · cases e
      obtain ⟨v, rfl, r⟩ := pr1 (K := G.K) h
      simp only [RepB, Rep] at r
      obtain ⟨p, ys, rfl, q, r⟩ := r
      refine .inl ⟨p, ys, rfl, .inr (by rw [hK]; exact q), run.flat g rfl ?_⟩
      simp [Rep, r.length]
    · cases e
      obtain ⟨v, rfl, r⟩ := pr1 (K := G.K) h
      obtain ⟨p, ys, rfl, q, r⟩ := r
      refine .inl ⟨p, ys, rfl, .inl (.inl (.inl q)), run.flat g rfl ?_⟩
      simp [Rep, r.length]
    · split at e <;> cases e
      obtain ⟨v, rfl, r⟩ := pr1 (K := G.K) h
      simp only [RepB, Rep] at r
      subst r
      exact .inr ⟨_, rfl, by assumption, run.flat g rfl (by simp [Rep])⟩
theorem fit_abs : ∃ r, CallR X (.builtin "abs") r ∧ FitsP G W r (prim .abs) := by
  refine ⟨_, call_abs, ?_⟩
  intro σ H B ρ ds d vs Q g h e run
  unfold prim at e
  split at e <;> try (cases e; done)
  all_goals try (rename_i e0; cases e0; done)
  cases e
  obtain ⟨v, rfl, r⟩ := pr1 (K := G.K) h
  simp only [RepB, Rep] at r
  subst r
  exact ⟨_, rfl, run.flat g rfl (by simp [Rep])⟩
theorem fit_max2 (hc : X.calm = true) : ∃ r, CallR X (.builtin "max") r ∧ FitsP G W r (prim .max2) := by
  refine ⟨_, call_max2 hc, ?_⟩
  intro σ H B ρ ds d vs Q g h e run
  unfold prim at e
  split at e <;> try (cases e; done)
  all_goals try (rename_i e0; cases e0; done)
  cases e
  obtain ⟨v, w, rfl, r, r'⟩ := pr2 (K := G.K) h
  simp only [RepB, Rep] at r r'
  subst r r'
  exact ⟨_, _, rfl, run.flat g rfl (by simp [Rep])⟩
theorem fit_min2 (hc : X.calm = true) : ∃ r, CallR X (.builtin "min") r ∧ FitsP G W r (prim .min2) := by
  refine ⟨_, call_min2 hc, ?_⟩
  intro σ H B ρ ds d vs Q g h e run
  unfold prim at e
  split at e <;> try (cases e; done)
  all_goals try (rename_i e0; cases e0; done)
  cases e
  obtain ⟨v, w, rfl, r, r'⟩ := pr2 (K := G.K) h
  simp only [RepB, Rep] at r r'
  subst r r'
  exact ⟨_, _, rfl, run.flat g rfl (by simp [Rep])⟩
theorem fit_int : ∃ r, CallR X (.type "int") r ∧ FitsP G W r (prim .int) := by
  refine ⟨_, call_int1, ?_⟩
  intro σ H B ρ ds d vs Q g h e run
  unfold prim at e
  split at e <;> try (cases e; done)
  all_goals try (rename_i e0; cases e0; done)
  all_goals cases e
  · obtain ⟨v, rfl, r⟩ := pr1 (K := G.K) h
    simp only [RepB, Rep] at r
    subst r
    exact .inl ⟨_, rfl, run.flat g rfl (by simp [Rep])⟩
  · obtain ⟨v, rfl, r⟩ := pr1 (K := G.K) h
    simp only [RepB, Rep] at r
    subst r
    exact .inr ⟨_, rfl, run.flat g rfl (by simp [Rep])⟩
theorem fit_tuple (hK : X.K = G.K) : ∃ r, CallR X (.type "tuple") r ∧ FitsP G W r (prim .tuple) := by
  refine ⟨_, call_tuple_of, ?_⟩
  intro σ H B ρ ds d vs Q g h e run
  unfold prim at e
  split at e <;> try (cases e; done)
  all_goals try (rename_i e0; cases e0; done)
  all_goals cases e
  · obtain ⟨v, rfl, r⟩ := pr1 (K := G.K) h
    have r0 := r
    simp only [RepB, Rep] at r
    obtain ⟨p, ys, rfl, q, r⟩ := r
    exact ⟨p, ys, rfl, .inr ⟨by rw [hK]; exact q, run.val g r0⟩⟩
  · obtain ⟨v, rfl, r⟩ := pr1 (K := G.K) h
    obtain ⟨p, ys, rfl, q, r⟩ := r
    exact ⟨p, ys, rfl, .inl ⟨.inl (.inl q), run.newT g r⟩⟩
theorem fit_list (hK : X.K = G.K) : ∃ r, CallR X (.type "list") r ∧ FitsP G W r (prim .list) := by
  refine ⟨_, call_list_of, ?_⟩
  intro σ H B ρ ds d vs Q g h e run
  unfold prim at e
  split at e <;> try (cases e; done)
  all_goals try (rename_i e0; cases e0; done)
  all_goals cases e
  · obtain ⟨v, rfl, r⟩ := pr1 (K := G.K) h
    simp only [RepB, Rep] at r
    obtain ⟨p, ys, rfl, q, r⟩ := r
    exact ⟨p, ys, rfl, .inr (by rw [hK]; exact q), run.newL g r⟩
  · obtain ⟨v, rfl, r⟩ := pr1 (K := G.K) h
    obtain ⟨p, ys, rfl, q, r⟩ := r
    exact ⟨p, ys, rfl, .inl (.inl (.inl q)), run.newL g r⟩
/-! ### built-ins over lists of ints, of bools -/
theorem ints_reps {H : Hp} {B : Bs} : ∀ {ds : List D} {vs : List V} {is : List Int}, Reps G.K H B ds vs → isInts ds = some is → vs = is.map V.int
  | [], vs, is, h, e => by simp only [Reps] at h; cases e; exact h
  | d :: ds, vs, is, h, e => by
    simp only [Reps] at h
    obtain ⟨v, r, rfl, h1, h2⟩ := h
    cases d <;> simp only [isInts] at e <;> try (cases e; done)
    obtain ⟨js, e1, rfl⟩ := Option.map_eq_some_iff.mp e
    simp only [Rep] at h1
    rw [h1, ints_reps h2 e1, List.map_cons]
theorem bls_reps {H : Hp} {B : Bs} : ∀ {ds : List D} {vs : List V} {is : List Bool}, Reps G.K H B ds vs → isBls ds = some is → vs = is.map V.bl
  | [], vs, is, h, e => by simp only [Reps] at h; cases e; exact h
  | d :: ds, vs, is, h, e => by
    simp only [Reps] at h
    obtain ⟨v, r, rfl, h1, h2⟩ := h
    cases d <;> simp only [isBls] at e <;> try (cases e; done)
    obtain ⟨js, e1, rfl⟩ := Option.map_eq_some_iff.mp e
    simp only [Rep] at h1
    rw [h1, bls_reps h2 e1, List.map_cons]
theorem strs_reps {H : Hp} {B : Bs} : ∀ {ds : List D} {vs : List V} {is : List Str}, Reps G.K H B ds vs → isStrs ds = some is → vs = is.map V.str
  | [], vs, is, h, e => by simp only [Reps] at h; cases e; exact h
  | d :: ds, vs, is, h, e => by
    simp only [Reps] at h
    obtain ⟨v, r, rfl, h1, h2⟩ := h
    cases d <;> simp only [isStrs] at e <;> try (cases e; done)
    obtain ⟨js, e1, rfl⟩ := Option.map_eq_some_iff.mp e
    simp only [Rep] at h1
    rw [h1, strs_reps h2 e1, List.map_cons]
theorem ints_back {K : PySem.W.Frag} {H : Hp} {B : Bs} (is : List Int) : Reps K H B (is.map D.int) (is.map V.int) := by
  induction is with
  | nil => simp [Reps]
  | cons i is ih => simp only [List.map_cons, Reps, Rep]; exact ⟨_, _, rfl, rfl, ih⟩
theorem foldMax : ∀ (is : List Int) (i : Int), (is.foldl (fun a b => if a < b then b else a) i = i ∨ is.foldl (fun a b => if a < b then b else a) i ∈ is) ∧ i ≤ is.foldl (fun a b => if a < b then b else a) i ∧ ∀ y ∈ is, y ≤ is.foldl (fun a b => if a < b then b else a) i
  | [], i => ⟨.inl rfl, Int.le_refl _, fun _ h => by cases h⟩
  | j :: is, i => by
    obtain ⟨h1, h2, h3⟩ := foldMax is (if i < j then j else i)
    simp only [List.foldl_cons]
    refine ⟨?_, ?_, fun y hy => ?_⟩
    · rcases h1 with h1 | h1
      · rw [h1]
        split
        · exact .inr (List.mem_cons_self)
        · exact .inl rfl
      · exact .inr (List.mem_cons_of_mem _ h1)
    · refine Int.le_trans ?_ h2
      split <;> omega
    · rcases List.mem_cons.mp hy with rfl | hy
      · refine Int.le_trans ?_ h2
        split <;> omega
      · exact h3 y hy
theorem foldMin : ∀ (is : List Int) (i : Int), (is.foldl (fun a b => if b < a then b else a) i = i ∨ is.foldl (fun a b => if b < a then b else a) i ∈ is) ∧ is.foldl (fun a b => if b < a then b else a) i ≤ i ∧ ∀ y ∈ is, is.foldl (fun a b => if b < a then b else a) i ≤ y
  | [], i => ⟨.inl rfl, Int.le_refl _, fun _ h => by cases h⟩
  | j :: is, i => by
    obtain ⟨h1, h2, h3⟩ := foldMin is (if j < i then j else i)
    simp only [List.foldl_cons]
    refine ⟨?_, ?_, fun y hy => ?_⟩
    · rcases h1 with h1 | h1
      · rw [h1]
        split
        · exact .inr (List.mem_cons_self)
        · exact .inl rfl
      · exact .inr (List.mem_cons_of_mem _ h1)
    · refine Int.le_trans h2 ?_
      split <;> omega
    · rcases List.mem_cons.mp hy with rfl | hy
      · refine Int.le_trans h2 ?_
        split <;> omega
      · exact h3 y hy
theorem maxI_ok {is : List Int} {M : Int} (h : maxI is = some M) : M ∈ is ∧ ∀ y ∈ is, y ≤ M := by
  cases is with
  | nil => cases h
  | cons i is =>
    cases h
    obtain ⟨h1, h2, h3⟩ := foldMax is i
    exact ⟨h1.elim (fun h => by rw [h]; exact List.mem_cons_self) (List.mem_cons_of_mem _), fun y hy => (List.mem_cons.mp hy).elim (fun e => e ▸ h2) (h3 y)⟩
theorem minI_ok {is : List Int} {M : Int} (h : minI is = some M) : M ∈ is ∧ ∀ y ∈ is, M ≤ y := by
  cases is with
  | nil => cases h
  | cons i is =>
    cases h
    obtain ⟨h1, h2, h3⟩ := foldMin is i
    exact ⟨h1.elim (fun h => by rw [h]; exact List.mem_cons_self) (List.mem_cons_of_mem _), fun y hy => (List.mem_cons.mp hy).elim (fun e => e ▸ h2) (h3 y)⟩
section
variable {prog : Program} {w : World} {A : Around} {E : Value → Shared → Prop} {s : Shared} {l : Addr} {xs : Array (Int × Tok)} {its : List Value} {ns : List Int}
theorem iter_intTup {Q : Value → Shared → Prop} {items : Array Value} (hl : s.heap.IsTuple l items)
    (h : ∀ s₂ : Shared, s₂ = { s with heap := s.heap.push { cls := .type "tuple_iterator", data := .fields #[.ref l, .int 0 0] } } →
      (s₂.heap.IsTupleIter s.heap.objs.size l 0 ∧ s₂.heap.IsTuple l items) → (∀ b ∈ [s.heap.objs.size, l], b < s₂.heap.objs.size) → l ≠ s.heap.objs.size → Q (.ref s.heap.objs.size) s₂) :
    wpAny (model prog w) A (pyIter (.ref l)) Q E s := by
  have hlt : l < s.heap.objs.size := by obtain ⟨_, e, _⟩ := hl; exact Heap.lt_size e
  refine wpAny_pyIter_tuple hl (h _ rfl ⟨⟨_, Heap.get?_push_size _ rfl, rfl, rfl⟩, hl.push _⟩ (fun b hb => ?_) (Nat.ne_of_lt hlt))
  show b < (s.heap.push _).objs.size
  rw [Heap.size_push]
  rcases List.mem_cons.mp hb with rfl | hb
  · exact Nat.lt_succ_self _
  · rcases List.mem_cons.mp hb with rfl | hb
    · exact Nat.lt_succ_of_lt hlt
    · cases hb
theorem old_keptT {o1 : Obj} {h' : Heap} (hk : ∀ (b : Addr) (o : Obj), ¬ b ∈ [s.heap.objs.size] → (s.heap.push o1).get? b = some o → h'.get? b = some o) : ∀ b o, s.heap.get? b = some o → h'.get? b = some o := fun b o eo => hk b o (fun hmem => by
  rcases List.mem_cons.mp hmem with e1 | hmem
  · exact absurd (e1 ▸ Heap.lt_size eo) (Nat.lt_irrefl _)
  · cases hmem) (Heap.get?_push_of_some _ eo)
theorem maxT_raw {Q : Value → Shared → Prop} (hh : A.handled = none) (hl : s.heap.IsTuple l its.toArray) (hi : IntsAre its ns) (hne : 0 < ns.length)
    (h : ∀ h' tk M t', (∀ b o, s.heap.get? b = some o → h'.get? b = some o) → M ∈ ns → (∀ a, a ∈ ns → a ≤ M) → Q (.int M t') { s with heap := h', toks := tk }) : wpAny (model prog w) A (call (.builtin "max") [.ref l]) Q E s := by
  obtain ⟨xs, e⟩ := hi.allInts.items
  have hn : numsOf (intItems xs).toList = ns := by rw [← e]; exact hi.numsOf
  rw [nums_intItems] at hn
  subst hn
  rw [e] at hl
  have hsz : 0 < xs.size := by simpa using hne
  refine call_max_walk (iter_intTup hl fun s₂ e st hfp hlI => ?_)
  subst e
  refine ⟨_, _, _, _, _, _, _, rfl, Walks.tuple (A := A.in1) hh _ l hlI (intItems xs), st, hfp, by simpa [intItems] using hsz, CmpOf.ints_gt (numAt xs) (fun _ _ => intItems_at), fun v h' tk hP hk => ?_⟩
  have hv : (intItems xs)[argBest (fun i j => decide (numAt xs i > numAt xs j)) (xs.size - 1)]? = some v := by simpa [intItems] using hP
  obtain ⟨t, rfl⟩ := intItems_at hv
  obtain ⟨h1, h2⟩ := argBest_gt (numAt xs) (xs.size - 1)
  refine h h' tk _ t (old_keptT hk) ?_ fun a ha => ?_
  · rw [numAt_eq]; exact PySem.getD_mem (by rw [List.length_map, Array.length_toList]; omega)
  · obtain ⟨j, hj, rfl⟩ := mem_getD ha
    rw [List.length_map, Array.length_toList] at hj
    rw [← numAt_eq]; exact h2 j (by omega)
theorem minT_raw {Q : Value → Shared → Prop} (hh : A.handled = none) (hl : s.heap.IsTuple l its.toArray) (hi : IntsAre its ns) (hne : 0 < ns.length)
    (h : ∀ h' tk M t', (∀ b o, s.heap.get? b = some o → h'.get? b = some o) → M ∈ ns → (∀ a, a ∈ ns → M ≤ a) → Q (.int M t') { s with heap := h', toks := tk }) : wpAny (model prog w) A (call (.builtin "min") [.ref l]) Q E s := by
  obtain ⟨xs, e⟩ := hi.allInts.items
  have hn : numsOf (intItems xs).toList = ns := by rw [← e]; exact hi.numsOf
  rw [nums_intItems] at hn
  subst hn
  rw [e] at hl
  have hsz : 0 < xs.size := by simpa using hne
  refine call_min_walk (iter_intTup hl fun s₂ e st hfp hlI => ?_)
  subst e
  refine ⟨_, _, _, _, _, _, _, rfl, Walks.tuple (A := A.in1) hh _ l hlI (intItems xs), st, hfp, by simpa [intItems] using hsz, CmpOf.ints_lt (numAt xs) (fun _ _ => intItems_at), fun v h' tk hP hk => ?_⟩
  have hv : (intItems xs)[argBest (fun i j => decide (numAt xs i < numAt xs j)) (xs.size - 1)]? = some v := by simpa [intItems] using hP
  obtain ⟨t, rfl⟩ := intItems_at hv
  obtain ⟨h1, h2⟩ := argBest_lt (numAt xs) (xs.size - 1)
  refine h h' tk _ t (old_keptT hk) ?_ fun a ha => ?_
  · rw [numAt_eq]; exact PySem.getD_mem (by rw [List.length_map, Array.length_toList]; omega)
  · obtain ⟨j, hj, rfl⟩ := mem_getD ha
    rw [List.length_map, Array.length_toList] at hj
    rw [← numAt_eq]; exact h2 j (by omega)
end
def rMaxA (K : PySem.W.Frag) : List V → Hp → VK → Prop := fun vs H Q => ∃ (a : Addr) (ns : List Int), vs = [V.ref a] ∧ (SqL K H a (ns.map V.int) ∨ SqT K H a (ns.map V.int)) ∧ 0 < ns.length ∧ ∀ m, m ∈ ns → (∀ y, y ∈ ns → y ≤ m) → Q (.int m) H
def rMinA (K : PySem.W.Frag) : List V → Hp → VK → Prop := fun vs H Q => ∃ (a : Addr) (ns : List Int), vs = [V.ref a] ∧ (SqL K H a (ns.map V.int) ∨ SqT K H a (ns.map V.int)) ∧ 0 < ns.length ∧ ∀ m, m ∈ ns → (∀ y, y ∈ ns → m ≤ y) → Q (.int m) H
theorem cr_maxA (hc : X.calm = true) : CallR X (.builtin "max") (rMaxA X.K) := by
  intro pins s σ H vs us Q I r h
  obtain ⟨a, ns, rfl, hs, hne, q⟩ := h
  rcases hs with hs | hs
  · exact cr_max hc pins s σ H _ us Q I r ⟨a, ns, rfl, hs, hne, q⟩
  · obtain ⟨its, rv, hl, _⟩ := I.tuple hs
    rw [Vals.ref1 r]
    exact maxT_raw (I.ok.hd hc) hl rv.ints hne fun h' tk m t' hk h1 h2 => ⟨.int _, H, I.kept hk, ⟨_, rfl⟩, q m h1 h2⟩
theorem cr_minA (hc : X.calm = true) : CallR X (.builtin "min") (rMinA X.K) := by
  intro pins s σ H vs us Q I r h
  obtain ⟨a, ns, rfl, hs, hne, q⟩ := h
  rcases hs with hs | hs
  · exact cr_min hc pins s σ H _ us Q I r ⟨a, ns, rfl, hs, hne, q⟩
  · obtain ⟨its, rv, hl, _⟩ := I.tuple hs
    rw [Vals.ref1 r]
    exact minT_raw (I.ok.hd hc) hl rv.ints hne fun h' tk m t' hk h1 h2 => ⟨.int _, H, I.kept hk, ⟨_, rfl⟩, q m h1 h2⟩
theorem elems_reps {H : Hp} {B : Bs} {d : D} {v : V} {ds : List D} {is : List Int} (hK : X.K = G.K) (r : RepB G.K H B d v) (e : elems d = some ds) (e2 : isInts ds = some is) : ∃ a, v = .ref a ∧ (SqL X.K H a (is.map V.int) ∨ SqT X.K H a (is.map V.int)) := by
  cases d <;> simp only [elems] at e <;> cases e
  · simp only [RepB, Rep] at r
    obtain ⟨a, vs, rfl, q, r⟩ := r
    rw [ints_reps r e2] at q
    exact ⟨a, rfl, .inr (by rw [hK]; exact q)⟩
  · obtain ⟨a, vs, rfl, q, r⟩ := r
    rw [ints_reps r e2] at q
    exact ⟨a, rfl, .inl (.inl (.inl q))⟩
theorem fit_max1 (hK : X.K = G.K) (hc : X.calm = true) : ∃ r, CallR X (.builtin "max") r ∧ FitsP G W r (prim .max1) := by
  refine ⟨_, cr_maxA hc, ?_⟩
  intro σ H B ρ ds d vs Q g h e run
  unfold prim at e
  split at e <;> try (cases e; done)
  all_goals try (rename_i e0; cases e0; done)
  obtain ⟨is, e1, e2⟩ := opt_bind_some e
  obtain ⟨es, e3, e4⟩ := opt_bind_some e1
  obtain ⟨M, e5, rfl⟩ := Option.map_eq_some_iff.mp e2
  obtain ⟨v, rfl, r⟩ := pr1 (K := G.K) h
  obtain ⟨a, rfl, q⟩ := elems_reps hK r e3 e4
  obtain ⟨h1, h2⟩ := maxI_ok e5
  refine ⟨a, is, rfl, q, List.length_pos_of_mem h1, fun m m1 m2 => ?_⟩
  have : m = M := Int.le_antisymm (h2 m m1) (m2 M h1)
  subst this
  exact run.flat g rfl (by simp [Rep])
theorem fit_min1 (hK : X.K = G.K) (hc : X.calm = true) : ∃ r, CallR X (.builtin "min") r ∧ FitsP G W r (prim .min1) := by
  refine ⟨_, cr_minA hc, ?_⟩
  intro σ H B ρ ds d vs Q g h e run
  unfold prim at e
  split at e <;> try (cases e; done)
  all_goals try (rename_i e0; cases e0; done)
  obtain ⟨is, e1, e2⟩ := opt_bind_some e
  obtain ⟨es, e3, e4⟩ := opt_bind_some e1
  obtain ⟨M, e5, rfl⟩ := Option.map_eq_some_iff.mp e2
  obtain ⟨v, rfl, r⟩ := pr1 (K := G.K) h
  obtain ⟨a, rfl, q⟩ := elems_reps hK r e3 e4
  obtain ⟨h1, h2⟩ := minI_ok e5
  refine ⟨a, is, rfl, q, List.length_pos_of_mem h1, fun m m1 m2 => ?_⟩
  have : m = M := Int.le_antisymm (m2 M h1) (h2 m m1)
  subst this
  exact run.flat g rfl (by simp [Rep])
theorem fit_sum (hK : X.K = G.K) (hc : X.calm = true) : ∃ r, CallR X (.builtin "sum") r ∧ FitsP G W r (prim .sum) := by
  refine ⟨_, cr_sum hc, ?_⟩
  intro σ H B ρ ds d vs Q g h e run
  unfold prim at e
  split at e <;> try (cases e; done)
  all_goals try (rename_i e0; cases e0; done)
  obtain ⟨is, e1, rfl⟩ := Option.map_eq_some_iff.mp e
  obtain ⟨v, rfl, r⟩ := pr1 (K := G.K) h
  obtain ⟨a, vs, rfl, q, r⟩ := r
  rw [ints_reps r e1] at q
  exact ⟨a, is, rfl, .inl (.inl q), run.flat g rfl (by simp [Rep])⟩
theorem fit_any (hK : X.K = G.K) (hc : X.calm = true) : ∃ r, CallR X (.builtin "any") r ∧ FitsP G W r (prim .any) := by
  refine ⟨_, cr_any hc, ?_⟩
  intro σ H B ρ ds d vs Q g h e run
  unfold prim at e
  split at e <;> try (cases e; done)
  all_goals try (rename_i e0; cases e0; done)
  obtain ⟨is, e1, rfl⟩ := Option.map_eq_some_iff.mp e
  obtain ⟨v, rfl, r⟩ := pr1 (K := G.K) h
  obtain ⟨a, vs, rfl, q, r⟩ := r
  rw [bls_reps r e1] at q
  exact ⟨a, is, rfl, .inl (.inl q), run.flat g rfl (by simp [Rep])⟩
theorem fit_all (hK : X.K = G.K) (hc : X.calm = true) : ∃ r, CallR X (.builtin "all") r ∧ FitsP G W r (prim .all) := by
  refine ⟨_, cr_all hc, ?_⟩
  intro σ H B ρ ds d vs Q g h e run
  unfold prim at e
  split at e <;> try (cases e; done)
  all_goals try (rename_i e0; cases e0; done)
  obtain ⟨is, e1, rfl⟩ := Option.map_eq_some_iff.mp e
  obtain ⟨v, rfl, r⟩ := pr1 (K := G.K) h
  obtain ⟨a, vs, rfl, q, r⟩ := r
  rw [bls_reps r e1] at q
  exact ⟨a, is, rfl, .inl (.inl q), run.flat g rfl (by simp [Rep])⟩
theorem insI_perm (i : Int) : ∀ is, (insI i is).Perm (i :: is)
  | [] => .refl _
  | j :: is => by
    unfold insI
    split
    · exact .refl _
    · exact ((insI_perm i is).cons j).trans (.swap i j is)
theorem sortI_perm : ∀ is, (sortI is).Perm is
  | [] => .refl _
  | i :: is => (insI_perm i _).trans ((sortI_perm is).cons i)
theorem insI_sorted (i : Int) : ∀ is, is.Pairwise (· ≤ ·) → (insI i is).Pairwise (· ≤ ·)
  | [], _ => by simp [insI]
  | j :: is, h => by
    unfold insI
    have hj : ∀ {k : Int}, k ∈ is → j ≤ k := fun hk => List.rel_of_pairwise_cons h hk
    split
    · rename_i hij
      refine List.Pairwise.cons (fun k hk => ?_) h
      rcases List.mem_cons.mp hk with rfl | hk
      · exact hij
      · exact Int.le_trans hij (hj hk)
    · rename_i hij
      refine List.Pairwise.cons (fun k hk => ?_) (insI_sorted i is (List.Pairwise.of_cons h))
      rcases List.mem_cons.mp ((insI_perm i is).mem_iff.mp hk) with rfl | hk
      · omega
      · exact hj hk
theorem sortI_sorted : ∀ is, (sortI is).Pairwise (· ≤ ·)
  | [] => by simp [sortI]
  | i :: is => insI_sorted i _ (sortI_sorted is)
theorem sorted_one {as bs : List Int} (h : as.Perm bs) (ha : as.Pairwise (· ≤ ·)) (hb : bs.Pairwise (· ≤ ·)) : as = bs :=
  h.eq_of_pairwise (fun a b _ _ h1 h2 => Int.le_antisymm h1 h2) ha hb
theorem fit_sorted (hK : X.K = G.K) : ∃ r, CallR X (.builtin "sorted") r ∧ FitsP G W r (prim .sorted) := by
  refine ⟨_, cr_sorted, ?_⟩
  intro σ H B ρ ds d vs Q g h e run
  unfold prim at e
  split at e <;> try (cases e; done)
  all_goals try (rename_i e0; cases e0; done)
  obtain ⟨is, e1, e2⟩ := opt_bind_some e
  split at e2 <;> cases e2
  obtain ⟨v, rfl, r⟩ := pr1 (K := G.K) h
  obtain ⟨a, vs, rfl, q, r⟩ := r
  rw [ints_reps r e1] at q
  refine ⟨a, is, rfl, .inl (.inl q), by assumption, fun ns' p h1 h2 n => ?_⟩
  have : ns' = sortI is := sorted_one (h1.trans (sortI_perm is).symm) h2 (sortI_sorted is)
  subst this
  exact run.newL g (ints_back _) p n
theorem pr_ok (hK : X.K = G.K) (hc : X.calm = true) {x : Str} {n : Nat} {p : Pr} {bi : Bi} (h : prOf x n = some (p, bi)) :
    bootBuiltins x = some bi.v ∧ x ≠ "__name__" ∧ (x == ("__debug__" : Str)) = false ∧ ∃ r, CallR X bi.v r ∧ FitsP G W r (prim p) := by
  unfold prOf at h
  by_cases c : x = "len" ∧ n = 1
  · rw [if_pos c] at h
    obtain ⟨rfl, rfl⟩ := c
    cases h
    exact ⟨by decide +kernel, by decide, by decide, fit_len hK⟩
  rw [if_neg c] at h
  clear c
  by_cases c : x = "abs" ∧ n = 1
  · rw [if_pos c] at h
    obtain ⟨rfl, rfl⟩ := c
    cases h
    exact ⟨by decide +kernel, by decide, by decide, fit_abs⟩
  rw [if_neg c] at h
  clear c
  by_cases c : x = "max" ∧ n = 2
  · rw [if_pos c] at h
    obtain ⟨rfl, rfl⟩ := c
    cases h
    exact ⟨by decide +kernel, by decide, by decide, fit_max2 hc⟩
  rw [if_neg c] at h
  clear c
  by_cases c : x = "min" ∧ n = 2
  · rw [if_pos c] at h
    obtain ⟨rfl, rfl⟩ := c
    cases h
    exact ⟨by decide +kernel, by decide, by decide, fit_min2 hc⟩
  rw [if_neg c] at h
  clear c
  by_cases c : x = "int" ∧ n = 1
  · rw [if_pos c] at h
    obtain ⟨rfl, rfl⟩ := c
    cases h
    exact ⟨by decide +kernel, by decide, by decide, fit_int⟩
  rw [if_neg c] at h
  clear c
  by_cases c : x = "tuple" ∧ n = 1
  · rw [if_pos c] at h
    obtain ⟨rfl, rfl⟩ := c
    cases h
    exact ⟨by decide +kernel, by decide, by decide, fit_tuple hK⟩
  rw [if_neg c] at h
  clear c
  by_cases c : x = "list" ∧ n = 1
  · rw [if_pos c] at h
    obtain ⟨rfl, rfl⟩ := c
    cases h
    exact ⟨by decide +kernel, by decide, by decide, fit_list hK⟩
  rw [if_neg c] at h
  clear c
  by_cases c : x = "max" ∧ n = 1
  · rw [if_pos c] at h
    obtain ⟨rfl, rfl⟩ := c
    cases h
    exact ⟨by decide +kernel, by decide, by decide, fit_max1 hK hc⟩
  rw [if_neg c] at h
  clear c
  by_cases c : x = "min" ∧ n = 1
  · rw [if_pos c] at h
    obtain ⟨rfl, rfl⟩ := c
    cases h
    exact ⟨by decide +kernel, by decide, by decide, fit_min1 hK hc⟩
  rw [if_neg c] at h
  clear c
  by_cases c : x = "sum" ∧ n = 1
  · rw [if_pos c] at h
    obtain ⟨rfl, rfl⟩ := c
    cases h
    exact ⟨by decide +kernel, by decide, by decide, fit_sum hK hc⟩
  rw [if_neg c] at h
  clear c
  by_cases c : x = "any" ∧ n = 1
  · rw [if_pos c] at h
    obtain ⟨rfl, rfl⟩ := c
    cases h
    exact ⟨by decide +kernel, by decide, by decide, fit_any hK hc⟩
  rw [if_neg c] at h
  clear c
  by_cases c : x = "all" ∧ n = 1
  · rw [if_pos c] at h
    obtain ⟨rfl, rfl⟩ := c
    cases h
    exact ⟨by decide +kernel, by decide, by decide, fit_all hK hc⟩
  rw [if_neg c] at h
  clear c
  by_cases c : x = "sorted" ∧ n = 1
  · rw [if_pos c] at h
    obtain ⟨rfl, rfl⟩ := c
    cases h
    exact ⟨by decide +kernel, by decide, by decide, fit_sorted hK⟩
  rw [if_neg c] at h
  clear c
  cases h
theorem s_prim (hK : X.K = G.K) (hc : X.calm = true) {x : Str} {n : Nat} {p : Pr} {bi : Bi} (h : prOf x n = some (p, bi)) (hg : Gl X x) (hm : X.mg x = none) {es : List Expr} {es' : Es} {pp : Pos} (ha : PA X (a :: es) (TAv G W (evBs F es')))
    (he : starEach (a :: es) X.env = (false, eval a X.env) :: starEach es X.env) (hpl : (backTo pos (starEach es X.env)).any (·.1) = false) : PE X (.Call (.Name x pp) (a :: es) [] pos) (TEv G W (ev F (.prim p es'))) := by
  obtain ⟨hb, hn, hd, r, hr, fit⟩ := pr_ok (G := G) (W := W) hK hc h
  cases bi with
  | fn id => exact p_call (es := []) fit (pe_callB hr hg hm hb ha hn hd he hpl) fun σ H Q q => q
  | ty T => exact p_call (es := []) fit (pe_callTy hr hg hm hb ha hn hd he hpl) fun σ H Q q => q
/-! ### isinstance -/
def isOf (t : Str) : Option (Pr × String) :=
  if t = "int" then some (.isInt, "int") else if t = "bool" then some (.isBool, "bool") else if t = "tuple" then some (.isTuple, "tuple") else if t = "str" then some (.isStr, "str") else none
def _root_.G.D.ty : D → String
  | .non => "NoneType" | .bl _ => "bool" | .int _ => "int" | .str _ => "str" | .tup _ => "tuple" | .lst _ => "list" | .frl _ => "list"
theorem tyx_of (hK : X.K = G.K) {H : Hp} {B : Bs} {d : D} {v : V} (h : RepB G.K H B d v) : ∃ T : String, TyX X.K H v (.type T) ∧
    T = d.ty := by
  refine ⟨_, ?_, rfl⟩
  cases d with
  | non => have h : v = .non := by simpa only [RepB, Rep] using h
           subst h; exact .base .non
  | bl b => have h : v = .bl b := by simpa only [RepB, Rep] using h
            subst h; exact .base (.bl b)
  | int b => have h : v = .int b := by simpa only [RepB, Rep] using h
             subst h; exact .base (.int b)
  | str b => have h : v = .str b := by simpa only [RepB, Rep] using h
             subst h; exact .base (.str b)
  | tup ds =>
    simp only [RepB, Rep] at h
    obtain ⟨p, ys, rfl, q, r⟩ := h
    rcases q with (q | ⟨o, q⟩) | ⟨o, its, n, hk, hc, _⟩
    · exact .base (.tup q)
    · exact .fTuple q
    · exact .kTuple (by rw [hK]; exact hk) hc
  | lst ds =>
    obtain ⟨p, ys, rfl, q, r⟩ := h
    exact .base (.lst q)
  | frl ds =>
    simp only [RepB, Rep] at h
    obtain ⟨p, ys, rfl, q, r⟩ := h
    rcases q with ⟨o, q⟩ | ⟨o, its, n, hk, hc, _⟩
    · exact .base (.frz q)
    · exact .kList (by rw [hK]; exact hk) hc
theorem is_ok {t : Str} {p : Pr} {T : String} (h : isOf t = some (p, T)) : bootBuiltins t = some (.type T) ∧ t ≠ "__name__" ∧ (t == ("__debug__" : Str)) = false ∧
    ∀ d e, prim p [d] = some e → ∃ k, e = .bl k ∧ kitB d.ty T = some k := by
  unfold isOf at h
  repeat' (split at h; · (rename_i c; subst c; cases h; refine ⟨by decide +kernel, by decide, by decide, fun d e q => ?_⟩; cases d <;> (simp only [prim] at q; cases q; refine ⟨_, rfl, ?_⟩; simp only [D.ty]; decide +kernel)))
  cases h
theorem s_isi (hK : X.K = G.K) {t : Str} {p : Pr} {T : String} (h : isOf t = some (p, T)) (hg : Gl X "isinstance") (hm : X.mg "isinstance" = none) (hg2 : Gl X t) (hm2 : X.mg t = none) {pp p2 : Pos} (ha : PE X a (TEv G W (ev F a')))
    (he : starEach [a, .Name t p2] X.env = [(false, eval a X.env), (false, eval (.Name t p2) X.env)]) (he2 : starEach [.Name t p2] X.env = [(false, eval (.Name t p2) X.env)]) : PE X (.Call (.Name "isinstance" pp) [a, .Name t p2] [] pos) (TEv G W (ev F (.prim p (.cons a' .nil)))) := by
  obtain ⟨hb, hn, hd, key⟩ := is_ok h
  have pa : PA X [a, .Name t p2] (tCons (TEv G W (ev F a')) (tCons (tC (.ty T)) tNil)) := pa_cons ha (pa_cons (pe_bltn hg2 hm2 hb rfl hn hd) pa_nil (by rw [he2]; rfl)) (by rw [he, he2])
  refine (pe_callB call_isi hg hm boot_isinstance pa (by decide) (by decide) (by rw [he, he2]) (by rw [he2]; rfl)).imp fun σ H Q ⟨B, ρ, g, run⟩ => ?_
  simp only [ev, evBs, Res.bind_assoc] at run
  refine ⟨B, ρ, g, run.bind RvR.rb fun ra ρ1 v H1 B1 g1 s1 rel1 run1 => ?_⟩
  have run1 : Run G (RvR G σ) W σ H1 B1 ρ1 (ofO (((forces ρ1 [ra]).bind (prim p)).map RV.new) ρ1) Q := run1
  obtain ⟨d, e0, run1⟩ := run1.ofO
  obtain ⟨d, e', rfl⟩ := Option.map_eq_some_iff.mp e0
  obtain ⟨ds, e1, e⟩ := opt_bind_some e'
  simp only [forces] at e1
  obtain ⟨x, e2, e3⟩ := opt_bind_some e1
  cases e3
  obtain ⟨k, rfl, hk⟩ := key x d e
  obtain ⟨T', ty, hT⟩ := tyx_of hK (force_ok g1 rel1 e2)
  subst hT
  exact ⟨v, .ty T, _, _, k, rfl, .ty T, ty, kit_ty hk, run1.flat g1 rfl (by simp [Rep])⟩
end
end G
end

section
set_option Elab.async false
set_option linter.all false
set_option maxRecDepth 100000
set_option maxHeartbeats 4000000
/-! G8: calls of the text's own defs. -/
namespace G
open PySem PySem.Spec PyProof.Rows L2

/-- what an exception that left a call has done to the lists handed in -/
def IosRel (K : PySem.W.Frag) (H : Hp) (B : Bs) : List Sl → List V → List D → Prop
  | [], _, ds => ds = []
  | .io _ :: as, v :: vs, d :: ds => (∃ a, v = .ref a ∧ B a ∧ Own K H B d a) ∧ IosRel K H B as vs ds
  | .io _ :: _, _, _ => False
  | _ :: as, _ :: vs, ds => IosRel K H B as vs ds
  | _ :: _, [], _ => False
def OutR (K : PySem.W.Frag) (H₀ H : Hp) (B : Bs) : Bool → D → V → Prop
  | false, d, v => Rep K H B d v
  | true, d, v => ∃ a, v = .ref a ∧ H₀ a = none ∧ B a ∧ Own K H B d a
/-- the promise of the def f as the evaluator tells it -/
def spOf (G : Pg) (F : Fn) (f : Nat) : Sp := fun vs H Q E => ∃ B args, Good G.K H B args (vs.map some) ∧ match F f args with
  | .rt o d ios => ∀ v H' B', Step H B (Ow args (vs.map some)) H' B' (Ow args (vs.map some)) → IosRel G.K H' B' args vs ios → OutR G.K H H' B' o d v → Q v H'
  | .ex x ios => ∀ cls dd H' B', Step H B (Ow args (vs.map some)) H' B' (Ow args (vs.map some)) → IosRel G.K H' B' args vs ios → XRel G x cls dd H' → E cls dd H'
  | .no => False

section
variable {G : Pg} {F : Fn} {W : L2.WX} {X : Cx} {a b c : Expr} {a' b' c' : E} {pos : Pos}
/-! ### arguments of a call -/
theorem held_ok {K : PySem.W.Frag} {H H0 : Hp} {B B0 : Bs} {ρ ρ0 : Ev} {σ σ0 : L2.St} (g : Good K H B ρ σ) (s : Go H0 B0 ρ0 σ0 H B ρ σ) {rv : RV} {v : V} (h : RvRel K H0 H B (Ow ρ σ) σ rv v) :
    ∃ B', Good K H B' ρ σ ∧ Go H0 B0 ρ0 σ0 H B' ρ σ ∧ RvRel K H0 H B' (Ow ρ σ) σ rv.held v := by
  cases rv with
  | val d => exact ⟨B, g, s, h⟩
  | slot i => exact ⟨B, g, s, h⟩
  | own d =>
    obtain ⟨B', g', s', r⟩ := take_ok (d := d) (ρ' := ρ) g s h rfl
    exact ⟨B', g', s', r⟩
theorem c_nil : PA X [] (TAv G W (evCs F .nil)) := pa_nil.imp fun σ H Q ⟨B, ρ, g, run⟩ => by
  simp only [evCs] at run
  exact run.here g (b := []) .nil
theorem c_cons {es : List Expr} {es' : Es} (ha : PE X a (TEv G W (ev F a'))) (hr : PA X es (TAv G W (evCs F es'))) (hs : starEach (a :: es) X.env = (false, eval a X.env) :: starEach es X.env) : PA X (a :: es) (TAv G W (evCs F (.cons a' es'))) := by
  refine (pa_cons ha hr hs).imp fun σ H Q ⟨B, ρ, g, run⟩ => ?_
  simp only [evCs] at run
  refine ⟨B, ρ, g, run.bind0 fun ra ρ1 v H1 B1' g1' s1' rel1' run1 => ?_⟩
  obtain ⟨B1, g1, s1, rel1⟩ := held_ok g1' s1' rel1'
  have run1 : Run G (VsR G σ) W σ H B ρ ((evCs F es' ρ1).bind fun rs ρ => .ok (ra.held :: rs) ρ) Q := run1
  refine ⟨B1, ρ1, g1, Run.bind0 (R := VsR G σ) (f := fun rs ρ => .ok (ra.held :: rs) ρ) (R2 := fun H2 H' B' O' _ rs vs => RvsR G σ H H' B' O' rs vs) (Q := Q) ?_ fun rs ρ3 vs H3 B3 g3 s3 rel3 run3 => ?_⟩
  · cases hq : evCs F es' ρ1 with
    | no => rw [hq] at run1; exact run1
    | ex x ρ2 => rw [hq] at run1; exact Run.pre (ρ1 := ρ1) RvsR.rb s1 run1
    | ok rs ρ2 =>
      rw [hq] at run1
      exact fun vs H' B' g' s' rel => run1 vs H' B' g' (s1.trans s') rel
  · refine run3 (v :: vs) H3 B3 g3 s3 (.cons (RvRel.stab g1.owl s3.st rel1) ?_)
    exact RvsR.rb _ _ _ _ _ ρ3 _ _ s1.st.there rel3

/-- which slots are handed in to be changed -/
def IoAt (io : List Bool) (rs : List RV) (j i : Nat) : Prop := io[j]? = some true ∧ rs[j]? = some (.slot i)
theorem rvs_at {σ : L2.St} {H0 H : Hp} {B O : Bs} : ∀ {rs : List RV} {vs : List V} {j : Nat} {r : RV}, RvsR G σ H0 H B O rs vs → rs[j]? = some r → ∃ v, vs[j]? = some v ∧ RvRel G.K H0 H B O σ r v
  | [], _, _, _, _, e => by simp at e
  | r :: rs, _, 0, _, h, e => by
    cases h with
    | cons h1 h2 => simp at e; subst e; exact ⟨_, rfl, h1⟩
  | r :: rs, _, j + 1, _, h, e => by
    cases h with
    | cons h1 h2 => exact rvs_at (j := j) h2 (by simpa using e)
theorem rvs_len {σ : L2.St} {H0 H : Hp} {B O : Bs} : ∀ {rs : List RV} {vs : List V}, RvsR G σ H0 H B O rs vs → rs.length = vs.length
  | [], _, h => by cases h; rfl
  | r :: rs, _, h => by
    cases h with
    | cons _ t => simp [rvs_len t]
theorem argsS_at {ρ : Ev} : ∀ {io : List Bool} {rs : List RV} {args : List Sl} {j : Nat} {s : Sl}, argsS ρ io rs = some args → args[j]? = some s → ∃ b r, io[j]? = some b ∧ rs[j]? = some r ∧ argS ρ b r = some s
  | [], [], _, _, _, h, e => by cases h; simp at e
  | [], _ :: _, _, _, _, h, _ => by cases h
  | _ :: _, [], _, _, _, h, _ => by cases h
  | b :: bs, r :: rs, _, j, s, h, e => by
    simp only [argsS] at h
    obtain ⟨s', h1, h2⟩ := opt_bind_some h
    obtain ⟨as, h3, rfl⟩ := Option.map_eq_some_iff.mp h2
    cases j with
    | zero => simp at e; subst e; exact ⟨b, r, rfl, rfl, h1⟩
    | succ j => simpa using argsS_at (j := j) h3 (by simpa using e)
theorem argsS_len {ρ : Ev} : ∀ {io : List Bool} {rs : List RV} {args : List Sl}, argsS ρ io rs = some args → args.length = rs.length
  | [], [], _, h => by cases h; rfl
  | [], _ :: _, _, h => by cases h
  | _ :: _, [], _, h => by cases h
  | b :: bs, r :: rs, _, h => by
    simp only [argsS] at h
    obtain ⟨s', h1, h2⟩ := opt_bind_some h
    obtain ⟨as, h3, rfl⟩ := Option.map_eq_some_iff.mp h2
    simp [argsS_len h3]
theorem apart_at : ∀ {io : List Bool} {rs : List RV} {j k i : Nat}, io.length = rs.length → apart io rs = true → IoAt io rs j i → rs[k]? = some (.slot i) → j = k
  | [], rs, j, _, _, _, _, h, _ => by cases h.1
  | b :: bs, [], _, _, _, hl, _, _, _ => by cases hl
  | b :: bs, r :: rs, j, k, i, hl, ha, h, e => by
    have hl' : bs.length = rs.length := by simpa using hl
    cases j with
    | zero =>
      obtain ⟨h1, h2⟩ := h
      simp at h1 h2
      subst h1 h2
      cases k with
      | zero => rfl
      | succ k =>
        simp only [apart, Bool.and_eq_true, List.all_eq_true, decide_eq_true_eq] at ha
        have e' : rs[k]? = some (.slot i) := by simpa using e
        exact absurd rfl (ha.1 _ (List.mem_of_getElem? e'))
    | succ j =>
      have h' : IoAt bs rs j i := ⟨by simpa using h.1, by simpa using h.2⟩
      cases k with
      | zero =>
        simp at e
        subst e
        cases b with
        | true =>
          simp only [apart, Bool.and_eq_true, List.all_eq_true, decide_eq_true_eq] at ha
          exact absurd rfl (ha.1 _ (List.mem_of_getElem? h'.2))
        | false =>
          simp only [apart, Bool.and_eq_true, List.all_eq_true, Bool.or_eq_true, Bool.not_eq_true', decide_eq_true_eq] at ha
          have hz : (bs.zip rs)[j]? = some (true, .slot i) := by
            rw [List.getElem?_zip_eq_some]
            exact h'
          rcases ha.1 _ (List.mem_of_getElem? hz) with q | q
          · cases q
          · exact absurd rfl q
      | succ k =>
        have ha' : apart bs rs = true := by
          cases b <;> simp only [apart, Bool.and_eq_true] at ha <;> exact ha.2
        rw [apart_at hl' ha' h' (by simpa using e)]
theorem argsS_io {ρ : Ev} : ∀ {io : List Bool} {rs : List RV} {args : List Sl}, argsS ρ io rs = some args → io.length = rs.length
  | [], [], _, h => rfl
  | [], _ :: _, _, h => by cases h
  | _ :: _, [], _, h => by cases h
  | b :: bs, r :: rs, _, h => by
    simp only [argsS] at h
    obtain ⟨s', h1, h2⟩ := opt_bind_some h
    obtain ⟨as, h3, rfl⟩ := Option.map_eq_some_iff.mp h2
    simp [argsS_io h3]

/-- an owned argument is an owned slot of the caller's -/
theorem arg_ow {σ : L2.St} {H0 H : Hp} {B : Bs} {ρ : Ev} {rs : List RV} {vs : List V} {io : List Bool} {args : List Sl} (rel : RvsR G σ H0 H B (Ow ρ σ) rs vs) (ha : argsS ρ io rs = some args) {j : Nat} {p : Addr}
    (h : OwAt args (vs.map some) j p) : ∃ i, IoAt io rs j i ∧ OwAt ρ σ i p := by
  obtain ⟨⟨d, h⟩, e⟩ := h
  have : ∃ s, args[j]? = some s ∧ ∀ d', s ≠ .fz d' ∧ s ≠ .bw d' := by
    rcases h with h | h
    · exact ⟨_, h, fun d' => ⟨(fun z => nomatch z), (fun z => nomatch z)⟩⟩
    · exact ⟨_, h, fun d' => ⟨(fun z => nomatch z), (fun z => nomatch z)⟩⟩
  obtain ⟨s, h', hn⟩ := this
  obtain ⟨b, r, hb, hr, hs⟩ := argsS_at ha h'
  obtain ⟨v, hv, rv⟩ := rvs_at rel hr
  have ev : v = .ref p := by
    rw [List.getElem?_map, hv] at e
    simpa using e
  subst ev
  cases b with
  | false =>
    exfalso
    cases r with
    | val d => cases hs; exact (hn d).1 rfl
    | own d => cases hs
    | slot i =>
      simp only [argS] at hs
      split at hs <;> cases hs
      · exact (hn _).1 rfl
      · exact (hn _).2 rfl
      · exact (hn _).2 rfl
      · exact (hn _).2 rfl
  | true =>
    cases r with
    | val d => cases hs
    | own d => cases hs
    | slot i =>
      simp only [argS] at hs
      refine ⟨i, ⟨hb, hr⟩, ?_, rv⟩
      split at hs <;> cases hs
      · exact ⟨_, .inl (by assumption)⟩
      · exact ⟨_, .inr (by assumption)⟩
/-- the callee's slots -/
theorem args_good {σ : L2.St} {H0 H : Hp} {B : Bs} {ρ : Ev} {rs : List RV} {vs : List V} {io : List Bool} {args : List Sl} (g : Good G.K H B ρ σ) (rel : RvsR G σ H0 H B (Ow ρ σ) rs vs) (ha : argsS ρ io rs = some args) (hp : apart io rs = true) :
    Good G.K H B args (vs.map some) := by
  have hio := argsS_io ha
  have sub : ∀ p, Ow args (vs.map some) p → Ow ρ σ p := fun p ⟨j, h⟩ => by
    obtain ⟨i, _, h⟩ := arg_ow rel ha h
    exact ⟨i, h⟩
  refine ⟨by rw [List.length_map, ← rvs_len rel, argsS_len ha], fun j s o e1 e2 => ?_, fun j k p h1 h2 => ?_⟩
  · obtain ⟨b, r, hb, hr, hs⟩ := argsS_at ha e1
    obtain ⟨v, hv, rv⟩ := rvs_at rel hr
    have eo : o = some v := by
      rw [List.getElem?_map, hv] at e2
      simpa using e2.symm
    subst eo
    cases b with
    | false =>
      cases r with
      | val d => cases hs; exact ⟨v, rfl, rv⟩
      | own d => cases hs
      | slot i =>
        have rv : σ[i]? = some (some v) := rv
        have ns : ∀ d, (ρ[i]? = some (.ow d) ∨ ρ[i]? = some (.io d)) → ∀ a, σ[i]? = some (some (.ref a)) → ¬ Ow args (vs.map some) a := fun d hd a ea ⟨k, hk⟩ => by
          obtain ⟨i', hi', hk'⟩ := arg_ow rel ha hk
          have : i' = i := g.inj i' i a hk' ⟨⟨d, hd⟩, ea⟩
          subst this
          have := apart_at hio hp hi' hr
          subst this
          have z := hi'.1
          rw [hb] at z
          cases z
        simp only [argS] at hs
        split at hs <;> cases hs
        · obtain ⟨v', ev, r⟩ := g.sl i _ _ (by assumption) rv
          cases ev
          exact ⟨v, rfl, r⟩
        · rename_i d hd
          obtain ⟨p, ev, hb', w⟩ := g.sl i _ _ hd rv
          cases ev
          refine ⟨_, rfl, ?_⟩
          cases d with
          | lst ds =>
            obtain ⟨ws, q, r⟩ := w
            exact ⟨p, ws, rfl, q, ns _ (.inl hd) p rv, r⟩
          | _ => exact w.elim
        · rename_i d hd
          obtain ⟨p, ev, hb', w⟩ := g.sl i _ _ hd rv
          cases ev
          refine ⟨_, rfl, ?_⟩
          cases d with
          | lst ds =>
            obtain ⟨ws, q, r⟩ := w
            exact ⟨p, ws, rfl, q, ns _ (.inr hd) p rv, r⟩
          | _ => exact w.elim
        · rename_i d hd
          obtain ⟨v', ev, r⟩ := g.sl i _ _ hd rv
          cases ev
          refine ⟨v, rfl, ?_⟩
          cases d with
          | lst ds =>
            obtain ⟨p, ws, e, q, n, r⟩ := r
            exact ⟨p, ws, e, q, fun z => n (sub p z), r⟩
          | _ => exact r
    | true =>
      cases r with
      | val d => cases hs
      | own d => cases hs
      | slot i =>
        have rv : σ[i]? = some (some v) := rv
        simp only [argS] at hs
        split at hs <;> cases hs
        · obtain ⟨p, ev, hb', w⟩ := g.sl i _ _ (by assumption) rv
          cases ev
          exact ⟨p, rfl, hb', w⟩
        · obtain ⟨p, ev, hb', w⟩ := g.sl i _ _ (by assumption) rv
          cases ev
          exact ⟨p, rfl, hb', w⟩
  · obtain ⟨i, hi, ho⟩ := arg_ow rel ha h1
    obtain ⟨i', hi', ho'⟩ := arg_ow rel ha h2
    have : i = i' := g.inj i i' p ho ho'
    subst this
    exact apart_at hio hp hi hi'.2

/-- the lists handed in, back in their slots -/
def SameKind : Option Sl → Option Sl → Prop
  | some (.ow _), some (.ow _) => True
  | some (.io _), some (.io _) => True
  | s, t => s = t
theorem SameKind.refl (s : Option Sl) : SameKind s s := by
  cases s with
  | none => rfl
  | some s => cases s <;> trivial
theorem SameKind.trans {s t u : Option Sl} (h : SameKind s t) (k : SameKind t u) : SameKind s u := by
  cases s with
  | none => cases t with
    | none => exact k
    | some t => cases h
  | some s =>
    cases t with
    | none => cases s <;> cases h
    | some t =>
      cases u with
      | none => cases t <;> cases k
      | some u =>
        cases s <;> cases t <;> first
          | (cases h; done)
          | (cases u <;> first | trivial | (cases k; done))
          | (cases h; exact k)
theorem SameKind.set {ρ : Ev} {i : Nat} {s : Sl} (h : SameKind ρ[i]? (some s)) (k : Nat) : SameKind ρ[k]? (ρ.set i s)[k]? := by
  by_cases q : i = k
  · subst q
    by_cases hi : i < ρ.length
    · rw [List.getElem?_set_self hi]; exact h
    · rw [List.getElem?_eq_none (by simpa using hi)] at h
      cases h
  · rw [List.getElem?_set_ne q]; exact .refl _
theorem SameKind.ow {ρ ρ' : Ev} {σ : L2.St} (h : ∀ i : Nat, SameKind ρ[i]? ρ'[i]?) {i : Nat} {p : Addr} (k : OwAt ρ' σ i p) : OwAt ρ σ i p := by
  obtain ⟨⟨d, k⟩, e⟩ := k
  have q := h i
  rcases k with k | k
  · rw [k] at q
    cases z : ρ[i]? with
    | none => rw [z] at q; cases q
    | some s =>
      rw [z] at q
      cases s <;> try (cases q; done)
      exact ⟨⟨_, .inl z⟩, e⟩
  · rw [k] at q
    cases z : ρ[i]? with
    | none => rw [z] at q; cases q
    | some s =>
      rw [z] at q
      cases s <;> try (cases q; done)
      exact ⟨⟨_, .inr z⟩, e⟩
theorem SameKind.symm {s t : Option Sl} (h : SameKind s t) : SameKind t s := by
  cases s with
  | none => cases h; rfl
  | some s =>
    cases t with
    | none => cases s <;> cases h
    | some t => cases s <;> cases t <;> first | trivial | (cases h; done) | (cases h; rfl)
theorem putBack_ok {K : PySem.W.Frag} {H : Hp} {B O : Bs} {σ : L2.St} : ∀ {io : List Bool} {rs : List RV} {args : List Sl} {vs : List V} {ds : List D} {ρ ρ' : Ev}, putBack ρ io rs ds = some ρ' →
    (∀ (j i : Nat) (v : V), IoAt io rs j i → vs[j]? = some v → σ[i]? = some (some v)) → (∀ (j : Nat) (b : Bool) (s : Sl), io[j]? = some b → args[j]? = some s → (b = true ↔ ∃ d, s = Sl.io d)) → io.length = args.length → IosRel K H B args vs ds →
    (∀ (i : Nat) s o, ρ[i]? = some s → σ[i]? = some o → (¬ ∃ j, IoAt io rs j i) → SlRel K H B O s o) →
    ρ'.length = ρ.length ∧ (∀ i : Nat, SameKind ρ[i]? ρ'[i]?) ∧ ∀ (i : Nat) s o, ρ'[i]? = some s → σ[i]? = some o → SlRel K H B O s o
  | [], [], args, vs, ds, ρ, ρ', h, hv, hk, hl, hi, hr => by
    cases ds with
    | cons d ds => cases h
    | nil =>
      cases h
      exact ⟨rfl, fun i => .refl _, fun i s o e1 e2 => hr i s o e1 e2 fun ⟨j, z⟩ => by cases z.1⟩
  | [], _ :: _, _, _, _, _, _, h, _, _, _, _, _ => by cases h
  | true :: _, [], _, _, ds, _, _, h, _, _, _, _, _ => by cases ds <;> cases h
  | false :: _, [], _, _, ds, _, _, h, _, _, _, _, _ => by cases ds <;> cases h
  | b :: bs, r :: rs, [], _, _, _, _, _, _, _, hl, _, _ => by cases hl
  | false :: bs, r :: rs, s :: args, vs, ds, ρ, ρ', h, hv, hk, hl, hi, hr => by
    have h : putBack ρ bs rs ds = some ρ' := by cases r <;> exact h
    have hs : ∀ d, s ≠ .io d := fun d e => by
      have := (hk 0 false s rfl rfl).mpr ⟨d, e⟩
      cases this
    cases vs with
    | nil => cases s <;> first | exact hi.elim | exact absurd rfl (hs _)
    | cons v vs =>
      have hi' : IosRel K H B args vs ds := by cases s <;> first | exact hi | exact absurd rfl (hs _)
      exact putBack_ok h (fun j i v hj e => hv (j + 1) i v ⟨by simpa using hj.1, by simpa using hj.2⟩ (by simpa using e)) (fun j b s e1 e2 => hk (j + 1) b s (by simpa using e1) (by simpa using e2)) (by simpa using hl) hi'
        fun i s o e1 e2 n => hr i s o e1 e2 fun ⟨j, z⟩ => by
          cases j with
          | zero => cases z.1
          | succ j => exact n ⟨j, by simpa using z.1, by simpa using z.2⟩
  | true :: bs, r :: rs, s :: args, vs, ds, ρ, ρ', h, hv, hk, hl, hi, hr => by
    obtain ⟨d0, rfl⟩ := (hk 0 true s rfl rfl).mp rfl
    cases vs with
    | nil => exact hi.elim
    | cons v vs =>
      cases ds with
      | nil => exact hi.elim
      | cons d ds =>
        obtain ⟨⟨p, rfl, hb, w⟩, hi⟩ := hi
        cases r with
        | val _ => cases h
        | own _ => cases h
        | slot i =>
          have hσ : σ[i]? = some (some (.ref p)) := hv 0 i _ ⟨rfl, rfl⟩ rfl
          have go : ∀ s', SameKind ρ[i]? (some s') → SlRel K H B O s' (some (.ref p)) → putBack (ρ.set i s') bs rs ds = some ρ' →
              ρ'.length = ρ.length ∧ (∀ i : Nat, SameKind ρ[i]? ρ'[i]?) ∧ ∀ (i : Nat) s o, ρ'[i]? = some s → σ[i]? = some o → SlRel K H B O s o := fun s' sk sr h => by
            obtain ⟨h1, h2, h3⟩ := putBack_ok h (fun j i v hj e => hv (j + 1) i v ⟨by simpa using hj.1, by simpa using hj.2⟩ (by simpa using e)) (fun j b s e1 e2 => hk (j + 1) b s (by simpa using e1) (by simpa using e2)) (by simpa using hl) hi
              fun k s o e1 e2 n => by
                rcases get_set e1 with ⟨rfl, rfl⟩ | ⟨hne, e1⟩
                · rw [hσ] at e2; cases e2; exact sr
                · refine hr k s o e1 e2 fun ⟨j, z⟩ => ?_
                  cases j with
                  | zero =>
                    have z2 := z.2
                    simp at z2
                    exact hne z2.symm
                  | succ j => exact n ⟨j, by simpa using z.1, by simpa using z.2⟩
            exact ⟨h1.trans (by simp), fun k => (SameKind.set sk k).trans (h2 k), h3⟩
          simp only [putBack] at h
          split at h
          · rename_i d' q
            exact go (.ow d) (by rw [q]; trivial) ⟨p, rfl, hb, w⟩ h
          · rename_i d' q
            exact go (.io d) (by rw [q]; trivial) ⟨p, rfl, hb, w⟩ h
          · cases h
/-- behind a call -/
theorem call_back {σ : L2.St} {H0 H H' : Hp} {B B' : Bs} {ρ ρ' : Ev} {rs : List RV} {vs : List V} {io : List Bool} {args : List Sl} {ds : List D} (g : Good G.K H B ρ σ) (rel : RvsR G σ H0 H B (Ow ρ σ) rs vs) (ha : argsS ρ io rs = some args)
    (st : Step H B (Ow args (vs.map some)) H' B' (Ow args (vs.map some))) (hi : IosRel G.K H' B' args vs ds) (h : putBack ρ io rs ds = some ρ') : Good G.K H' B' ρ' σ ∧ Go H B ρ σ H' B' ρ' σ ∧ Ow ρ' σ = Ow ρ σ := by
  have sub : ∀ p, Ow args (vs.map some) p → Ow ρ σ p := fun p ⟨j, h⟩ => by
    obtain ⟨i, _, h⟩ := arg_ow rel ha h
    exact ⟨i, h⟩
  have st2 : Step H B (Ow ρ σ) H' B' (Ow ρ σ) := ⟨fun a o e n => st.keep a o e fun z => n (sub a z), st.there, st.bnew, fun a b n => (st.bold a b n).elim .inl fun z => .inr (sub a z), fun a z => .inl z⟩
  have hio := argsS_io ha
  have hlen := argsS_len ha
  obtain ⟨h1, h2, h3⟩ := putBack_ok (K := G.K) (H := H') (B := B') (O := Ow ρ σ) (σ := σ) h
    (fun j i v hj e => by
      obtain ⟨v', e', r⟩ := rvs_at rel hj.2
      rw [e] at e'; cases e'
      exact r)
    (fun j b s e1 e2 => by
      obtain ⟨b', r, hb, hr, hs⟩ := argsS_at ha e2
      rw [e1] at hb; cases hb
      constructor
      · intro e
        subst e
        cases r with
        | val d => cases hs
        | own d => cases hs
        | slot i =>
          simp only [argS] at hs
          split at hs <;> cases hs <;> exact ⟨_, rfl⟩
      · rintro ⟨d, rfl⟩
        cases b with
        | true => rfl
        | false =>
          cases r with
          | val d => cases hs
          | own d => cases hs
          | slot i =>
            simp only [argS] at hs
            split at hs <;> cases hs)
    (by rw [hio, hlen]) hi
    (fun i s o e1 e2 n => by
      have q := g.sl i s o e1 e2
      have own : ∀ {d : D} {p : Addr}, (ρ[i]? = some (.ow d) ∨ ρ[i]? = some (.io d)) → σ[i]? = some (some (.ref p)) → B p → Own G.K H B d p → B' p ∧ Own G.K H' B' d p := fun {d p} hd ep bp w => by
        have hn : ¬ Ow args (vs.map some) p := fun ⟨j, hj⟩ => by
          obtain ⟨i', hi', ho⟩ := arg_ow rel ha hj
          have : i' = i := g.inj i' i p ho ⟨⟨d, hd⟩, ep⟩
          subst this
          exact n ⟨j, hi'⟩
        obtain ⟨ws, ew⟩ := w.lst
        refine ⟨(st.bold p bp (by rw [ew]; simp)).elim id fun z => absurd z hn, ?_⟩
        cases d with
        | lst ds =>
          obtain ⟨ws, q, r⟩ := w
          exact ⟨ws, st.keep _ _ q hn, Reps.stab g.owl st2 r⟩
        | _ => exact w.elim
      cases s with
      | un => trivial
      | fz d => obtain ⟨v, ev, r⟩ := q; exact ⟨v, ev, Rep.stab g.owl st2 r⟩
      | bw d => obtain ⟨v, ev, r⟩ := q; exact ⟨v, ev, RepS.stab g.owl st2 r⟩
      | ow d =>
        obtain ⟨p, ev, bp, w⟩ := q
        subst ev
        obtain ⟨z1, z2⟩ := own (.inl e1) e2 bp w
        exact ⟨p, rfl, z1, z2⟩
      | io d =>
        obtain ⟨p, ev, bp, w⟩ := q
        subst ev
        obtain ⟨z1, z2⟩ := own (.inr e1) e2 bp w
        exact ⟨p, rfl, z1, z2⟩)
  have heq : ∀ p, Ow ρ' σ p ↔ Ow ρ σ p := fun p => ⟨fun ⟨i, z⟩ => ⟨i, SameKind.ow h2 z⟩, fun ⟨i, z⟩ => ⟨i, SameKind.ow (fun k => (h2 k).symm) z⟩⟩
  have hO : Ow ρ' σ = Ow ρ σ := funext fun p => propext (heq p)
  refine ⟨⟨h1.trans g.len, fun i s o e1 e2 => by rw [hO]; exact h3 i s o e1 e2, fun i j p z1 z2 => g.inj i j p (SameKind.ow h2 z1) (SameKind.ow h2 z2)⟩, ⟨by rw [hO]; exact st2, fun i d e => ?_, fun i d e => ?_⟩, hO⟩
  · have q := h2 i
    rw [e] at q
    cases z : ρ[i]? with
    | none => rw [z] at q; cases q
    | some s => rw [z] at q; cases s <;> first | (cases q; done) | (cases q; exact ⟨rfl, rfl⟩)
  · have q := h2 i
    rw [e] at q
    cases z : ρ'[i]? with
    | none => rw [z] at q; cases q
    | some s => rw [z] at q; cases s <;> first | (cases q; done) | exact ⟨_, rfl, rfl⟩

/-- a def of the text that keeps the evaluator's promise -/
structure CallOk (G : Pg) (F : Fn) (X : Cx) (f : Nat) (x : Str) : Prop where
  ex : ∃ (p : Addr) (fd : FuncData) (ps : List Str) (k : Nat), FnOk X.prog X.w X.K X.mg X.base (L2.CX X.prog X.w) k p fd ps (spOf G F f) ∧ Room k X.A ∧ X.mg x = some (.ref p) ∧ PySem.W.keepIn X.K (.ref p) = true ∧ Binds X.K fd ps []
theorem s_call {f : Nat} {x : Str} {io : List Bool} (tk : Takes X W) (ok : CallOk G F X f x) (hg : Gl X x) (hd : (x == ("__debug__" : Str)) = false) {es : List Expr} {es' : Es} {pp : Pos} (ha : PA X (a :: es) (TAv G W (evCs F es')))
    (he : starEach (a :: es) X.env = (false, eval a X.env) :: starEach es X.env) (hpl : (backTo pos (starEach es X.env)).any (·.1) = false) : PE X (.Call (.Name x pp) (a :: es) [] pos) (TEv G W (ev F (.call f io es'))) := by
  obtain ⟨p, fd, ps, k, FO, hr, hm, hk, hb⟩ := ok.ex
  refine (pe_callS FO hr hg hm hk hb (fun σ => passAt tk σ) ha hd he hpl).imp fun σ H Q ⟨B, ρ, g, run⟩ => ?_
  simp only [ev] at run
  refine ⟨B, ρ, g, run.bind0 fun rs ρ1 vs H1 B1 g1 s1 rel1 run1 => ?_⟩
  cases ea : argsS ρ1 io rs with
  | none => rw [ea] at run1; exact run1.elim
  | some args =>
    rw [ea] at run1
    cases ep : apart io rs with
    | false => rw [ep] at run1; exact run1.elim
    | true =>
      rw [ep] at run1
      have run1 : Run G (RvR G σ) W σ H B ρ (outR ρ1 io rs (F f args)) Q := run1
      refine ⟨B1, args, args_good g1 rel1 ea ep, ?_⟩
      cases eo : F f args with
      | no => rw [eo] at run1; exact run1.elim
      | rt o d ios =>
        rw [eo] at run1
        intro v H' B' st hi hv
        cases eb : putBack ρ1 io rs ios with
        | none =>
          have : outR ρ1 io rs (.rt o d ios) = .no := by simp only [outR, eb]
          rw [this] at run1; exact run1.elim
        | some ρ2 =>
          have : outR ρ1 io rs (.rt o d ios) = .ok (if o then .own d else .val d) ρ2 := by simp only [outR, eb]
          rw [this] at run1
          obtain ⟨g2, s2, hO⟩ := call_back g1 rel1 ea st hi eb
          refine run1 v H' B' g2 (s1.trans s2) ?_
          cases o with
          | false => exact hv
          | true =>
            obtain ⟨q, rfl, h0, hb', w⟩ := hv
            refine ⟨q, rfl, ?_, hb', fun z => ?_, w⟩
            · cases e0 : H q with
              | none => rfl
              | some u => exact absurd h0 (s1.st.there q (by rw [e0]; simp))
            · rw [hO] at z
              obtain ⟨_, ws, e⟩ := g1.owl q z
              rw [h0] at e; cases e
      | ex x ios =>
        rw [eo] at run1
        intro cls dd H' B' st hi hx
        cases eb : putBack ρ1 io rs ios with
        | none =>
          have : outR ρ1 io rs (.ex x ios) = .no := by simp only [outR, eb]
          rw [this] at run1; exact run1.elim
        | some ρ2 =>
          have : outR ρ1 io rs (.ex x ios) = .ex x ρ2 := by simp only [outR, eb]
          rw [this] at run1
          obtain ⟨g2, s2, _⟩ := call_back g1 rel1 ea st hi eb
          exact run1 cls dd H' B' g2 (s1.trans s2) hx
end
end G
end

section
set_option Elab.async false
set_option linter.all false
set_option maxRecDepth 100000
set_option maxHeartbeats 4000000
/-! G9: what is walked: lists and tuples alike, enumerate and zip of them. -/
namespace G
open PySem PySem.Spec PyProof.Rows L2

/-! ### lists (k) and tuples -/
def Sq (k : Bool) (K : PySem.W.Frag) (H : Hp) (a : Addr) (xs : List V) : Prop := match k with
  | true => SqL K H a xs
  | false => SqT K H a xs
def IsSq (k : Bool) (h : Heap) (a : Addr) (its : Array Value) : Prop := match k with
  | true => h.IsList a its
  | false => h.IsTuple a its
def SIt (k : Bool) (h : Heap) (it a : Addr) (i : Nat) : Prop := match k with
  | true => h.IsListIter it a i
  | false => h.IsTupleIter it a i
def itCls : Bool → String
  | true => "list_iterator"
  | false => "tuple_iterator"
section
variable {X : Cx} {pins : List (Addr × Obj)} {σ : L2.St} {H : Hp} {s : Shared} {a : Addr} {xs ys : List V}
theorem Sq.its (k : Bool) (I : Inv X pins σ H s) (h : Sq k X.K H a xs) : ∃ its : List Value, Vals xs its ∧ IsSq k s.heap a its.toArray ∧ xs.length ≤ sizeLine ∧ a < s.heap.objs.size := by
  cases k with
  | true =>
    obtain ⟨its, r, p, z⟩ := I.list h
    exact ⟨its, r, p.isList, z, p.lt⟩
  | false =>
    obtain ⟨its, r, p, z⟩ := I.tuple h
    exact ⟨its, r, p, z, p.lt⟩
theorem Sq.inj (k : Bool) (I : Inv X pins σ H s) (h : Sq k X.K H a xs) (h' : Sq k X.K H a ys) : xs = ys := by
  cases k with
  | true => exact I.list_inj h h'
  | false => exact I.tuple_inj h h'
theorem SIt.there {k : Bool} {h : Heap} {it a : Addr} {i : Nat} (x : SIt k h it a i) : ∃ o, h.get? it = some o ∧ ∀ v, o.data ≠ .cell v := by
  cases k <;> (obtain ⟨o, e, c, d⟩ := x; exact ⟨o, e, fun v q => by rw [d] at q; cases q⟩)
theorem SIt.at_ {k : Bool} {h h' : Heap} {it a : Addr} {i : Nat} (x : SIt k h it a i) (q : ∀ o, h.get? it = some o → h'.get? it = some o) : SIt k h' it a i := by
  cases k with
  | true => exact Heap.IsListIter.at x q
  | false => exact Heap.IsTupleIter.at x q
theorem IsSq.lt {k : Bool} {h : Heap} {a : Addr} {its : Array Value} (x : IsSq k h a its) : a < h.objs.size := by
  cases k <;> (obtain ⟨o, e, _⟩ := x; exact Heap.lt_size e)
theorem IsSq.push {k : Bool} {h : Heap} {a : Addr} {its : Array Value} (x : IsSq k h a its) (o : Obj) : IsSq k (h.push o) a its := by
  cases k with
  | true => exact Heap.IsList.push x o
  | false => exact Heap.IsTuple.push x o
theorem IsSq.obj {k : Bool} {h : Heap} {a : Addr} {its : Array Value} (x : IsSq k h a its) : ∃ o, h.get? a = some o := by
  cases k <;> (obtain ⟨o, e, _⟩ := x; exact ⟨o, e⟩)
theorem draws (k : Bool) {prog : Program} {w : World} {A : Around} (hh : A.handled = none) (it a : Addr) (hne : a ≠ it) (its : Array Value) :
    Draws prog w A it [it, a] its.size (fun i v => its[i]? = some v) (fun i h => SIt k h it a i ∧ IsSq k h a its) := by
  cases k with
  | true => exact Draws.list hh it a hne its
  | false => exact Draws.tuple hh it a hne its
end
section
variable {prog : Program} {w : World} {A : Around} {E : Value → Shared → Prop} {s : Shared}
theorem pyIter_sq {k : Bool} {a : Addr} {its : Array Value} {Q : Value → Shared → Prop} (h : IsSq k s.heap a its)
    (q : Q (.ref s.heap.objs.size) { s with heap := s.heap.push { cls := .type (itCls k), data := .fields #[.ref a, .int 0 0] } }) : wpAny (model prog w) A (pyIter (.ref a)) Q E s := by
  cases k with
  | true => exact wpAny_pyIter_list h q
  | false => exact wpAny_pyIter_tuple h q
end

/-! ### enumerate -/
theorem meets_enumerate_newT (l : Addr) (items : Array Value) :
    Meets (Builtin.«enumerate.__new__» ⟨[.type "enumerate", .ref l], []⟩) (fun _ R s => (∃ o, s.heap.get? l = some o ∧ o.cls = .type "tuple" ∧ ∃ n, o.data = .seq items n) ∧
      R (.ok (.ret (.ref (s.heap.push { cls := .type "tuple_iterator", data := .fields #[.ref l, .int 0 0] }).objs.size)))
        { s with heap := (s.heap.push { cls := .type "tuple_iterator", data := .fields #[.ref l, .int 0 0] }).push { cls := .type "enumerate", data := .fields #[.none, .bool false, .ref s.heap.objs.size, rawInt 0, .none, .none] } }) :=
  .of_wp fun prog w A R s h => by
    obtain ⟨hp, g, d, tk, os⟩ := s; obtain ⟨hl, h⟩ := h
    have hsub := sub_enumerate
    have hL : Heap.IsTuple (Shared.heap ⟨hp, g, d, tk, os⟩) l items := hl
    obtain ⟨⟨c, dct, dt, sl⟩, hl, hc, n, hd⟩ := hl
    replace hc : c = .type "tuple" := hc
    replace hd : dt = .seq items n := hd
    subst hc hd
    wp_walk using wpAny_loadPart' hl
    refine wpAny_stack_any fun st => wpAny_pure ?_
    split
    · rename_i c _ _ _ _ _
      cases (c == Value.type "enumerate")
      · wp_walk using wpAny_loadPart' hl, wpAny_pyIter_tuple hL
        exact ⟨_, rfl, h⟩
      · wp_walk using wpAny_loadPart' hl, wpAny_pyIter_tuple hL
        exact ⟨_, rfl, h⟩
    · wp_walk using wpAny_loadPart' hl, wpAny_pyIter_tuple hL
      exact ⟨_, rfl, h⟩
section
variable {prog : Program} {w : World} {A : Around} {E : Value → Shared → Prop} {s : Shared}
theorem call_enum_sq {k : Bool} {l : Addr} {items : Array Value} {Q : Value → Shared → Prop} (hL : IsSq k s.heap l items)
    (h : ∀ h', IsEnum h' (s.heap.objs.size + 1) s.heap.objs.size 0 .none → SIt k h' s.heap.objs.size l 0 → h'.objs.size = s.heap.objs.size + 2 →
      (∀ b o, s.heap.get? b = some o → h'.get? b = some o) → Q (.ref (s.heap.objs.size + 1)) { s with heap := h' }) :
    wpAny (model prog w) A (call (.type "enumerate") [.ref l]) Q E s := by
  cases k with
  | true => exact call_enumerate_list hL h
  | false =>
    obtain ⟨oT, hlT, hcT, nT, hdT⟩ := id hL
    refine callType_new F.called_enumerate (by decide) (F.typeCall_enumerate_1 _) (F.newCall_enumerate_1 _) (fun obj => F.args_object_init_2 obj _) F.entry_enumerate_new
      (meets_enumerate_newT l items) ⟨⟨oT, hlT, hcT, nT, hdT⟩, ?_⟩
    have hz : (s.heap.push { cls := .type "tuple_iterator", data := .fields #[.ref l, .int 0 0] }).objs.size = s.heap.objs.size + 1 := Heap.size_push ..
    show _ ∧ _
    rw [hz]
    have he : IsEnum ((s.heap.push { cls := .type "tuple_iterator", data := .fields #[.ref l, .int 0 0] }).push
        { cls := .type "enumerate", data := .fields #[.none, .bool false, .ref s.heap.objs.size, rawInt 0, .none, .none] }) (s.heap.objs.size + 1) s.heap.objs.size 0 .none := by
      have := Heap.get?_push_size (s.heap.push { cls := .type "tuple_iterator", data := .fields #[.ref l, .int 0 0] })
        (o := { cls := .type "enumerate", data := .fields #[.none, .bool false, .ref s.heap.objs.size, rawInt 0, .none, .none] }) rfl
      rw [hz] at this; exact this
    exact ⟨⟨_, he, rfl⟩, h _ he ⟨_, Heap.get?_push_of_some _ (Heap.get?_push_size _ rfl), rfl, rfl⟩ (by rw [Heap.size_push, hz]) fun b o x => Heap.get?_push_of_some _ (Heap.get?_push_of_some _ x)⟩
end
/-- the list or tuple at a as it stands at each turn, each item in a new pair -/
def IteA (k : Bool) (K : PySem.W.Frag) (a : Addr) : L2.It :=
  ⟨fun i H => ∃ (xs : List V) (x : V), Sq k K H a xs ∧ xs[i]? = some x, fun i H v H' => ∃ T x, v = .ref T ∧ H T = none ∧ H' = upd H T (.tup [.int (i : Nat), x]) ∧ ∀ xs, Sq k K H a xs → xs[i]? = some x, fun i H => ∃ xs : List V, Sq k K H a xs ∧ xs.length = i⟩
theorem turn_enumA (k : Bool) {P : Program} {w : World} {K : PySem.W.Frag} {elts : List Expr} {kk : Nat} {tpos : Pos} (a e it : Addr) (nai : a ≠ it) (nae : a ≠ e) :
    Turn P w K (.Tuple elts kk tpos) (IteA k K a) [e, it] e (fun i h => (∃ old, IsEnum h e it ((i : Nat) : Int) old) ∧ SIt k h it a i ∧ e ≠ it) where
  mem := by simp
  obj := fun i h st b hb => by
    obtain ⟨⟨old, he⟩, hi, _⟩ := st
    have e' : b = e ∨ b = it := by simpa using hb
    rcases e' with z | z
    · rw [z]; exact ⟨_, he, fun v q => nomatch q⟩
    · rw [z]; exact hi.there
  keep := fun i h h' st k => let ⟨⟨old, he⟩, hi, hne⟩ := st; ⟨⟨old, k e (by simp) _ he⟩, hi.at_ fun o q => k it (by simp) o q, hne⟩
  item := by
    intro X hP hw hK hc i pins s σ H E I hf st hg
    subst hP hw hK
    obtain ⟨⟨old, he⟩, hit, hne⟩ := st
    obtain ⟨xs, x, hq, hx⟩ := hg
    obtain ⟨its, rv, p, hz, _⟩ := Sq.its k I hq
    obtain ⟨u, hu, ru⟩ := rv.get hx
    have hel : e < s.heap.objs.size := Heap.lt_size he
    have hil : it < s.heap.objs.size := by obtain ⟨_, q, _⟩ := hit.there; exact Heap.lt_size q
    have hlt : i < its.toArray.size := by
      have := (List.getElem?_eq_some_iff.mp hu).1
      simpa using this
    refine wpAny_pyNext_enum_itemD (draws k (prog := X.prog) (w := X.w) (A := X.A.in1) (I.ok.hd hc) it a nai its.toArray) he ⟨hit, p⟩ hlt hne (by simp; exact ⟨hne, Ne.symm nae⟩) fun u' h' tk hu' ho hst hT hsz hk => ?_
    have eu : u' = u := by
      have h1 : its.toArray[i]? = some u' := hu'
      rw [List.getElem?_toArray, hu] at h1
      exact (Option.some.inj h1).symm
    subst eu
    refine ⟨_, rfl, wpAny_letOwnedTupleGo_enum (s := { s with heap := h', toks := tk + 1 }) ho fun h'' he' sb => ?_⟩
    have hT2 : h''.get? s.heap.objs.size = some { cls := .type "tuple", data := .seq #[.int i tk, u'] } := (sb.2 _ (Nat.ne_of_gt hel)).trans hT
    have new : ObjOk X.prog X.w (upd H s.heap.objs.size (.tup [.int (i : Nat), x])) h'' s.heap.objs.size (.tup [.int (i : Nat), x]) :=
      ⟨by show 2 ≤ sizeLine; decide, [.int i tk, u'], .cons ⟨_, rfl⟩ (.cons ru .nil), ⟨_, hT2, rfl, _, rfl⟩⟩
    have I1 : Inv X pins σ (upd H s.heap.objs.size (.tup [.int (i : Nat), x])) { s with heap := h'', toks := tk + 1 } :=
      I.turnedNew (ch := [e, it]) (fun b ob hb q => (sb.2 b (fun z => hb (by simp [z]))).trans (hk b ob (fun z => hb (by simp [z])) (fun z => hb (by simp [z])) q)) hf (Nat.le_refl _) new
    refine ⟨.ref s.heap.objs.size, _, I1, rfl, ⟨_, x, rfl, I.hok.fresh (Nat.le_refl _), rfl, fun ys hy => by rw [Sq.inj k I hy hq]; exact hx⟩, ⟨⟨u', ?_⟩, hst.1.at_ fun o q => (sb.2 it (Ne.symm hne)).trans q, hne⟩, fun b hb => ?_⟩
    · have e1 : ((i + 1 : Nat) : Int) = (i : Int) + 1 := by omega
      rw [e1]; exact he'
    · have hb' : b < s.heap.objs.size := by
        have e' : b = e ∨ b = it := by simpa using hb
        rcases e' with z | z
        · rw [z]; exact hel
        · rw [z]; exact hil
      rw [upd_ne (Nat.ne_of_lt hb')]
      exact (hf b hb).1
  done := by
    intro X hP hw hK hc i pins s σ H E I hf st hg
    subst hP hw hK
    obtain ⟨⟨old, he⟩, hit, hne⟩ := st
    obtain ⟨xs, hq, hx⟩ := hg
    obtain ⟨its, rv, p, hz, _⟩ := Sq.its k I hq
    obtain ⟨f0, f1, f2, f3, f4, f5⟩ := hf it (by simp)
    have hl := rv.length
    have hi : its.toArray.size = i := by rw [List.size_toArray]; omega
    subst hi
    exact wpAny_pyNext_enum_endD (draws k (prog := X.prog) (w := X.w) (A := X.A.in1) (I.ok.hd hc) it a nai its.toArray) he ⟨hit, p⟩ fun h' eb => ⟨rfl, I.turned (t' := s.toks) (fun b o hb q => eb b o hb q) f0 f1 f3 f4 f5⟩
  self := fun A i s Q E st h => let ⟨⟨_, he⟩, _⟩ := st; wpAny_pyIter_enum he h
def iEnumA (K : PySem.W.Frag) (ta : TA) : TI := fun σ H R => ta σ H fun vs H1 => ∃ k a xs, vs = [.ref a] ∧ Sq k K H1 a xs ∧ R (IteA k K a) H1
theorem pi_enumA {X : Cx} {e : Expr} {ta : TA} {p pos tpos : Pos} {elts : List Expr} {kk : Nat} (hg : Gl X "enumerate") (hm : X.mg "enumerate" = none) (ha : PA X [e] ta) (hs : starEach [e] X.env = [(false, eval e X.env)]) :
    PI X (.Tuple elts kk tpos) (.Call (.Name "enumerate" p) [e] [] pos) (iEnumA X.K ta) := by
  refine ⟨fun pins s σ H R I h => ?_⟩
  refine Call_ (ld_blt I hg hm boot_enumerate (PyProof.Rows.callWith_type1 (thn (ha.run pos pins s σ H _ I h) fun us s1 ⟨vs, H1, I1, r1, q1⟩ => ?_) hs rfl))
  obtain ⟨k, a, xs, ex, hq, q⟩ := q1
  subst ex
  cases r1 with
  | cons r rr =>
    cases rr
    cases r
    obtain ⟨its, rv, p', hz, hal⟩ := Sq.its k I1 hq
    refine call_enum_sq p' fun h' he hit hsz hk => wpAny_pyIter_enum he ?_
    have I2 : Inv X pins σ H1 { s1 with heap := h' } := I1.kept (t' := s1.toks) hk
    refine ⟨s1.heap.objs.size + 1, [s1.heap.objs.size + 1, s1.heap.objs.size], _, _, H1, rfl, I2, turn_enumA k a (s1.heap.objs.size + 1) s1.heap.objs.size (Nat.ne_of_lt hal) (Nat.ne_of_lt (Nat.lt_succ_of_lt hal)), ⟨⟨.none, he⟩, hit, Nat.succ_ne_self _⟩, fun b hb => ?_, q⟩
    have e' : b = s1.heap.objs.size + 1 ∨ b = s1.heap.objs.size := by simpa using hb
    have hle : s1.heap.objs.size ≤ b := by
      rcases e' with z | z
      · rw [z]; exact Nat.le_add_right _ _
      · rw [z]; exact Nat.le_refl _
    exact I1.fpOk hle (I1.hok.fresh hle)

/-! ### zip -/
abbrev zH1 (k1 : Bool) (h : Heap) (l1 : Addr) : Heap := h.push { cls := .type (itCls k1), data := .fields #[.ref l1, .int 0 0] }
abbrev zH2 (k1 k2 : Bool) (h : Heap) (l1 l2 : Addr) : Heap := (zH1 k1 h l1).push { cls := .type (itCls k2), data := .fields #[.ref l2, .int 0 0] }
abbrev zH3 (k1 k2 : Bool) (h : Heap) (l1 l2 : Addr) : Heap := (zH2 k1 k2 h l1 l2).push { cls := .type "tuple", data := .seq #[.ref h.objs.size, .ref (zH1 k1 h l1).objs.size] }
abbrev zH4 (k1 k2 : Bool) (h : Heap) (l1 l2 : Addr) : Heap := (zH3 k1 k2 h l1 l2).push { cls := .type "tuple", data := .seq #[.none, .none] }
abbrev zH5 (k1 k2 : Bool) (h : Heap) (l1 l2 : Addr) : Heap := (zH4 k1 k2 h l1 l2).push { cls := .type "zip", data := .fields #[.none, .bool false, .bool false, .ref (zH2 k1 k2 h l1 l2).objs.size, .ref (zH3 k1 k2 h l1 l2).objs.size] }
theorem meets_zip_newS (k1 k2 : Bool) (l1 l2 : Addr) (xs ys : Array Value) :
    Meets (Builtin.«zip.__new__» ⟨[.type "zip", .ref l1, .ref l2], []⟩) (fun _ R s => IsSq k1 s.heap l1 xs ∧ IsSq k2 s.heap l2 ys ∧
      R (.ok (.ret (.ref (zH4 k1 k2 s.heap l1 l2).objs.size))) { s with heap := zH5 k1 k2 s.heap l1 l2 }) :=
  .of_wp fun prog w A R s h => by
    obtain ⟨hp, g, d, tk, os⟩ := s; obtain ⟨hl1, hl2, h⟩ := h
    have hsub := sub_zip
    have hL1 : IsSq k1 (Shared.heap ⟨hp, g, d, tk, os⟩) l1 xs := hl1
    have hL2 : IsSq k2 (Shared.heap ⟨hp.push { cls := .type (itCls k1), data := .fields #[.ref l1, .int 0 0] }, g, d, tk, os⟩) l2 ys := IsSq.push hl2 _
    wp_walk using pyIter_sq hL1, pyIter_sq hL2
    exact ⟨_, rfl, h⟩
theorem sIt_new {k : Bool} {h : Heap} {it a : Addr} (e : h.get? it = some { cls := .type (itCls k), data := .fields #[.ref a, .int 0 0] }) : SIt k h it a 0 := by
  cases k with
  | true => exact ⟨_, e, rfl, rfl⟩
  | false => exact ⟨_, e, rfl, rfl⟩
section
variable {prog : Program} {w : World} {A : Around} {E : Value → Shared → Prop} {s : Shared}
theorem call_zip_sq {k1 k2 : Bool} {l1 l2 : Addr} {xs ys : Array Value} {Q : Value → Shared → Prop} (hl1 : IsSq k1 s.heap l1 xs) (hl2 : IsSq k2 s.heap l2 ys)
    (h : ∀ h', IsZip h' (s.heap.objs.size + 4) (s.heap.objs.size + 2) (s.heap.objs.size + 3) .none → IsPair h' (s.heap.objs.size + 2) (.ref s.heap.objs.size) (.ref (s.heap.objs.size + 1)) →
      IsPair h' (s.heap.objs.size + 3) .none .none → SIt k1 h' s.heap.objs.size l1 0 → SIt k2 h' (s.heap.objs.size + 1) l2 0 → h'.objs.size = s.heap.objs.size + 5 →
      (∀ c o, s.heap.get? c = some o → h'.get? c = some o) → Q (.ref (s.heap.objs.size + 4)) { s with heap := h' }) :
    wpAny (model prog w) A (call (.type "zip") [.ref l1, .ref l2]) Q E s := by
  refine callType_new F.called_zip (by decide) (F.typeCall_zip_2 _ _) (F.newCall_zip_2 _ _) (fun obj => F.args_object_init_3 obj _ _) F.entry_zip_new
    (meets_zip_newS k1 k2 l1 l2 xs ys) ⟨hl1, hl2, ?_⟩
  have z1 : (zH1 k1 s.heap l1).objs.size = s.heap.objs.size + 1 := Heap.size_push ..
  have z2 : (zH2 k1 k2 s.heap l1 l2).objs.size = s.heap.objs.size + 2 := by rw [Heap.size_push, z1]
  have z3 : (zH3 k1 k2 s.heap l1 l2).objs.size = s.heap.objs.size + 3 := by rw [Heap.size_push, z2]
  have z4 : (zH4 k1 k2 s.heap l1 l2).objs.size = s.heap.objs.size + 4 := by rw [Heap.size_push, z3]
  have z5 : (zH5 k1 k2 s.heap l1 l2).objs.size = s.heap.objs.size + 5 := by rw [Heap.size_push, z4]
  have g5 : (zH5 k1 k2 s.heap l1 l2).get? (zH4 k1 k2 s.heap l1 l2).objs.size = some _ := Heap.get?_push_size _ rfl
  have g4 : (zH5 k1 k2 s.heap l1 l2).get? (zH3 k1 k2 s.heap l1 l2).objs.size = some _ := Heap.get?_push_of_some _ (Heap.get?_push_size _ rfl)
  have g3 : (zH5 k1 k2 s.heap l1 l2).get? (zH2 k1 k2 s.heap l1 l2).objs.size = some _ := Heap.get?_push_of_some _ (Heap.get?_push_of_some _ (Heap.get?_push_size _ rfl))
  have g2 : (zH5 k1 k2 s.heap l1 l2).get? (zH1 k1 s.heap l1).objs.size = some _ := Heap.get?_push_of_some _ (Heap.get?_push_of_some _ (Heap.get?_push_of_some _ (Heap.get?_push_size _ (by cases k2 <;> rfl))))
  have g1 : (zH5 k1 k2 s.heap l1 l2).get? s.heap.objs.size = some _ := Heap.get?_push_of_some _ (Heap.get?_push_of_some _ (Heap.get?_push_of_some _ (Heap.get?_push_of_some _ (Heap.get?_push_size _ (by cases k1 <;> rfl)))))
  show _ ∧ _
  rw [z2, z3, z4] at g5
  rw [z1, z2] at g3
  rw [z3] at g4
  rw [z1] at g2
  rw [z4]
  exact ⟨⟨_, g5, rfl⟩, h _ g5 g3 g4 (sIt_new g1) (sIt_new g2) z5 fun c o x =>
    Heap.get?_push_of_some _ (Heap.get?_push_of_some _ (Heap.get?_push_of_some _ (Heap.get?_push_of_some _ (Heap.get?_push_of_some _ x))))⟩
end
def ItzA (k1 k2 : Bool) (K : PySem.W.Frag) (a b : Addr) : L2.It :=
  ⟨fun i H => ∃ (xs ys : List V) (x y : V), Sq k1 K H a xs ∧ Sq k2 K H b ys ∧ xs[i]? = some x ∧ ys[i]? = some y,
    fun i H v H' => ∃ T x y, v = .ref T ∧ H T = none ∧ H' = upd H T (.tup [x, y]) ∧ (∀ xs, Sq k1 K H a xs → xs[i]? = some x) ∧ ∀ ys, Sq k2 K H b ys → ys[i]? = some y,
    fun i H => ∃ xs ys : List V, Sq k1 K H a xs ∧ Sq k2 K H b ys ∧ i ≤ xs.length ∧ i ≤ ys.length ∧ (i = xs.length ∨ i = ys.length)⟩
theorem turn_zipA (k1 k2 : Bool) {P : Program} {w : World} {K : PySem.W.Frag} {elts : List Expr} {kk : Nat} {tpos : Pos} {a b z TI TO i1 i2 : Addr} (D : ZipSep2 z TI TO i1 i2 [i1, a] [i2, b]) (na : a ≠ i1) (nb : b ≠ i2) :
    Turn P w K (.Tuple elts kk tpos) (ItzA k1 k2 K a b) [z, TI, TO, i1, i2] z (fun i h => IsZip h z TI TO .none ∧ IsTupOf2 h TI (.ref i1) (.ref i2) ∧ (∃ x y, IsTupOf2 h TO x y) ∧ SIt k1 h i1 a i ∧ SIt k2 h i2 b i) where
  mem := by simp
  obj := fun i h st c hc => by
    obtain ⟨hz, hTI, ⟨x, y, hTO⟩, h1, h2⟩ := st
    have e' : c = z ∨ c = TI ∨ c = TO ∨ c = i1 ∨ c = i2 := by simpa using hc
    rcases e' with q | q | q | q | q
    · rw [q]; exact ⟨_, hz, fun v q => nomatch q⟩
    · rw [q]; exact ⟨_, hTI, fun v q => nomatch q⟩
    · rw [q]; exact ⟨_, hTO, fun v q => nomatch q⟩
    · rw [q]; exact h1.there
    · rw [q]; exact h2.there
  keep := fun i h h' st k => by
    obtain ⟨hz, hTI, ⟨x, y, hTO⟩, h1, h2⟩ := st
    exact ⟨k z (by simp) _ hz, k TI (by simp) _ hTI, ⟨x, y, k TO (by simp) _ hTO⟩, h1.at_ fun o q => k i1 (by simp) o q, h2.at_ fun o q => k i2 (by simp) o q⟩
  item := by
    intro X hP hw hK hc i pins s σ H E I hf st hg
    subst hP hw hK
    obtain ⟨hz, hTI, ⟨x0, y0, hTO⟩, h1, h2⟩ := st
    obtain ⟨xs, ys, x, y, hqx, hqy, hx, hy⟩ := hg
    obtain ⟨its, rv, p, _, _⟩ := Sq.its k1 I hqx
    obtain ⟨its2, rv2, p2, _, _⟩ := Sq.its k2 I hqy
    obtain ⟨u, hu, ru⟩ := rv.get hx
    obtain ⟨u2, hu2, ru2⟩ := rv2.get hy
    have hzl : z < s.heap.objs.size := Heap.lt_size hz
    have hl1 : i < its.toArray.size := by simpa using (List.getElem?_eq_some_iff.mp hu).1
    have hl2 : i < its2.toArray.size := by simpa using (List.getElem?_eq_some_iff.mp hu2).1
    refine wpAny_pyNext_zipD2_item D (draws k1 (prog := X.prog) (w := X.w) (A := X.A.in1) (I.ok.hd hc) i1 a na its.toArray) (draws k2 (prog := X.prog) (w := X.w) (A := X.A.in1) (I.ok.hd hc) i2 b nb its2.toArray) hz hTI hTO ⟨h1, p⟩ ⟨h2, p2⟩ hl1 hl2 fun v1 v2 h' tk y1 y2 z' TO' st1 st2 hT hsz hk => ?_
    have e1 : v1 = u := by
      have q : its.toArray[i]? = some v1 := y1
      rw [List.getElem?_toArray, hu] at q
      exact (Option.some.inj q).symm
    have e2 : v2 = u2 := by
      have q : its2.toArray[i]? = some v2 := y2
      rw [List.getElem?_toArray, hu2] at q
      exact (Option.some.inj q).symm
    subst e1 e2
    refine ⟨_, rfl, wpAny_letOwnedTupleGo_zip (s := { s with heap := h', toks := tk }) z' fun h'' z'' sb => ?_⟩
    have hT2 : h''.get? s.heap.objs.size = some { cls := .type "tuple", data := .seq #[v1, v2] } := (sb.2 _ (Nat.ne_of_gt hzl)).trans hT
    have new : ObjOk X.prog X.w (upd H s.heap.objs.size (.tup [x, y])) h'' s.heap.objs.size (.tup [x, y]) :=
      ⟨by show 2 ≤ sizeLine; decide, [v1, v2], .cons ru (.cons ru2 .nil), ⟨_, hT2, rfl, _, rfl⟩⟩
    have I1 : Inv X pins σ (upd H s.heap.objs.size (.tup [x, y])) { s with heap := h'', toks := tk } :=
      I.turnedNew (t' := tk) (ch := [z, TI, TO, i1, i2]) (fun c o hb q => (sb.2 c (fun q' => hb (by simp [q']))).trans (hk c o (fun q' => hb (by simp [q'])) (fun q' => hb (by simp [q'])) (fun q' => hb (by simp [q'])) (fun q' => hb (by simp [q'])) q)) hf (Nat.le_refl _) new
    refine ⟨.ref s.heap.objs.size, _, I1, rfl, ⟨_, x, y, rfl, I.hok.fresh (Nat.le_refl _), rfl, fun l hl => by rw [Sq.inj k1 I hl hqx]; exact hx, fun l hl => by rw [Sq.inj k2 I hl hqy]; exact hy⟩, ⟨z'', ?_, ⟨v1, v2, ?_⟩, ?_, ?_⟩, fun c hcm => ?_⟩
    · exact (sb.2 _ D.TIz).trans (hk _ _ D.TIz D.TITO D.TIi1 D.TIi2 hTI)
    · exact (sb.2 _ D.TOz).trans TO'
    · exact st1.1.at_ fun o q => (sb.2 _ D.zi1.symm).trans q
    · exact st2.1.at_ fun o q => (sb.2 _ D.zi2.symm).trans q
    · have hlt : c < s.heap.objs.size := by
        have e' : c = z ∨ c = TI ∨ c = TO ∨ c = i1 ∨ c = i2 := by simpa using hcm
        rcases e' with q | q | q | q | q
        · rw [q]; exact hzl
        · rw [q]; exact Heap.lt_size hTI
        · rw [q]; exact Heap.lt_size hTO
        · rw [q]; obtain ⟨_, e1, _⟩ := h1.there; exact Heap.lt_size e1
        · rw [q]; obtain ⟨_, e2, _⟩ := h2.there; exact Heap.lt_size e2
      rw [upd_ne (Nat.ne_of_lt hlt)]
      exact (hf c hcm).1
  done := by
    intro X hP hw hK hc i pins s σ H E I hf st hg
    subst hP hw hK
    obtain ⟨hz, hTI, ⟨x0, y0, hTO⟩, h1, h2⟩ := st
    obtain ⟨xs, ys, hqx, hqy, hi1, hi2, hend⟩ := hg
    obtain ⟨its, rv, p, _, _⟩ := Sq.its k1 I hqx
    obtain ⟨its2, rv2, p2, _, _⟩ := Sq.its k2 I hqy
    have l1 := rv.length
    have l2 := rv2.length
    exact wpAny_pyNext_zipD2_end D (draws k1 (prog := X.prog) (w := X.w) (A := X.A.in1) (I.ok.hd hc) i1 a na its.toArray) (draws k2 (prog := X.prog) (w := X.w) (A := X.A.in1) (I.ok.hd hc) i2 b nb its2.toArray) hz hTI hTO ⟨h1, p⟩ ⟨h2, p2⟩
      (by rw [List.size_toArray]; omega) (by rw [List.size_toArray]; omega) (by rw [List.size_toArray, List.size_toArray]; omega) fun h' tk hk => ⟨rfl, I.turnedL (t' := tk) (ch := [z, TI, TO, i1, i2]) (fun c o hb q =>
      hk c o (fun q' => hb (by simp [q'])) (fun q' => hb (by simp [q'])) (fun q' => hb (by simp [q'])) (fun q' => hb (by simp [q'])) q) hf⟩
  self := fun A i s Q E st h => wpAny_pyIter_zip st.1 h
theorem zip_sep {I a b : Nat} (la : a < I) (lb : b < I) : ZipSep2 (I + 4) (I + 2) (I + 3) I (I + 1) [I, a] [I + 1, b] := by
  have ne : ∀ {m n : Nat}, (m < n ∨ n < m) → m ≠ n := fun h e => by omega
  have nm : ∀ {m n k : Nat}, (m < n ∨ n < m) → (m < k ∨ k < m) → m ∉ [n, k] := fun h1 h2 h => by
    rcases List.mem_cons.mp h with e | h
    · omega
    · rcases List.mem_cons.mp h with e | h
      · omega
      · cases h
  exact ⟨ne (by omega), ne (by omega), ne (by omega), ne (by omega), List.mem_cons_self, nm (by omega) (by omega), nm (by omega) (by omega), ne (by omega), List.mem_cons_self, nm (by omega) (by omega), nm (by omega) (by omega), nm (by omega) (by omega), nm (by omega) (by omega)⟩
def iZipS (K : PySem.W.Frag) (ta : TA) : TI := fun σ H R => ta σ H fun vs H1 => ∃ k1 k2 a b xs ys, vs = [.ref a, .ref b] ∧ Sq k1 K H1 a xs ∧ Sq k2 K H1 b ys ∧ R (ItzA k1 k2 K a b) H1
theorem pi_zipS {X : Cx} {e e2 : Expr} {ta : TA} {p pos tpos : Pos} {elts : List Expr} {kk : Nat} (hg : Gl X "zip") (hm : X.mg "zip" = none) (ha : PA X [e, e2] ta)
    (hs : starEach [e, e2] X.env = (false, eval e X.env) :: starEach [e2] X.env) (hpl : (backTo pos (starEach [e2] X.env)).any (·.1) = false) :
    PI X (.Tuple elts kk tpos) (.Call (.Name "zip" p) [e, e2] [] pos) (iZipS X.K ta) := by
  refine ⟨fun pins s σ H R I h => ?_⟩
  refine Call_ (ld_blt I hg hm PyProof.Rows.boot_zip (PyProof.Rows.callWith_type1 (thn (ha.run pos pins s σ H _ I h) fun us s1 ⟨vs, H1, I1, r1, q1⟩ => ?_) hs hpl))
  obtain ⟨k1, k2, a, b, xs, ys, ex, hqx, hqy, q⟩ := q1
  subst ex
  cases r1 with
  | cons r rr =>
    cases rr with
    | cons r' rr =>
      cases rr
      cases r
      cases r'
      obtain ⟨its, rv, p1, _, la⟩ := Sq.its k1 I1 hqx
      obtain ⟨its2, rv2, p2, _, lb⟩ := Sq.its k2 I1 hqy
      refine call_zip_sq p1 p2 fun h' hz hTI hTO h1 h2 hsz hk => wpAny_pyIter_zip hz ?_
      have I2 : Inv X pins σ H1 { s1 with heap := h' } := I1.kept (t' := s1.toks) hk
      refine ⟨s1.heap.objs.size + 4, [s1.heap.objs.size + 4, s1.heap.objs.size + 2, s1.heap.objs.size + 3, s1.heap.objs.size, s1.heap.objs.size + 1], _, _, H1, rfl, I2, turn_zipA k1 k2 ?_ (Nat.ne_of_lt la) (Nat.ne_of_lt (Nat.lt_succ_of_lt lb)), ⟨hz, hTI, ⟨_, _, hTO⟩, h1, h2⟩, fun c hcm => ?_, q⟩
      · have la' : (a : Nat) < s1.heap.objs.size := la
        have lb' : (b : Nat) < s1.heap.objs.size := lb
        exact zip_sep la' lb'
      · have e' : c = s1.heap.objs.size + 4 ∨ c = s1.heap.objs.size + 2 ∨ c = s1.heap.objs.size + 3 ∨ c = s1.heap.objs.size ∨ c = s1.heap.objs.size + 1 := by simpa using hcm
        have hle : s1.heap.objs.size ≤ c := by
          rcases e' with z | z | z | z | z
          · rw [z]; exact Nat.le_add_right _ _
          · rw [z]; exact Nat.le_add_right _ _
          · rw [z]; exact Nat.le_add_right _ _
          · rw [z]; exact Nat.le_refl _
          · rw [z]; exact Nat.le_add_right _ _
        exact I1.fpOk hle (I1.hok.fresh hle)
end G
end

section
set_option Elab.async false
set_option linter.all false
set_option maxRecDepth 100000
set_option maxHeartbeats 4000000
/-! G10: methods that change a local list; what loops walk. -/
namespace G
open PySem PySem.Spec PyProof.Rows L2

section
variable {K : PySem.W.Frag} {H H0 H' : Hp} {B B0 B' O0 : Bs} {ρ ρ' ρ0 : Ev} {σ σ0 : L2.St}
theorem ownL_at (g : Good K H B ρ σ) {i : Nat} {ds : List D} (h : ownL ρ[i]? = some ds) : ∃ a vs, OwAt ρ σ i a ∧ H a = some (.lst vs) ∧ Reps K H B ds vs ∧ B a := by
  cases e : ρ[i]? with
  | none => rw [e] at h; cases h
  | some s =>
    rw [e] at h
    cases s with
    | un => cases h
    | fz d => cases h
    | bw d => cases h
    | ow d =>
      cases d <;> simp only [ownL] at h <;> try (cases h; done)
      cases h
      obtain ⟨o, e2, q⟩ := g.at_ e
      obtain ⟨a, rfl, hb, vs, q, r⟩ := q
      exact ⟨a, vs, ⟨⟨_, .inl e⟩, e2⟩, q, r, hb⟩
    | io d =>
      cases d <;> simp only [ownL] at h <;> try (cases h; done)
      cases h
      obtain ⟨o, e2, q⟩ := g.at_ e
      obtain ⟨a, rfl, hb, vs, q, r⟩ := q
      exact ⟨a, vs, ⟨⟨_, .inr e⟩, e2⟩, q, r, hb⟩
theorem reown_kind {i : Nat} {d : D} (k : Nat) : SameKind ρ[k]? (reown ρ i d)[k]? := by
  unfold reown
  split
  · exact SameKind.set (by rename_i h; rw [h]; trivial) k
  · exact SameKind.set (by rename_i h; rw [h]; trivial) k
  · exact .refl _
/-- an owned list is changed -/
theorem Good.change (g : Good K H B ρ σ) {i : Nat} {a : Addr} {vs : List V} {ds : List D} (h : OwAt ρ σ i a) (r : Reps K H B ds vs) :
    Good K (upd H a (.lst vs)) B (reown ρ i (.lst ds)) σ ∧ Go H B ρ σ (upd H a (.lst vs)) B (reown ρ i (.lst ds)) σ := by
  have hk : ∀ k : Nat, SameKind ρ[k]? (reown ρ i (.lst ds))[k]? := reown_kind
  have heq : ∀ p, Ow (reown ρ i (.lst ds)) σ p ↔ Ow ρ σ p := fun p => ⟨fun ⟨k, z⟩ => ⟨k, SameKind.ow hk z⟩, fun ⟨k, z⟩ => ⟨k, SameKind.ow (fun j => (hk j).symm) z⟩⟩
  have hO : Ow (reown ρ i (.lst ds)) σ = Ow ρ σ := funext fun p => propext (heq p)
  have hOa : Ow ρ σ a := ⟨i, h⟩
  have st : Step H B (Ow ρ σ) (upd H a (.lst vs)) B (Ow ρ σ) := ⟨fun b o e n => by rw [upd_ne (fun z => n (by rw [z]; exact hOa))]; exact e, fun b e => by
    by_cases q : b = a
    · rw [q, upd_same]; simp
    · rw [upd_ne q]; exact e, fun _ z => .inl z, fun _ z _ => .inl z, fun _ z => .inl z⟩
  have hget : ∀ {k : Nat} {s : Sl}, (reown ρ i (.lst ds))[k]? = some s → k ≠ i → ρ[k]? = some s := fun {k s} e n => by
    unfold reown at e
    split at e
    · rwa [List.getElem?_set_ne (Ne.symm n)] at e
    · rwa [List.getElem?_set_ne (Ne.symm n)] at e
    · exact e
  have hlen : (reown ρ i (.lst ds)).length = ρ.length := by
    unfold reown
    split <;> simp
  refine ⟨⟨hlen.trans g.len, fun k s o e1 e2 => ?_, fun j k p z1 z2 => g.inj j k p (SameKind.ow hk z1) (SameKind.ow hk z2)⟩, ⟨by rw [hO]; exact st, fun k d e => ?_, fun k d e => ?_⟩⟩
  · rw [hO]
    by_cases hki : k = i
    · subst hki
      rw [h.2] at e2
      cases e2
      have hs : s = .ow (.lst ds) ∨ s = .io (.lst ds) := by
        obtain ⟨d, hd⟩ := h.1
        have hi : k < ρ.length := by rcases hd with hd | hd <;> exact (List.getElem?_eq_some_iff.mp hd).1
        unfold reown at e1
        rcases hd with hd | hd
        · rw [hd] at e1
          simp only [] at e1
          rw [List.getElem?_set_self hi] at e1
          cases e1; exact .inl rfl
        · rw [hd] at e1
          simp only [] at e1
          rw [List.getElem?_set_self hi] at e1
          cases e1; exact .inr rfl
      rcases hs with rfl | rfl
      · exact ⟨a, rfl, g.ob a hOa, vs, upd_same, Reps.stab g.owl st r⟩
      · exact ⟨a, rfl, g.ob a hOa, vs, upd_same, Reps.stab g.owl st r⟩
    · have e1' := hget e1 hki
      have q := g.sl k s o e1' e2
      have own : ∀ {d : D} {p : Addr}, (ρ[k]? = some (.ow d) ∨ ρ[k]? = some (.io d)) → σ[k]? = some (some (.ref p)) → Own K H B d p → Own K (upd H a (.lst vs)) B d p := fun {d p} hd ep w => by
        have hn : p ≠ a := fun z => hki (g.inj k i a ⟨⟨d, hd⟩, z ▸ ep⟩ h)
        cases d with
        | lst ds =>
          obtain ⟨ws, q, r⟩ := w
          exact ⟨ws, by rw [upd_ne hn]; exact q, Reps.stab g.owl st r⟩
        | _ => exact w.elim
      cases s with
      | un => trivial
      | fz d => obtain ⟨v, ev, r⟩ := q; exact ⟨v, ev, Rep.stab g.owl st r⟩
      | bw d => obtain ⟨v, ev, r⟩ := q; exact ⟨v, ev, RepS.stab g.owl st r⟩
      | ow d =>
        obtain ⟨p, ev, bp, w⟩ := q
        subst ev
        exact ⟨p, rfl, bp, own (.inl e1') e2 w⟩
      | io d =>
        obtain ⟨p, ev, bp, w⟩ := q
        subst ev
        exact ⟨p, rfl, bp, own (.inr e1') e2 w⟩
  · have q := hk k
    rw [e] at q
    cases z : ρ[k]? with
    | none => rw [z] at q; cases q
    | some s => rw [z] at q; cases s <;> first | (cases q; done) | (cases q; exact ⟨rfl, rfl⟩)
  · have q := hk k
    rw [e] at q
    cases z : (reown ρ i (.lst ds))[k]? with
    | none => rw [z] at q; cases q
    | some s => rw [z] at q; cases s <;> first | (cases q; done) | exact ⟨_, rfl, rfl⟩
end

section
variable {G : Pg} {F : Fn} {W : L2.WX} {X : Cx} {a b c : Expr} {a' b' c' : E} {pos : Pos}
/-! ### methods that change a list -/
def muOf (x : Str) (n : Nat) : Option Mu :=
  if x = "append" ∧ n = 1 then some .append else if x = "pop" ∧ n = 0 then some .pop else if x = "pop" ∧ n = 1 then some .popAt else if x = "insert" ∧ n = 2 then some .insert else none
def muId : Mu → String
  | .append => "list.append"
  | .pop => "list.pop"
  | .popAt => "list.pop"
  | .insert => "list.insert"
/-- how the method's rule fits -/
def FitsM (G : Pg) (r : V → List V → Hp → VK → Prop) (m : Mu) : Prop := ∀ (H : Hp) (B : Bs) (ds as : List D) (vs ws : List V) (a : Addr) (d : D) (ds' : List D) (Q : V → Hp → Prop),
  H a = some (.lst vs) → Reps G.K H B ds vs → Reps G.K H B as ws → mutD m ds as = some (d, ds') → (∀ v vs', Rep G.K H B d v → Reps G.K H B ds' vs' → Q v (upd H a (.lst vs'))) → r (.ref a) ws H Q
theorem fitm_append : FitsM G rAppend .append := by
  intro H B ds as vs ws a d ds' Q ha r1 r2 e k
  unfold mutD at e
  split at e <;> try (cases e; done)
  all_goals try (rename_i e0; cases e0; done)
  split at e <;> cases e
  rename_i hl
  simp only [Reps] at r2
  obtain ⟨v, r, rfl, r2, rfl⟩ := r2
  exact ⟨a, vs, v, rfl, rfl, ha, by rw [← r1.length]; exact hl, k .non _ (by simp [Rep]) (r1.append (.one r2))⟩
theorem fitm_pop : FitsM G rPop .pop := by
  intro H B ds as vs ws a d ds' Q ha r1 r2 e k
  unfold mutD at e
  split at e <;> try (cases e; done)
  all_goals try (rename_i e0; cases e0; done)
  obtain ⟨d', e1, e2⟩ := Option.map_eq_some_iff.mp e
  cases e2
  simp only [Reps] at r2
  subst r2
  obtain ⟨v, h1, h2⟩ := r1.at_ e1
  exact ⟨a, vs, v, rfl, rfl, ha, by rw [← r1.length]; exact h1, k v _ h2 r1.dropLast⟩
theorem ix_seq_of {n k : Nat} {i : Int} (h : ixN n i = some k) : seqIndex? i n = some k := by
  unfold ixN at h
  split at h
  · rename_i h0
    split at h
    · cases h
      exact seqIndex_of h0 (by assumption)
    · cases h
  · rename_i h0
    split at h
    · cases h
      exact seqIndex_neg (by omega) (by assumption)
    · cases h
theorem fitm_popAt : FitsM G rPopAt .popAt := by
  intro H B ds as vs ws a d ds' Q ha r1 r2 e k
  unfold mutD at e
  split at e <;> try (cases e; done)
  all_goals try (rename_i e0; cases e0; done)
  split at e <;> try (cases e; done)
  rename_i hb
  simp only [Bool.and_eq_true, decide_eq_true_eq] at hb
  obtain ⟨j, e1, e2⟩ := opt_bind_some e
  obtain ⟨d', e3, e4⟩ := Option.map_eq_some_iff.mp e2
  cases e4
  simp only [Reps, Rep] at r2
  obtain ⟨v, r, rfl, rfl, rfl⟩ := r2
  obtain ⟨v, h1, h2⟩ := r1.at_ e3
  exact ⟨a, vs, _, j, v, rfl, rfl, ha, hb.1, hb.2, ix_seq_of (by rw [← r1.length]; exact e1), h1, k v _ h2 (r1.eraseIdx j)⟩
def rInsert : V → List V → Hp → VK → Prop := fun x vs H Q => ∃ (l : Addr) (xs : List V) (i : Int) (y : V), x = .ref l ∧ vs = [.int i, y] ∧ H l = some (.lst xs) ∧ xs.length < sizeLine ∧ 0 ≤ i ∧ i < 2 ^ 63 ∧
    Q .non (upd H l (.lst (xs.take i.toNat ++ [y] ++ xs.drop i.toNat)))
theorem fitm_insert : FitsM G rInsert .insert := by
  intro H B ds as vs ws a d ds' Q ha r1 r2 e k
  unfold mutD at e
  split at e <;> try (cases e; done)
  all_goals try (rename_i e0; cases e0; done)
  split at e <;> cases e
  rename_i hb
  simp only [Bool.and_eq_true, decide_eq_true_eq] at hb
  simp only [Reps, Rep] at r2
  obtain ⟨v, r, rfl, rfl, w, r', rfl, r2, rfl⟩ := r2
  exact ⟨a, vs, _, w, rfl, rfl, ha, by rw [← r1.length]; exact hb.2, hb.1.1, hb.1.2, k .non _ (by simp [Rep]) (((r1.take _).append (.one r2)).append (r1.drop _))⟩
theorem starEach_tail {a : Expr} {es : List Expr} {env : Env} {p : Bool × Sem Value} {l : List (Bool × Sem Value)} (h : starEach (a :: es) env = p :: l) : starEach es env = l := by
  cases a <;> exact (List.cons.inj h).2
theorem mu_core {m : Mu} {i : Nat} {es' : Es} {r : V → List V → Hp → VK → Prop} (fit : FitsM G r m) {σ : L2.St} {H : Hp} {Q : V → Hp → Prop} (h : TEv G W (ev F (.mut m i es')) σ H Q) :
    tVar i σ H fun x H1 => tyV G.K "list" x H1 ∧ TDv G W (evTs F es') σ H1 fun xs H2 => r x xs H2 Q := by
  obtain ⟨B, ρ, g, run⟩ := h
  simp only [ev] at run
  cases e : ownL ρ[i]? with
  | none => rw [e] at run; exact run.elim
  | some ds =>
    rw [e] at run
    obtain ⟨a, vs, ho, hl, _, _⟩ := ownL_at g e
    refine ⟨.ref a, ho.2, .inl ⟨rfl, vs, .inl (.inl hl)⟩, B, ρ, g, ?_⟩
    refine Run.bind0 (R := DsR G) (f := fun as ρ => match ownL (ρ[i]?) with
      | some ds => match mutD m ds as with
        | some (d, ds') => Res.ok (RV.val d) (reown ρ i (.lst ds'))
        | none => .no
      | none => .no) run fun as ρ1 ws H1 B1 g1 s1 rel1 run1 => ?_
    cases e1 : ownL ρ1[i]? with
    | none => rw [e1] at run1; exact run1.elim
    | some ds1 =>
      rw [e1] at run1
      cases e2 : mutD m ds1 as with
      | none => simp only [e2] at run1; exact run1.elim
      | some p =>
        obtain ⟨d, ds'⟩ := p
        simp only [e2] at run1
        obtain ⟨a1, vs1, ho1, hl1, r1, hb1⟩ := ownL_at g1 e1
        have ea : a1 = a := by
          have q := ho1.2
          rw [ho.2] at q
          cases q; rfl
        subst ea
        refine fit H1 B1 ds1 as vs1 ws a1 d ds' Q hl1 r1 rel1 e2 fun v vs' rv rvs => ?_
        obtain ⟨g2, s2⟩ := g1.change ho1 rvs
        exact run1 v _ B1 g2 (s1.trans s2) (Rep.stab g1.owl s2.st rv)
theorem s_mut {x m : Str} {mu : Mu} {i : Nat} {es : List Expr} {es' : Es} {pp apos : Pos} (hK : X.K = G.K) (hm : muOf m es.length = some mu) (hN : X.N[i]? = some x) (hv : Vis X.env.scope x) (hd : (x == ("__debug__" : Str)) = false) (hcd : (x == ("__classdict__" : Str)) = false)
    (ha : PA X es (TDv G W (evTs F es'))) (hline : (apos.endLine == pos.line) = true) (hs : starEach es X.env = es.map fun e => (false, eval e X.env)) (hes : es = [] → es' = .nil) :
    PE X (.Call (.Attribute (.Name x pp) m apos) es [] pos) (TEv G W (ev F (.mut mu i es'))) := by
  have pn : PE X (.Name x pp) (tVar i) := pe_var hN hv hd hcd
  unfold muOf at hm
  split at hm
  · rename_i c
    obtain ⟨rfl, hl⟩ := c
    cases hm
    cases es with
    | nil => cases hl
    | cons e es =>
      cases es with
      | cons _ _ => cases hl
      | nil =>
        have h1 : starEach [e] X.env = [(false, eval e X.env)] := hs
        refine (pe_bm PySem.F.plainAttrs_list PySem.F.slot_list_append PySem.F.type_list_append mt_append pn ha rfl (by rw [h1]; rfl) hline (by rw [h1]; rfl) rfl).imp fun σ H Q q => ?_
        have q := mu_core fitm_append q
        rw [← hK] at q
        exact q
  · split at hm
    · rename_i c
      obtain ⟨rfl, hl⟩ := c
      cases hm
      cases es with
      | cons _ _ => cases hl
      | nil =>
        refine (pe_bm0 PySem.F.plainAttrs_list PySem.F.slot_list_pop PySem.F.type_list_pop mt_pop pn rfl hline).imp fun σ H Q q => ?_
        have e0 : es' = .nil := hes rfl
        subst e0
        obtain ⟨v, e, ty, B, ρ, g, run⟩ := mu_core fitm_pop q
        simp only [evTs] at run
        exact ⟨v, e, by rw [hK]; exact ty, run.here g (b := []) (by show Reps _ _ _ [] []; simp [Reps])⟩
    · split at hm
      · rename_i c
        obtain ⟨rfl, hl⟩ := c
        cases hm
        cases es with
        | nil => cases hl
        | cons e es =>
          cases es with
          | cons _ _ => cases hl
          | nil =>
            have h1 : starEach [e] X.env = [(false, eval e X.env)] := hs
            refine (pe_bm PySem.F.plainAttrs_list PySem.F.slot_list_pop PySem.F.type_list_pop mt_popAt pn ha rfl (by rw [h1]; rfl) hline (by rw [h1]; rfl) rfl).imp fun σ H Q q => ?_
            have q := mu_core fitm_popAt q
            rw [← hK] at q
            exact q
      · split at hm
        · rename_i c
          obtain ⟨rfl, hl⟩ := c
          cases hm
          cases es with
          | nil => cases hl
          | cons e es =>
            cases es with
            | nil => cases hl
            | cons e' es =>
              cases es with
              | cons _ _ => cases hl
              | nil =>
                have h1 : starEach [e, e'] X.env = [(false, eval e X.env), (false, eval e' X.env)] := hs
                have h2 := starEach_tail h1
                refine (pe_bm PySem.F.plainAttrs_list PySem.F.slot_list_insert PySem.F.type_list_insert mt_insert pn ha rfl (by rw [h1]; rfl) hline (by rw [h1, h2]) (by rw [h2]; rfl)).imp fun σ H Q q => ?_
                have q := mu_core fitm_insert q
                rw [← hK] at q
                exact q
        · cases hm
/-! ### what is walked -/
/-- the place of a walked list: no one changes it, or it is new, or a slot's (which is locked) -/
def WalkAt (H0 : Hp) (B1 O1 : Bs) (ρ1 : Ev) (σ : L2.St) (rs : List RV) (q : Addr) : Prop :=
  ¬ B1 q ∨ (H0 q = none ∧ B1 q ∧ ¬ O1 q) ∨ ∃ i d, RV.slot i ∈ rs ∧ σ[i]? = some (some (.ref q)) ∧ (ρ1[i]? = some (.ow d) ∨ (ρ1[i]? = some (.bw d) ∧ d.mt = true))
/-- J walks ds, as long as the lists at ps are left alone -/
def ItR (G : Pg) (σ : L2.St) : Rl (List D × List RV) L2.It := fun H0 H1 B1 O1 ρ1 p J => ∃ ps : List Addr, (∀ q ∈ ps, H1 q ≠ none ∧ WalkAt H0 B1 O1 ρ1 σ p.2 q) ∧ ∀ O, (∀ q ∈ ps, ¬ O q) → ∀ H B O', OwL H1 B1 O → Step H1 B1 O H B O' →
  (∀ i, i < p.1.length → J.go i H) ∧ J.stop p.1.length H ∧ ∀ i x H', J.yld i H x H' → i < p.1.length → ∃ d, p.1[i]? = some d ∧ ((H' = H ∧ Rep G.K H B d x) ∨ ∃ q vs es, x = .ref q ∧ H q = none ∧ H' = upd H q (.tup vs) ∧ d = .tup es ∧ Reps G.K H B es vs)
theorem ItR.rb {G : Pg} {σ : L2.St} : Rb (ItR G σ) := fun H H1 H2 B O ρ p J hk ⟨ps, h1, h2⟩ => ⟨ps, fun q hq => ⟨(h1 q hq).1, (h1 q hq).2.elim .inl fun z => .inr (z.elim (fun z => .inl ⟨by
  cases e : H q with
  | none => rfl
  | some o => exact absurd z.1 (hk q (by rw [e]; simp)), z.2⟩) .inr)⟩, h2⟩
def TIv (G : Pg) (W : L2.WX) (r : Ev → Res (List D × List RV)) : L2.TI := fun σ H R => ∃ B ρ, Good G.K H B ρ σ ∧ Run G (ItR G σ) W σ H B ρ (r ρ) R
theorem _root_.L2.PI.imp {X : Cx} {tg e : Expr} {t t' : L2.TI} (h : PI X tg e t) (k : ∀ σ H Q, t' σ H Q → t σ H Q) : PI X tg e t' := ⟨fun pins s σ H R I q => h.run pins s σ H R I (k σ H R q)⟩

/-- the items of a list or tuple, or a list that no one changes -/
theorem seq_still {σ : L2.St} {H0 H1 : Hp} {B1 : Bs} {ρ1 : Ev} (g : Good G.K H1 B1 ρ1 σ) {r : RV} {v : V} (rel : RvRel G.K H0 H1 B1 (Ow ρ1 σ) σ r v) {ds : List D} (e : itemsR ρ1 r = some ds) :
    ∃ a k vs, v = .ref a ∧ Sq k G.K H1 a vs ∧ Reps G.K H1 B1 ds vs ∧ ∃ ps : List Addr, (∀ q ∈ ps, H1 q ≠ none ∧ WalkAt H0 B1 (Ow ρ1 σ) ρ1 σ [r] q) ∧
      ∀ O, (∀ q ∈ ps, ¬ O q) → ∀ H B O', OwL H1 B1 O → Step H1 B1 O H B O' → Sq k G.K H a vs ∧ Reps G.K H B ds vs := by
  unfold itemsR at e
  split at e <;> try (cases e; done)
  rename_i hw
  obtain ⟨d, e1, e2⟩ := opt_bind_some e
  have rb := force_ok g rel e1
  cases d <;> simp only [items] at e2 <;> cases e2
  · -- a tuple
    simp only [RepB, Rep] at rb
    obtain ⟨a, vs, rfl, q, rr⟩ := rb
    exact ⟨a, false, vs, rfl, q, rr, [], fun _ z => (by cases z), fun O hn H B O' ol st => ⟨SqT.keep ol st q, Reps.stab ol st rr⟩⟩
  · -- a list
    obtain ⟨a, vs, rfl, q, rr⟩ := rb
    refine ⟨a, true, vs, rfl, .inl (.inl q), rr, [a], fun b hb => ?_, fun O hn H B O' ol st => ⟨.inl (.inl (st.keep a _ q (hn a (List.mem_singleton_self _)))), Reps.stab ol st rr⟩⟩
    have hb : b = a := by simpa using hb
    subst hb
    refine ⟨by rw [q]; simp, ?_⟩
    cases r with
    | val d =>
      have rel : Rep G.K H1 B1 d (.ref b) := rel
      have ed : d = .lst ds := by simpa [force] using e1
      subst ed
      simp only [Rep] at rel
      obtain ⟨a', vs', e', nb, _⟩ := rel
      cases e'
      exact .inl nb
    | own d =>
      obtain ⟨a', e', h0, hb, n, w⟩ := rel
      cases e'
      exact .inr (.inl ⟨h0, hb, n⟩)
    | slot i =>
      have rel : σ[i]? = some (some (.ref b)) := rel
      simp only [force] at e1
      cases es : ρ1[i]? with
      | none => rw [es] at e1; cases e1
      | some sl =>
        rw [es] at e1
        have r2 := g.sl i sl _ es rel
        cases sl with
        | un => cases e1
        | fz d =>
          have ed : d = .lst ds := by simpa [Sl.get] using e1
          subst ed
          obtain ⟨v, ev, r2⟩ := r2
          cases ev
          simp only [Rep] at r2
          obtain ⟨a', vs', e', nb, _⟩ := r2
          cases e'
          exact .inl nb
        | io d => simp only [walkB, es] at hw; cases hw
        | ow d => exact .inr (.inr ⟨i, d, List.mem_singleton_self _, rel, .inl es⟩)
        | bw d =>
          have ed : d = .lst ds := by simpa [Sl.get] using e1
          exact .inr (.inr ⟨i, d, List.mem_singleton_self _, rel, .inr ⟨es, by rw [ed]; rfl⟩⟩)
  · simp only [RepB, Rep] at rb
    obtain ⟨a, vs, rfl, q, rr⟩ := rb
    refine ⟨a, true, vs, rfl, ?_, rr, [], fun _ z => (by cases z), fun O hn H B O' ol st => ⟨?_, Reps.stab ol st rr⟩⟩
    · rcases q with ⟨o, q⟩ | q
      · exact .inl (.inr ⟨o, q⟩)
      · exact .inr q
    · rcases SqF.keep ol st q with ⟨o, q⟩ | q
      · exact .inl (.inr ⟨o, q⟩)
      · exact .inr q
theorem seqR_items {ρ : Ev} {r : RV} {ds : List D} (h : seqR ρ r = some ds) : itemsR ρ r = some ds := by
  unfold seqR at h
  unfold itemsR
  split at h <;> try (cases h; done)
  rename_i hw
  rw [if_pos hw]
  obtain ⟨d, e1, e2⟩ := opt_bind_some h
  rw [e1]
  cases d <;> simp only [elems] at e2 <;> cases e2 <;> rfl

/-- a list, a tuple: walked -/
def ItS (k : Bool) (K : PySem.W.Frag) (a : Addr) : L2.It := match k with
  | true => Itl K a
  | false => Itt K a
theorem pi_seq {tg : Expr} {t : L2.TE} (h : PE X a t) : PI X tg a (fun σ H R => t σ H fun x H1 => ∃ p k xs, x = .ref p ∧ Sq k X.K H1 p xs ∧ R (ItS k X.K p) H1) := by
  refine ⟨fun pins s σ H R I hw => ?_⟩
  refine thn (h.run pins s σ H _ I hw) fun v s1 ⟨x, H1, I1, r1, q1⟩ => ?_
  obtain ⟨p, k, xs, rfl, hq, q⟩ := q1
  have fp : ∀ (b : Addr), b ∈ [s1.heap.objs.size] → FpOk X pins H1 b := fun b hb => by
    have e : b = s1.heap.objs.size := by simpa using hb
    subst e
    exact I1.fpOk (Nat.le_refl _) (I1.hok.fresh (Nat.le_refl _))
  cases r1
  cases k with
  | true =>
    obtain ⟨its, rv, p', hz⟩ := I1.list hq
    refine wpAny_pyIter_list p'.isList ?_
    exact ⟨s1.heap.objs.size, [s1.heap.objs.size], _, _, H1, rfl, I1.kept (t' := s1.toks) fun b o e => Heap.get?_push_of_some _ e, turn_list p _, ⟨_, Heap.get?_push_size _ rfl, rfl, rfl⟩, fp, q⟩
  | false =>
    obtain ⟨its, rv, p', hz⟩ := I1.tuple hq
    refine wpAny_pyIter_tuple (show s1.heap.IsTuple p its.toArray from p') ?_
    exact ⟨s1.heap.objs.size, [s1.heap.objs.size], _, _, H1, rfl, I1.kept (t' := s1.toks) fun b o e => Heap.get?_push_of_some _ e, turn_tuple p _, ⟨_, Heap.get?_push_size _ rfl, rfl, rfl⟩, fp, q⟩
theorem Reps.back {H : Hp} {B : Bs} {ds : List D} {vs : List V} (h : Reps G.K H B ds vs) {i : Nat} {x : V} (e : vs[i]? = some x) : ∃ d, ds[i]? = some d ∧ Rep G.K H B d x := by
  have hi : i < ds.length := by rw [h.length]; exact (List.getElem?_eq_some_iff.mp e).1
  obtain ⟨v, h1, h2⟩ := h.at_ (List.getElem?_eq_getElem hi)
  rw [e] at h1; cases h1
  exact ⟨_, List.getElem?_eq_getElem hi, h2⟩
theorem i_val (hK : X.K = G.K) {tg : Expr} (h : PE X a (TEv G W (ev F a'))) : PI X tg a (TIv G W (evI F (.val a'))) := by
  refine (pi_seq h).imp fun σ H R ⟨B, ρ, g, run⟩ => ?_
  simp only [evI] at run
  refine ⟨B, ρ, g, run.bind0 fun ra ρ1 v H1 B1 g1 s1 rel1 run1 => ?_⟩
  obtain ⟨p, e0, run1⟩ := run1.ofO
  obtain ⟨ds, e, rfl⟩ := Option.map_eq_some_iff.mp e0
  obtain ⟨a, k, vs, rfl, q, rr, ps, hps, still⟩ := seq_still g1 rel1 e
  refine ⟨a, k, vs, rfl, by rw [hK]; exact q, run1 _ H1 B1 g1 s1 ⟨ps, hps, fun O hn H' B' O' ol st => ?_⟩⟩
  obtain ⟨q', r'⟩ := still O hn H' B' O' ol st
  rw [← hK] at q'
  cases k with
  | true =>
    refine ⟨fun i hi => ?_, ⟨vs, q', Nat.le_of_eq r'.length.symm⟩, fun i x H2 hy hi => ?_⟩
    · have hi' : i < vs.length := by rw [← r'.length]; exact hi
      exact ⟨vs, vs[i], q', List.getElem?_eq_getElem hi'⟩
    · obtain ⟨rfl, hy⟩ := hy
      obtain ⟨d, h1, h2⟩ := Reps.back r' (hy vs q')
      exact ⟨d, h1, .inl ⟨rfl, h2⟩⟩
  | false =>
    refine ⟨fun i hi => ?_, ⟨vs, q', Nat.le_of_eq r'.length.symm⟩, fun i x H2 hy hi => ?_⟩
    · have hi' : i < vs.length := by rw [← r'.length]; exact hi
      exact ⟨vs, vs[i], q', List.getElem?_eq_getElem hi'⟩
    · obtain ⟨rfl, hy⟩ := hy
      obtain ⟨d, h1, h2⟩ := Reps.back r' (hy vs q')
      exact ⟨d, h1, .inl ⟨rfl, h2⟩⟩
theorem range_it_ok {σ : L2.St} {H0 H1 : Hp} {B1 O1 : Bs} {ρ1 : Ev} (lo : Int) (n : Nat) : ItR G σ H0 H1 B1 O1 ρ1 (rangeD lo n, []) (Itr lo n) := by
  have hl : (rangeD lo n).length = n := by simp [rangeD]
  refine ⟨[], fun _ z => (by cases z), fun O _ H B O' ol st => ?_⟩
  refine ⟨fun i hi => by rw [hl] at hi; exact hi, by show n ≤ _; rw [hl]; exact Nat.le_refl _, fun i x H' hy hi => ?_⟩
  obtain ⟨rfl, rfl⟩ := hy
  rw [hl] at hi
  exact ⟨.int (lo + i), by simp [rangeD, hi], .inl ⟨rfl, by simp [Rep]⟩⟩
theorem evBs_len : ∀ (es : Es) {ρ ρ' : Ev} {rs : List RV}, evBs F es ρ = .ok rs ρ' → rs.length = es.len
  | .nil, ρ, ρ', ds, h => by simp only [evBs] at h; cases h; rfl
  | .cons e es, ρ, ρ', ds, h => by
    simp only [evBs] at h
    obtain ⟨r, ρ1, _, h⟩ := res_bind_ok h
    obtain ⟨rs, ρ2, h1, h⟩ := res_bind_ok h
    cases h
    have := evBs_len es h1
    simp [Es.len, this]
theorem inR_of {i : Int} (h : inR i = true) : -(2 ^ 62) ≤ i ∧ i < 2 ^ 62 := by
  simp only [inR, Bool.and_eq_true, decide_eq_true_eq] at h
  exact h
theorem down_it_ok {σ : L2.St} {H0 H1 : Hp} {B1 O1 : Bs} {ρ1 : Ev} (lo : Int) (n : Nat) : ItR G σ H0 H1 B1 O1 ρ1 (downD lo n, []) (Itc lo (-1) n) := by
  have hl : (downD lo n).length = n := by simp [downD]
  refine ⟨[], fun _ z => (by cases z), fun O _ H B O' ol st => ?_⟩
  refine ⟨fun i hi => by rw [hl] at hi; exact hi, by show n ≤ _; rw [hl]; exact Nat.le_refl _, fun i x H' hy hi => ?_⟩
  obtain ⟨rfl, rfl⟩ := hy
  rw [hl] at hi
  have e : lo + (i : Int) * -1 = lo - (i : Int) := by omega
  exact ⟨.int (lo - i), by simp [downD, hi], .inl ⟨rfl, by simp only [Rep]; rw [e]⟩⟩
theorem forces_len {ρ : Ev} : ∀ {rs : List RV} {ds : List D}, forces ρ rs = some ds → ds.length = rs.length
  | [], ds, h => by simp only [forces] at h; cases h; rfl
  | r :: rs, ds, h => by
    simp only [forces] at h
    obtain ⟨d, e1, e2⟩ := opt_bind_some h
    obtain ⟨es, e3, rfl⟩ := Option.map_eq_some_iff.mp e2
    rw [List.length_cons, List.length_cons, forces_len e3]
theorem rng_core {es' : Es} {σ : L2.St} {H : Hp} {R : L2.It → Hp → Prop} (hle : es'.len ≤ 2) (h : TIv G W (evI F (.rng es')) σ H R) :
    TAv G W (evBs F es') σ H fun vs H1 => ∃ xs : List Int, vs = xs.map V.int ∧ xs.length = es'.len ∧ ∃ lo hi : Int, (xs = [hi] ∧ lo = 0 ∨ xs = [lo, hi]) ∧ (-(2 ^ 62) ≤ lo ∧ lo < 2 ^ 62 ∧ -(2 ^ 62) ≤ hi ∧ hi < 2 ^ 62) ∧ R (Itr lo (hi - lo).toNat) H1 := by
  obtain ⟨B, ρ, g, run⟩ := h
  simp only [evI] at run
  refine ⟨B, ρ, g, ?_⟩
  cases hq : evBs F es' ρ with
  | no => rw [hq] at run; exact run
  | ex x ρ1 => rw [hq] at run; exact run
  | ok rs ρ1 =>
    rw [hq] at run
    intro vs H1 B1 g1 s1 rel1
    have hl := evBs_len es' hq
    obtain ⟨p, e0, run1⟩ := run.ofO
    obtain ⟨ds, e, rfl⟩ := Option.map_eq_some_iff.mp e0
    obtain ⟨xs, e1, e2⟩ := opt_bind_some e
    have fr := forces_ok g1 rel1 e1
    have hlv := rvs_len rel1
    have run2 : ∀ J, ItR G σ H H1 B1 (Ow ρ1 σ) ρ1 (ds, []) J → R J H1 := fun J hj => run1 J H1 B1 g1 s1 hj
    unfold rangeOf at e2
    split at e2
    · rename_i j
      split at e2 <;> cases e2
      rename_i hj
      obtain ⟨v, rfl, r⟩ := pr1 (K := G.K) fr
      simp only [RepB, Rep] at r
      subst r
      obtain ⟨j1, j2⟩ := inR_of hj
      refine ⟨[j], rfl, by rw [← hl, hlv]; rfl, 0, j, .inl ⟨rfl, rfl⟩, ⟨by omega, by omega, j1, j2⟩, ?_⟩
      rw [Int.sub_zero]
      exact run2 _ (range_it_ok 0 j.toNat)
    · rename_i i j
      split at e2 <;> cases e2
      rename_i hj
      simp only [Bool.and_eq_true] at hj
      obtain ⟨v, w, rfl, r, r'⟩ := pr2 (K := G.K) fr
      simp only [RepB, Rep] at r r'
      subst r r'
      obtain ⟨i1, i2⟩ := inR_of hj.1
      obtain ⟨j1, j2⟩ := inR_of hj.2
      exact ⟨[i, j], rfl, by rw [← hl, hlv]; rfl, i, j, .inr rfl, ⟨i1, i2, j1, j2⟩, run2 _ (range_it_ok i _)⟩
    · exfalso
      have hr := forces_len e1
      rw [← hl] at hle
      rw [← hr] at hle
      simp at hle
    · cases e2
theorem rng_core3 {es' : Es} {σ : L2.St} {H : Hp} {R : L2.It → Hp → Prop} (hle : es'.len = 3) (h : TIv G W (evI F (.rng es')) σ H R) :
    TAv G W (evBs F es') σ H fun vs H1 => ∃ i j : Int, vs = [.int i, .int j, .int (-1)] ∧ (-(2 ^ 62) ≤ i ∧ i < 2 ^ 62 ∧ -(2 ^ 62) ≤ j ∧ j < 2 ^ 62) ∧ R (Itc i (-1) (i - j).toNat) H1 := by
  obtain ⟨B, ρ, g, run⟩ := h
  simp only [evI] at run
  refine ⟨B, ρ, g, ?_⟩
  cases hq : evBs F es' ρ with
  | no => rw [hq] at run; exact run
  | ex x ρ1 => rw [hq] at run; exact run
  | ok rs ρ1 =>
    rw [hq] at run
    intro vs H1 B1 g1 s1 rel1
    have hl := evBs_len es' hq
    obtain ⟨p, e0, run1⟩ := run.ofO
    obtain ⟨ds, e, rfl⟩ := Option.map_eq_some_iff.mp e0
    obtain ⟨xs, e1, e2⟩ := opt_bind_some e
    have fr := forces_ok g1 rel1 e1
    have hr := forces_len e1
    rw [hl, hle] at hr
    have run2 : ∀ J, ItR G σ H H1 B1 (Ow ρ1 σ) ρ1 (ds, []) J → R J H1 := fun J hj => run1 J H1 B1 g1 s1 hj
    unfold rangeOf at e2
    split at e2
    · cases hr
    · cases hr
    · rename_i i j k
      split at e2 <;> cases e2
      rename_i hj
      simp only [Bool.and_eq_true, decide_eq_true_eq] at hj
      obtain ⟨⟨rfl, hi⟩, hj⟩ := hj
      obtain ⟨v, w, u, rfl, r, r', r''⟩ := pr3 (K := G.K) fr
      simp only [RepB, Rep] at r r' r''
      subst r r' r''
      obtain ⟨i1, i2⟩ := inR_of hi
      obtain ⟨j1, j2⟩ := inR_of hj
      exact ⟨i, j, rfl, ⟨i1, i2, j1, j2⟩, run2 _ (down_it_ok i _)⟩
    · cases e2
theorem i_rng1 (hg : Gl X "range") (hm : X.mg "range" = none) {tg : Expr} {pp : Pos} (ha : PA X [a] (TAv G W (evBs F (.cons a' .nil)))) (hs : starEach [a] X.env = [(false, eval a X.env)]) :
    PI X tg (.Call (.Name "range" pp) [a] [] pos) (TIv G W (evI F (.rng (.cons a' .nil)))) := by
  refine (pi_range1 hg hm ha hs).imp fun σ H R q => ?_
  obtain ⟨B, ρ, g, run⟩ := rng_core (by simp [Es.len]) q
  refine ⟨B, ρ, g, run.imp fun vs H1 ⟨xs, e, hl, lo, hi, h, ⟨b1, b2, b3, b4⟩, q⟩ => ?_⟩
  rcases h with ⟨rfl, rfl⟩ | rfl
  · exact ⟨hi, e, b3, b4, by rw [Int.sub_zero] at q; exact q⟩
  · cases hl
theorem i_rng2 (hg : Gl X "range") (hm : X.mg "range" = none) {tg : Expr} {pp : Pos} (ha : PA X [a, b] (TAv G W (evBs F (.cons a' (.cons b' .nil))))) (hs : starEach [a, b] X.env = [(false, eval a X.env), (false, eval b X.env)]) (hs2 : starEach [b] X.env = [(false, eval b X.env)]) :
    PI X tg (.Call (.Name "range" pp) [a, b] [] pos) (TIv G W (evI F (.rng (.cons a' (.cons b' .nil))))) := by
  refine (pi_range2 hg hm ha hs hs2).imp fun σ H R q => ?_
  obtain ⟨B, ρ, g, run⟩ := rng_core (by simp [Es.len]) q
  refine ⟨B, ρ, g, run.imp fun vs H1 ⟨xs, e, hl, lo, hi, h, bd, q⟩ => ?_⟩
  rcases h with ⟨rfl, _⟩ | rfl
  · cases hl
  · exact ⟨lo, hi, e, bd, q⟩
theorem i_rng3 (hg : Gl X "range") (hm : X.mg "range" = none) {tg : Expr} {pp : Pos} (ha : PA X [a, b, c] (TAv G W (evBs F (.cons a' (.cons b' (.cons c' .nil)))))) (hs : starEach [a, b, c] X.env = [(false, eval a X.env), (false, eval b X.env), (false, eval c X.env)]) (hs2 : starEach [b, c] X.env = [(false, eval b X.env), (false, eval c X.env)]) :
    PI X tg (.Call (.Name "range" pp) [a, b, c] [] pos) (TIv G W (evI F (.rng (.cons a' (.cons b' (.cons c' .nil)))))) := by
  refine (pi_range3 hg hm ha (by rw [hs, hs2]) (by rw [hs2]; rfl)).imp fun σ H R q => ?_
  obtain ⟨B, ρ, g, run⟩ := rng_core3 (by simp [Es.len]) q
  refine ⟨B, ρ, g, run.imp fun vs H1 ⟨i, j, e, ⟨b1, b2, b3, b4⟩, q⟩ => ?_⟩
  exact ⟨i, j, -1, _, e, RgC.neg b1 b2 b3 b4, q⟩
theorem enumD_len : ∀ (n : Nat) (ds : List D), (enumD n ds).length = ds.length
  | _, [] => rfl
  | n, d :: ds => by simp [enumD, enumD_len (n + 1) ds]
theorem enumD_at : ∀ (n : Nat) (ds : List D) (i : Nat), (enumD n ds)[i]? = (ds[i]?).map fun d => D.tup [.int (n + i : Nat), d]
  | _, [], i => by simp [enumD]
  | n, d :: ds, 0 => by simp [enumD]
  | n, d :: ds, i + 1 => by
    simp only [enumD, List.getElem?_cons_succ]
    rw [enumD_at (n + 1) ds i]
    have : n + 1 + i = n + (i + 1) := by omega
    rw [this]
theorem zipD_len : ∀ (ds es : List D), (zipD ds es).length = min ds.length es.length
  | [], es => by simp [zipD]
  | _ :: _, [] => by simp [zipD]
  | d :: ds, e :: es => by simp [zipD, zipD_len ds es]
theorem zipD_at : ∀ (ds es : List D) (i : Nat) (d e : D), ds[i]? = some d → es[i]? = some e → (zipD ds es)[i]? = some (.tup [d, e])
  | [], _, _, _, _, h, _ => by simp at h
  | _ :: _, [], _, _, _, _, h => by simp at h
  | x :: ds, y :: es, 0, d, e, h1, h2 => by
    simp at h1 h2
    simp [zipD, h1, h2]
  | x :: ds, y :: es, i + 1, d, e, h1, h2 => by
    simp only [zipD, List.getElem?_cons_succ] at h1 h2 ⊢
    exact zipD_at ds es i d e h1 h2
theorem reps2 {H : Hp} {B : Bs} {d e : D} {v w : V} (h1 : Rep G.K H B d v) (h2 : Rep G.K H B e w) : Reps G.K H B [d, e] [v, w] := by
  simp only [Reps]
  exact ⟨v, [w], rfl, h1, w, [], rfl, h2, rfl⟩
theorem i_enum (hK : X.K = G.K) (hg : Gl X "enumerate") (hm : X.mg "enumerate" = none) {elts : List Expr} {kk : Nat} {tpos pp : Pos} (ha : PE X a (TEv G W (ev F a'))) (hs : starEach [a] X.env = [(false, eval a X.env)]) :
    PI X (.Tuple elts kk tpos) (.Call (.Name "enumerate" pp) [a] [] pos) (TIv G W (evI F (.enum a'))) := by
  refine (pi_enumA hg hm (pa_cons ha pa_nil hs) hs).imp fun σ H R ⟨B, ρ, g, run⟩ => ?_
  simp only [evI] at run
  refine ⟨B, ρ, g, run.bind0 fun ra ρ1 v H1 B1 g1 s1 rel1 run1 => ?_⟩
  obtain ⟨p, e0, run1⟩ := run1.ofO
  obtain ⟨ds, e, rfl⟩ := Option.map_eq_some_iff.mp e0
  obtain ⟨a, k, vs, rfl, q, rr, ps, hps, still⟩ := seq_still g1 rel1 (seqR_items e)
  refine ⟨k, a, vs, rfl, by rw [hK]; exact q, run1 _ H1 B1 g1 s1 ⟨ps, hps, fun O hn H' B' O' ol st => ?_⟩⟩
  obtain ⟨q', r'⟩ := still O hn H' B' O' ol st
  rw [← hK] at q'
  refine ⟨fun i hi => ?_, ⟨vs, q', by rw [enumD_len]; exact r'.length.symm⟩, fun i x H2 hy hi => ?_⟩
  · rw [enumD_len] at hi
    have hi' : i < vs.length := by have := r'.length; omega
    exact ⟨vs, vs[i], q', List.getElem?_eq_getElem hi'⟩
  · obtain ⟨T, y, rfl, nT, rfl, hy⟩ := hy
    obtain ⟨d, h1, h2⟩ := Reps.back r' (hy vs q')
    refine ⟨.tup [.int (0 + i : Nat), d], by rw [enumD_at, h1]; rfl, .inr ⟨T, [.int (i : Nat), y], _, rfl, nT, rfl, rfl, reps2 ?_ h2⟩⟩
    rw [Nat.zero_add]
    simp [Rep]
theorem i_zip (hK : X.K = G.K) (hg : Gl X "zip") (hm : X.mg "zip" = none) {elts : List Expr} {kk : Nat} {tpos pp : Pos} (ha : PE X a (TEv G W (ev F a'))) (hb : PE X b (TEv G W (ev F b'))) (hs : starEach [a, b] X.env = (false, eval a X.env) :: starEach [b] X.env) (hs2 : starEach [b] X.env = [(false, eval b X.env)]) :
    PI X (.Tuple elts kk tpos) (.Call (.Name "zip" pp) [a, b] [] pos) (TIv G W (evI F (.zip a' b'))) := by
  refine (pi_zipS hg hm (pa_cons ha (pa_cons hb pa_nil hs2) hs) hs (by rw [hs2]; rfl)).imp fun σ H R ⟨B, ρ, g, run⟩ => ?_
  simp only [evI] at run
  refine ⟨B, ρ, g, run.bind0 fun ra ρ1 v H1 B1 g1 s1 rel1 run1 => ?_⟩
  have run1 : Run G (ItR G σ) W σ H B ρ ((ev F b' ρ1).bind fun s ρ => ofO ((seqR ρ ra).bind fun ds => (seqR ρ s).map fun es => (zipD ds es, [ra, s])) ρ) R := run1
  refine ⟨B1, ρ1, g1, (run1.from_ s1).bind0 fun rb ρ2 w H2 B2 g2 s2 rel2 run2 => ?_⟩
  obtain ⟨p, e0, run2⟩ := run2.ofO
  obtain ⟨ds, e1, e'⟩ := opt_bind_some e0
  obtain ⟨es, e2, rfl⟩ := Option.map_eq_some_iff.mp e'
  obtain ⟨a, k1, vs, rfl, q1, r1, ps1, hps1, still1⟩ := seq_still g2 (RvRel.stab g1.owl s2.st rel1) (seqR_items e1)
  obtain ⟨b, k2, ws, rfl, q2, r2, ps2, hps2, still2⟩ := seq_still g2 (RvRel.base s1.st.there rel2) (seqR_items e2)
  have sub : ∀ {r : RV} {q : Addr}, (H2 q ≠ none ∧ WalkAt H B2 (Ow ρ2 σ) ρ2 σ [r] q) → r ∈ [ra, rb] → H2 q ≠ none ∧ WalkAt H B2 (Ow ρ2 σ) ρ2 σ [ra, rb] q := fun {r q} z hr => ⟨z.1, by
    rcases z.2 with z | z | ⟨i, d, hi, z⟩
    · exact .inl z
    · exact .inr (.inl z)
    · have : RV.slot i = r := by simpa using hi
      exact .inr (.inr ⟨i, d, by rw [this]; exact hr, z⟩)⟩
  refine ⟨k1, k2, a, b, vs, ws, rfl, by rw [hK]; exact q1, by rw [hK]; exact q2, run2 _ H2 B2 g2 s2 ⟨ps1 ++ ps2, fun q hq => (List.mem_append.mp hq).elim (fun z => sub (hps1 q z) (by simp)) fun z => sub (hps2 q z) (by simp), fun O hn H' B' O' ol st => ?_⟩⟩
  obtain ⟨q1', r1'⟩ := still1 O (fun q hq => hn q (List.mem_append_left _ hq)) H' B' O' ol st
  obtain ⟨q2', r2'⟩ := still2 O (fun q hq => hn q (List.mem_append_right _ hq)) H' B' O' ol st
  rw [← hK] at q1' q2'
  have l1 := r1'.length
  have l2 := r2'.length
  refine ⟨fun i hi => ?_, ⟨vs, ws, q1', q2', ?_, ?_, ?_⟩, fun i x H3 hy hi => ?_⟩
  · rw [zipD_len] at hi
    have h1 : i < vs.length := by omega
    have h2 : i < ws.length := by omega
    exact ⟨vs, ws, vs[i], ws[i], q1', q2', List.getElem?_eq_getElem h1, List.getElem?_eq_getElem h2⟩
  · rw [zipD_len]; omega
  · rw [zipD_len]; omega
  · rw [zipD_len]; omega
  · obtain ⟨T, y, z, rfl, nT, rfl, hy, hz⟩ := hy
    obtain ⟨d, h1, h2⟩ := Reps.back r1' (hy vs q1')
    obtain ⟨e, h3, h4⟩ := Reps.back r2' (hz ws q2')
    exact ⟨.tup [d, e], zipD_at ds es i d e h1 h3, .inr ⟨T, [y, z], _, rfl, nT, rfl, rfl, reps2 h2 h4⟩⟩
end
end G
end

section
set_option Elab.async false
set_option linter.all false
set_option maxRecDepth 100000
set_option maxHeartbeats 4000000
/-! G11: names stored, lists locked while they are walked, names of a comprehension wiped. -/
namespace G
open PySem PySem.Spec PyProof.Rows L2

section
variable {K : PySem.W.Frag} {H H0 H1 H' : Hp} {B B0 B1 B' O0 : Bs} {ρ ρ' ρ0 ρ1 : Ev} {σ σ0 σ1 σ' : L2.St}
theorem setS_ok {i : Nat} {s : Sl} (h : setS ρ i s = some ρ') : i < ρ.length ∧ (∀ d, ρ[i]? ≠ some (.io d)) ∧ ρ' = ρ.set i s := by
  unfold setS at h
  split at h
  · cases h
  · rename_i s' q n
    cases h
    exact ⟨(List.getElem?_eq_some_iff.mp n).1, fun d e => by rw [n] at e; cases e; exact q d rfl, rfl⟩
  · cases h
/-- owned slots behind a store at i -/
theorem owAt_upd {i j : Nat} {s : Sl} {v : Option V} {a : Addr} (h : OwAt (ρ.set i s) (σ.set i v) j a) : (j = i ∧ v = some (.ref a) ∧ ∃ d, s = .ow d ∨ s = .io d) ∨ (j ≠ i ∧ OwAt ρ σ j a) := by
  obtain ⟨⟨d, h⟩, e⟩ := h
  rcases get_set e with ⟨hj, e'⟩ | ⟨n, e⟩
  · subst hj
    refine .inl ⟨rfl, e'.symm, d, ?_⟩
    rcases h with h | h
    · rcases get_set h with ⟨_, h⟩ | ⟨n, _⟩
      · exact .inl h.symm
      · exact absurd rfl n
    · rcases get_set h with ⟨_, h⟩ | ⟨n, _⟩
      · exact .inr h.symm
      · exact absurd rfl n
  · refine .inr ⟨n, ⟨d, ?_⟩, e⟩
    rcases h with h | h
    · rcases get_set h with ⟨z, _⟩ | ⟨_, h⟩
      · exact absurd z n
      · exact .inl h
    · rcases get_set h with ⟨z, _⟩ | ⟨_, h⟩
      · exact absurd z n
      · exact .inr h
theorem own_anti {O O' : Bs} {s : Sl} {o : Option V} (h : SlRel K H B O s o) (k : ∀ a, O' a → O a) : SlRel K H B O' s o := by
  cases s with
  | bw d =>
    obtain ⟨v, e, r⟩ := h
    refine ⟨v, e, ?_⟩
    cases d with
    | lst ds => obtain ⟨a, vs, e, q, n, r⟩ := r; exact ⟨a, vs, e, q, fun z => n (k a z), r⟩
    | _ => exact r
  | _ => exact h
theorem store_val (g : Good K H B ρ σ) {i : Nat} {d : D} {v : V} (r : Rep K H B d v) (h : setS ρ i (.fz d) = some ρ') : Good K H B ρ' (σ.set i (some v)) ∧ Go H B ρ σ H B ρ' (σ.set i (some v)) := by
  obtain ⟨hi, hn, rfl⟩ := setS_ok h
  have sub : ∀ {j a}, OwAt (ρ.set i (.fz d)) (σ.set i (some v)) j a → j ≠ i ∧ OwAt ρ σ j a := fun {j a} z => by
    rcases owAt_upd z with ⟨_, _, d', z⟩ | z
    · rcases z with z | z <;> cases z
    · exact z
  have subO : ∀ a, Ow (ρ.set i (.fz d)) (σ.set i (some v)) a → Ow ρ σ a := fun a ⟨j, z⟩ => ⟨j, (sub z).2⟩
  refine ⟨⟨by simp [g.len], fun j s o e1 e2 => ?_, fun j k a z1 z2 => g.inj j k a (sub z1).2 (sub z2).2⟩, ⟨⟨fun _ _ e _ => e, fun _ e => e, fun _ e => .inl e, fun _ e _ => .inl e, fun a z => .inl (subO a z)⟩, fun j d' e => ?_, fun j d' e => ?_⟩⟩
  · rcases get_set e1 with ⟨rfl, rfl⟩ | ⟨n, e1⟩
    · rcases get_set e2 with ⟨_, rfl⟩ | ⟨n, _⟩
      · exact ⟨v, rfl, r⟩
      · exact absurd rfl n
    · rcases get_set e2 with ⟨z, _⟩ | ⟨_, e2⟩
      · exact absurd z n
      · exact own_anti (g.sl j s o e1 e2) subO
  · rcases get_set e with ⟨_, e⟩ | ⟨n, e⟩
    · cases e
    · exact ⟨e, List.getElem?_set_ne (Ne.symm n)⟩
  · have n : i ≠ j := fun z => by subst z; exact hn d' e
    exact ⟨d', by rw [List.getElem?_set_ne n]; exact e, List.getElem?_set_ne n⟩
/-- a new list gets a name -/
theorem store_own (g0 : Good K H0 B0 ρ0 σ0) (s : Go H0 B0 ρ0 σ0 H B ρ σ) (g : Good K H B ρ σ) {i : Nat} {d : D} {a : Addr} (h0 : H0 a = none) (hb : B a) (n : ¬ Ow ρ σ a) (w : Own K H B d a) (h : setS ρ i (.ow d) = some ρ') :
    Good K H B ρ' (σ.set i (some (.ref a))) ∧ Go H0 B0 ρ0 σ0 H B ρ' (σ.set i (some (.ref a))) := by
  obtain ⟨hi, hn, rfl⟩ := setS_ok h
  have sub : ∀ {j b}, OwAt (ρ.set i (.ow d)) (σ.set i (some (.ref a))) j b → (j = i ∧ b = a) ∨ (j ≠ i ∧ OwAt ρ σ j b) := fun {j b} z => by
    rcases owAt_upd z with ⟨q, e', _⟩ | q
    · cases e'; exact .inl ⟨q, rfl⟩
    · exact .inr q
  have subO : ∀ b, Ow (ρ.set i (.ow d)) (σ.set i (some (.ref a))) b → Ow ρ σ b ∨ b = a := fun b ⟨j, z⟩ => (sub z).elim (fun z => .inr z.2) fun z => .inl ⟨j, z.2⟩
  refine ⟨⟨by simp [g.len], fun j s' o e1 e2 => ?_, fun j k b z1 z2 => ?_⟩, ⟨⟨s.st.keep, s.st.there, s.st.bnew, s.st.bold, fun b z => (subO b z).elim (s.st.ow b) fun z => .inr (by rw [z]; exact h0)⟩, fun j d' e => ?_, fun j d' e => ?_⟩⟩
  · rcases get_set e1 with ⟨rfl, rfl⟩ | ⟨nj, e1⟩
    · rcases get_set e2 with ⟨_, rfl⟩ | ⟨n, _⟩
      · exact ⟨a, rfl, hb, w⟩
      · exact absurd rfl n
    · rcases get_set e2 with ⟨z, _⟩ | ⟨_, e2⟩
      · exact absurd z nj
      · have q := g.sl j s' o e1 e2
        cases s' with
        | bw d' =>
          obtain ⟨v, ev, r⟩ := q
          refine ⟨v, ev, ?_⟩
          cases d' with
          | lst ds =>
            obtain ⟨b, vs, e, q, nb, r⟩ := r
            refine ⟨b, vs, e, q, fun z => (subO b z).elim nb fun e' => ?_, r⟩
            -- the borrowed list stood at the start
            obtain ⟨k0, k1⟩ := s.kb j _ e1
            have q0 := g0.sl j _ o k0 (by rw [← k1]; exact e2)
            obtain ⟨v0, ev0, r0⟩ := q0
            obtain ⟨b0, vs0, e0, q0, _, _⟩ := r0
            rw [ev] at ev0; cases ev0
            rw [e] at e0; cases e0
            rw [e', h0] at q0; cases q0
          | _ => exact r
        | _ => exact q
  · rcases sub z1 with ⟨q1, e1⟩ | ⟨q1, o1⟩
    · rcases sub z2 with ⟨q2, e2⟩ | ⟨q2, o2⟩
      · rw [q1, q2]
      · exact absurd ⟨k, e1 ▸ o2⟩ n
    · rcases sub z2 with ⟨q2, e2⟩ | ⟨q2, o2⟩
      · exact absurd ⟨j, e2 ▸ o1⟩ n
      · exact g.inj j k b o1 o2
  · rcases get_set e with ⟨_, e⟩ | ⟨nj, e⟩
    · cases e
    · exact ⟨(s.kb j d' e).1, by rw [List.getElem?_set_ne (Ne.symm nj)]; exact (s.kb j d' e).2⟩
  · obtain ⟨d1, e1, e2⟩ := s.ki j d' e
    have nj : i ≠ j := fun z => by subst z; exact hn d1 e1
    exact ⟨d1, by rw [List.getElem?_set_ne nj]; exact e1, by rw [List.getElem?_set_ne nj]; exact e2⟩
/-- new lists among values -/
def ownVs : List RV → List V → List V
  | .own _ :: rs, v :: vs => v :: ownVs rs vs
  | _ :: rs, _ :: vs => ownVs rs vs
  | _, _ => []
theorem asgAll_ok {G : Pg} : ∀ {is : List Nat} {rs : List RV} {vs : List V} {ρ ρ' : Ev} {σ : L2.St}, Good G.K H0 B0 ρ0 σ0 → Go H0 B0 ρ0 σ0 H B ρ σ → Good G.K H B ρ σ → RvsR G σ0 H0 H B (Ow ρ σ) rs vs → (ownVs rs vs).Nodup → asgAll ρ is rs = some ρ' →
    ∃ σ', Good G.K H B ρ' σ' ∧ Go H0 B0 ρ0 σ0 H B ρ' σ' ∧ vs.length = is.length ∧ σ' = (is.zip vs).foldl (fun σ p => σ.set p.1 (some p.2)) σ
  | [], [], _, _, _, _, g0, s, g, r, nd, h => by
    cases r
    cases h
    exact ⟨_, g, s, rfl, rfl⟩
  | [], _ :: _, _, _, _, _, _, _, _, _, _, h => by cases h
  | _ :: _, [], _, _, _, _, _, _, _, _, _, h => by cases h
  | i :: is, .slot _ :: rs, _, _, _, _, _, _, _, _, _, h => by cases h
  | i :: is, .val d :: rs, _, ρ, ρ', σ, g0, s, g, r, nd, h => by
    cases r with
    | cons r1 r2 =>
      simp only [asgAll] at h
      obtain ⟨ρ1, h1, h2⟩ := opt_bind_some h
      obtain ⟨g1, s1⟩ := store_val g r1 h1
      obtain ⟨σ', g2, s2, hl, e⟩ := asgAll_ok g0 (s.trans s1) g1 (RvsR.stab g.owl s1.st r2) nd h2
      exact ⟨σ', g2, s2, by simp [hl], e⟩
  | i :: is, .own d :: rs, _, ρ, ρ', σ, g0, s, g, r, nd, h => by
    cases r with
    | cons r1 r2 =>
      rename_i v vs
      simp only [asgAll] at h
      obtain ⟨ρ1, h1, h2⟩ := opt_bind_some h
      obtain ⟨a, rfl, h0, hb, n, w⟩ := r1
      obtain ⟨g1, s1⟩ := store_own g0 s g h0 hb n w h1
      simp only [ownVs, List.nodup_cons] at nd
      have r3 : RvsR G σ0 H0 H B (Ow ρ1 (σ.set i (some (.ref a)))) rs vs := by
        -- the others are other lists
        have sub : ∀ b, Ow ρ1 (σ.set i (some (.ref a))) b → Ow ρ σ b ∨ b = a := fun b ⟨j, z⟩ => by
          obtain ⟨_, _, rfl⟩ := setS_ok h1
          rcases owAt_upd z with ⟨_, e', _⟩ | ⟨_, z⟩
          · cases e'; exact .inr rfl
          · exact .inl ⟨j, z⟩
        have go : ∀ {rs : List RV} {vs : List V}, V.ref a ∉ ownVs rs vs → RvsR G σ0 H0 H B (Ow ρ σ) rs vs → RvsR G σ0 H0 H B (Ow ρ1 (σ.set i (some (.ref a)))) rs vs := fun {rs vs} hn r => by
          induction r with
          | nil => exact .nil
          | cons q q2 ih =>
            rename_i r' v' rs' vs'
            cases r' with
            | val d => exact .cons q (ih hn)
            | slot j => exact .cons q (ih hn)
            | own d =>
              simp only [ownVs, List.mem_cons, not_or] at hn
              obtain ⟨b, rfl, b0, bb, bn, bw⟩ := q
              exact .cons ⟨b, rfl, b0, bb, fun z => (sub b z).elim bn fun e => hn.1 (by rw [e]), bw⟩ (ih hn.2)
        exact go nd.1 r2
      obtain ⟨σ', g2, s2, hl, e⟩ := asgAll_ok g0 s1 g1 r3 nd.2 h2
      exact ⟨σ', g2, s2, by simp [hl], e⟩
theorem setAll_ok : ∀ {is : List Nat} {ds : List D} {vs : List V} {ρ ρ' : Ev} {σ : L2.St}, Good K H B ρ σ → Reps K H B ds vs → setAll ρ is ds = some ρ' → ∃ σ', σ'.length = σ.length ∧ (∀ j, j ∉ is → σ'[j]? = σ[j]?) ∧ Good K H B ρ' σ' ∧ Go H B ρ σ H B ρ' σ' ∧
      vs.length = is.length ∧ σ' = (is.zip vs).foldl (fun σ p => σ.set p.1 (some p.2)) σ
  | [], [], vs, ρ, ρ', σ, g, r, h => by
    cases h
    simp only [Reps] at r
    subst r
    exact ⟨σ, rfl, fun _ _ => rfl, g, Go.refl _ _ _ _, rfl, rfl⟩
  | [], _ :: _, _, _, _, _, _, _, h => by cases h
  | _ :: _, [], _, _, _, _, _, _, h => by cases h
  | i :: is, d :: ds, _, ρ, ρ', σ, g, r, h => by
    simp only [Reps] at r
    obtain ⟨v, vs, rfl, r1, r2⟩ := r
    simp only [setAll] at h
    obtain ⟨ρ1, h1, h2⟩ := opt_bind_some h
    obtain ⟨g1, s1⟩ := store_val g r1 h1
    obtain ⟨σ', l, k, g2, s2, hl, e⟩ := setAll_ok g1 r2 h2
    refine ⟨σ', by simpa using l, fun j hj => ?_, g2, s1.trans s2, by simp [hl], e⟩
    rw [k j (fun z => hj (List.mem_cons_of_mem _ z)), List.getElem?_set_ne (fun z => hj (by rw [z]; exact List.mem_cons_self))]

/-! ### locks -/
theorem lock_at : ∀ (rs : List RV) (ρ : Ev) (j : Nat), ((lock ρ rs)[j]? = ρ[j]? ∨ (RV.slot j ∈ rs ∧ ∃ d, ρ[j]? = some (.ow d) ∧ (lock ρ rs)[j]? = some (.bw d))) ∧ (RV.slot j ∈ rs → ∀ d, (lock ρ rs)[j]? ≠ some (.ow d))
  | [], ρ, j => ⟨.inl rfl, fun z => by cases z⟩
  | .val d :: rs, ρ, j => by
    obtain ⟨h1, h2⟩ := lock_at rs ρ j
    refine ⟨h1.imp id fun ⟨m, z⟩ => ⟨List.mem_cons_of_mem _ m, z⟩, fun m => h2 ?_⟩
    rcases List.mem_cons.mp m with z | z
    · cases z
    · exact z
  | .own d :: rs, ρ, j => by
    obtain ⟨h1, h2⟩ := lock_at rs ρ j
    refine ⟨h1.imp id fun ⟨m, z⟩ => ⟨List.mem_cons_of_mem _ m, z⟩, fun m => h2 ?_⟩
    rcases List.mem_cons.mp m with z | z
    · cases z
    · exact z
  | .slot i :: rs, ρ, j => by
    simp only [lock]
    split
    · rename_i d q
      have hi : i < ρ.length := (List.getElem?_eq_some_iff.mp q).1
      obtain ⟨h1, h2⟩ := lock_at rs (ρ.set i (.bw d)) j
      by_cases hj : i = j
      · subst hj
        rw [List.getElem?_set_self hi] at h1
        have : (lock (ρ.set i (.bw d)) rs)[i]? = some (.bw d) := by
          rcases h1 with h1 | ⟨_, d', h1, _⟩
          · exact h1
          · cases h1
        refine ⟨.inr ⟨List.mem_cons_self, d, q, this⟩, fun _ d' e => ?_⟩
        rw [this] at e; cases e
      · rw [List.getElem?_set_ne hj] at h1
        refine ⟨h1.imp id fun ⟨m, z⟩ => ⟨List.mem_cons_of_mem _ m, z⟩, fun m => h2 ?_⟩
        rcases List.mem_cons.mp m with z | z
        · cases z; exact absurd rfl hj
        · exact z
    · rename_i q
      obtain ⟨h1, h2⟩ := lock_at rs ρ j
      refine ⟨h1.imp id fun ⟨m, z⟩ => ⟨List.mem_cons_of_mem _ m, z⟩, fun m d e => ?_⟩
      rcases List.mem_cons.mp m with z | z
      · cases z
        rcases h1 with h1 | ⟨_, d', h1, h1'⟩
        · exact q d (h1.symm.trans e)
        · exact q d' h1
      · exact h2 z d e
theorem unlock_at : ∀ (rs : List RV) (ρ1 ρ : Ev) (j : Nat), ((unlock ρ1 ρ rs)[j]? = ρ[j]? ∨ (RV.slot j ∈ rs ∧ ∃ d0 d, ρ1[j]? = some (.ow d0) ∧ ρ[j]? = some (.bw d) ∧ (unlock ρ1 ρ rs)[j]? = some (.ow d))) ∧
    (RV.slot j ∈ rs → ∀ d0 d, ρ1[j]? = some (.ow d0) → (unlock ρ1 ρ rs)[j]? ≠ some (.bw d))
  | [], ρ1, ρ, j => ⟨.inl rfl, fun z => by cases z⟩
  | .val d :: rs, ρ1, ρ, j => by
    obtain ⟨h1, h2⟩ := unlock_at rs ρ1 ρ j
    refine ⟨h1.imp id fun ⟨m, z⟩ => ⟨List.mem_cons_of_mem _ m, z⟩, fun m => h2 ?_⟩
    rcases List.mem_cons.mp m with z | z
    · cases z
    · exact z
  | .own d :: rs, ρ1, ρ, j => by
    obtain ⟨h1, h2⟩ := unlock_at rs ρ1 ρ j
    refine ⟨h1.imp id fun ⟨m, z⟩ => ⟨List.mem_cons_of_mem _ m, z⟩, fun m => h2 ?_⟩
    rcases List.mem_cons.mp m with z | z
    · cases z
    · exact z
  | .slot i :: rs, ρ1, ρ, j => by
    simp only [unlock]
    split
    · rename_i d0 d q0 q
      have hi : i < ρ.length := (List.getElem?_eq_some_iff.mp q).1
      obtain ⟨h1, h2⟩ := unlock_at rs ρ1 (ρ.set i (.ow d)) j
      by_cases hj : i = j
      · subst hj
        rw [List.getElem?_set_self hi] at h1
        have : (unlock ρ1 (ρ.set i (.ow d)) rs)[i]? = some (.ow d) := by
          rcases h1 with h1 | ⟨_, _, d', _, h1, _⟩
          · exact h1
          · cases h1
        refine ⟨.inr ⟨List.mem_cons_self, d0, d, q0, q, this⟩, fun _ d1 d' _ e => ?_⟩
        rw [this] at e; cases e
      · rw [List.getElem?_set_ne hj] at h1
        refine ⟨h1.imp id fun ⟨m, z⟩ => ⟨List.mem_cons_of_mem _ m, z⟩, fun m => h2 ?_⟩
        rcases List.mem_cons.mp m with z | z
        · cases z; exact absurd rfl hj
        · exact z
    · rename_i q
      obtain ⟨h1, h2⟩ := unlock_at rs ρ1 ρ j
      refine ⟨h1.imp id fun ⟨m, z⟩ => ⟨List.mem_cons_of_mem _ m, z⟩, fun m d0 d e0 e => ?_⟩
      rcases List.mem_cons.mp m with z | z
      · cases z
        rcases h1 with h1 | ⟨_, d0', d', k0, h1, h1'⟩
        · exact q d0 d e0 (h1.symm.trans e)
        · exact q d0' d' k0 h1
      · exact h2 z d0 d e0 e
theorem lock_len : ∀ (rs : List RV) (ρ : Ev), (lock ρ rs).length = ρ.length
  | [], ρ => rfl
  | .val _ :: rs, ρ => lock_len rs ρ
  | .own _ :: rs, ρ => lock_len rs ρ
  | .slot i :: rs, ρ => by
    simp only [lock]
    split
    · rw [lock_len rs]; simp
    · exact lock_len rs ρ
theorem unlock_len : ∀ (rs : List RV) (ρ1 ρ : Ev), (unlock ρ1 ρ rs).length = ρ.length
  | [], _, ρ => rfl
  | .val _ :: rs, ρ1, ρ => unlock_len rs ρ1 ρ
  | .own _ :: rs, ρ1, ρ => unlock_len rs ρ1 ρ
  | .slot i :: rs, ρ1, ρ => by
    simp only [unlock]
    split
    · rw [unlock_len rs]; simp
    · exact unlock_len rs ρ1 ρ
theorem lock_ow {rs : List RV} {j : Nat} {a : Addr} (h : OwAt (lock ρ rs) σ j a) : OwAt ρ σ j a ∧ ¬ (RV.slot j ∈ rs ∧ ∃ d, ρ[j]? = some (.ow d)) := by
  obtain ⟨⟨d, h⟩, e⟩ := h
  obtain ⟨h1, h2⟩ := lock_at rs ρ j
  have hn : ∀ d', (lock ρ rs)[j]? ≠ some (.bw d') := fun d' z => by rcases h with h | h <;> (rw [h] at z; cases z)
  rcases h1 with h1 | ⟨_, d', _, h1⟩
  · refine ⟨⟨⟨d, by rw [← h1]; exact h⟩, e⟩, fun ⟨m, d', hd⟩ => ?_⟩
    rw [hd] at h1
    exact h2 m d' h1
  · exact absurd h1 (hn d')
/-- the lists walked are no one's any more -/
theorem Good.lock (g : Good K H B ρ σ) (rs : List RV) : Good K H B (lock ρ rs) σ ∧ Step H B (Ow ρ σ) H B (Ow (G.lock ρ rs) σ) := by
  have subO : ∀ a, Ow (G.lock ρ rs) σ a → Ow ρ σ a := fun a ⟨j, z⟩ => ⟨j, (lock_ow z).1⟩
  refine ⟨⟨by rw [lock_len]; exact g.len, fun j s o e1 e2 => ?_, fun j k a z1 z2 => g.inj j k a (lock_ow z1).1 (lock_ow z2).1⟩, ⟨fun _ _ e _ => e, fun _ e => e, fun _ e => .inl e, fun _ e _ => .inl e, fun a z => .inl (subO a z)⟩⟩
  rcases (lock_at rs ρ j).1 with h | ⟨m, d, hd, h⟩
  · rw [h] at e1
    exact own_anti (g.sl j s o e1 e2) subO
  · rw [h] at e1
    cases e1
    obtain ⟨a, rfl, hb, w⟩ := g.sl j _ o hd e2
    refine ⟨_, rfl, ?_⟩
    cases d with
    | lst ds =>
      obtain ⟨vs, q, r⟩ := w
      refine ⟨a, vs, rfl, q, fun ⟨k, z⟩ => ?_, r⟩
      obtain ⟨z1, z2⟩ := lock_ow z
      have : k = j := g.inj k j a z1 ⟨⟨_, .inl hd⟩, e2⟩
      subst this
      exact z2 ⟨m, _, hd⟩
    | _ => exact w.elim
/-- what a walked list's place is behind the lock -/
theorem walk_free (g : Good K H1 B1 ρ1 σ1) {rs : List RV} {q : Addr} (h : WalkAt H0 B1 (Ow ρ1 σ1) ρ1 σ1 rs q) : ¬ Ow (lock ρ1 rs) σ1 q := by
  rintro ⟨j, z⟩
  obtain ⟨z1, z2⟩ := lock_ow z
  rcases h with h | ⟨_, _, h⟩ | ⟨i, d, m, e, hd⟩
  · exact h (g.ob q ⟨j, z1⟩)
  · exact h ⟨j, z1⟩
  · rcases hd with hd | hd
    · have : j = i := g.inj j i q z1 ⟨⟨d, .inl hd⟩, e⟩
      subst this
      exact z2 ⟨m, d, hd⟩
    · obtain ⟨hd, hm⟩ := hd
      obtain ⟨v, ev, r⟩ := g.sl i _ _ hd e
      cases ev
      cases d with
      | lst ds =>
        obtain ⟨a, vs, e', _, n, _⟩ := r
        cases e'
        exact n ⟨j, z1⟩
      | _ => cases hm
/-- behind the walk -/
theorem Good.unlock (g1 : Good K H1 B1 ρ1 σ1) {rs : List RV} (g : Good K H B ρ σ) (kb : ∀ (j : Nat) d, ρ[j]? = some (.bw d) → (G.lock ρ1 rs)[j]? = some (.bw d) ∧ σ[j]? = σ1[j]?)
    (bb : ∀ a, B1 a → H1 a ≠ none → B a ∨ Ow (G.lock ρ1 rs) σ1 a) : Good K H B (unlock ρ1 ρ rs) σ ∧ (∀ a, Ow (unlock ρ1 ρ rs) σ a → Ow ρ σ a ∨ Ow ρ1 σ1 a) := by
  -- an owned slot behind it
  have cls : ∀ {j a}, OwAt (G.unlock ρ1 ρ rs) σ j a → OwAt ρ σ j a ∨ (RV.slot j ∈ rs ∧ ∃ d0 d, ρ1[j]? = some (.ow d0) ∧ ρ[j]? = some (.bw d) ∧ (G.unlock ρ1 ρ rs)[j]? = some (.ow d) ∧ σ[j]? = some (some (.ref a)) ∧ OwAt ρ1 σ1 j a) := fun {j a} ⟨⟨d, h⟩, e⟩ => by
    rcases (unlock_at rs ρ1 ρ j).1 with q | ⟨m, d0, d1, q0, q1, q2⟩
    · exact .inl ⟨⟨d, by rw [← q]; exact h⟩, e⟩
    · exact .inr ⟨m, d0, d1, q0, q1, q2, e, ⟨d0, .inl q0⟩, by rw [← (kb j d1 q1).2]; exact e⟩
  -- a borrowed slot's place is not an unlocked one's
  have apart : ∀ {j d o}, ρ[j]? = some (.bw d) → (∀ d0, ¬ (RV.slot j ∈ rs ∧ ρ1[j]? = some (.ow d0))) → σ[j]? = some o → SlRel K H B (Ow (G.unlock ρ1 ρ rs) σ) (.bw d) o := fun {j d o} hj hn e => by
    obtain ⟨v, rfl, r⟩ := g.sl j _ o hj e
    refine ⟨v, rfl, ?_⟩
    cases d with
    | lst ds =>
      obtain ⟨a, vs, ea, q, n, r⟩ := r
      refine ⟨a, vs, ea, q, fun ⟨k, z⟩ => ?_, r⟩
      rcases cls z with z | ⟨m, d0, d1, q0, q1, q2, e2, z⟩
      · exact n ⟨k, z⟩
      · obtain ⟨k1, k2⟩ := kb j _ hj
        rcases (lock_at rs ρ1 j).1 with l | ⟨ml, dl, hl, _⟩
        · rw [l] at k1
          obtain ⟨v', ev', r'⟩ := g1.sl j _ _ k1 (by rw [← k2, e])
          cases ev'
          obtain ⟨a', vs', ea', _, n', _⟩ := r'
          rw [ea] at ea'; cases ea'
          exact n' ⟨k, z⟩
        · exact hn dl ⟨ml, hl⟩
    | _ => exact r
  refine ⟨⟨by rw [unlock_len]; exact g.len, fun j s o e1 e2 => ?_, fun j k a z1 z2 => ?_⟩, fun a ⟨j, z⟩ => (cls z).elim (fun z => .inl ⟨j, z⟩) fun ⟨_, _, _, _, _, _, _, z⟩ => .inr ⟨j, z⟩⟩
  · rcases (unlock_at rs ρ1 ρ j).1 with q | ⟨m, d0, d1, q0, q1, q2⟩
    · have e1' : ρ[j]? = some s := by rw [← q]; exact e1
      cases s with
      | bw d => exact apart e1' (fun d0 ⟨m, h0⟩ => (unlock_at rs ρ1 ρ j).2 m d0 d h0 e1) e2
      | un => trivial
      | fz d => exact g.sl j _ o e1' e2
      | ow d => exact g.sl j _ o e1' e2
      | io d => exact g.sl j _ o e1' e2
    · rw [q2] at e1
      cases e1
      obtain ⟨v, rfl, r⟩ := g.sl j _ o q1 e2
      obtain ⟨o', e1', a', ea', hb, w⟩ := g1.at_ q0
      have k2 := (kb j d1 q1).2
      rw [e2, e1', ea'] at k2
      cases k2
      have kl := (kb j d1 q1).1
      obtain ⟨vs0, h0⟩ := w.lst
      refine ⟨a', rfl, ?_, ?_⟩
      · refine (bb a' hb (by rw [h0]; simp)).elim id fun ⟨k, z⟩ => ?_
        obtain ⟨z1, z2⟩ := lock_ow z
        have : k = j := g1.inj k j a' z1 ⟨⟨d0, .inl q0⟩, by rw [e1', ea']⟩
        subst this
        exact absurd ⟨m, d0, q0⟩ z2
      · cases d0 with
        | lst ds0 =>
          rcases (lock_at rs ρ1 j).1 with l | ⟨_, dl, hl, hl'⟩
          · rw [l, q0] at kl; cases kl
          · rw [q0] at hl; cases hl
            rw [hl'] at kl; cases kl
            obtain ⟨a2, vs, e', q, n, r⟩ := r
            cases e'
            exact ⟨vs, q, r⟩
        | _ => exact w.elim
  · rcases cls z1 with z1 | ⟨m1, d1, f1, q1, p1, _, e1, z1⟩
    · rcases cls z2 with z2 | ⟨m2, d2, f2, q2, p2, _, e2, z2⟩
      · exact g.inj j k a z1 z2
      · exfalso
        obtain ⟨v, ev, r⟩ := g.sl k _ _ p2 e2
        cases ev
        have := (kb k f2 p2).1
        rcases (lock_at rs ρ1 k).1 with l | ⟨_, dl, hl, hl'⟩
        · rw [l, q2] at this; cases this
        · rw [q2] at hl; cases hl
          rw [hl'] at this; cases this
          obtain ⟨o', e1', a', ea', hb, w⟩ := g1.at_ q2
          cases d2 with
          | lst ds => obtain ⟨a2, vs, e', q, n, r⟩ := r; cases e'; exact n ⟨j, z1⟩
          | _ => exact w.elim
    · rcases cls z2 with z2 | ⟨m2, d2, f2, q2, p2, _, e2, z2⟩
      · exfalso
        obtain ⟨v, ev, r⟩ := g.sl j _ _ p1 e1
        cases ev
        have := (kb j f1 p1).1
        rcases (lock_at rs ρ1 j).1 with l | ⟨_, dl, hl, hl'⟩
        · rw [l, q1] at this; cases this
        · rw [q1] at hl; cases hl
          rw [hl'] at this; cases this
          obtain ⟨o', e1', a', ea', hb, w⟩ := g1.at_ q1
          cases d1 with
          | lst ds => obtain ⟨a2, vs, e', q, n, r⟩ := r; cases e'; exact n ⟨k, z2⟩
          | _ => exact w.elim
      · exact g1.inj j k a z1 z2
end
end G
end

section
set_option Elab.async false
set_option linter.all false
set_option maxRecDepth 100000
set_option maxHeartbeats 4000000
/-! G12: targets; names wiped and given back; the loop of a comprehension. -/
namespace G
open PySem PySem.Spec PyProof.Rows L2

/-! ### targets -/
def Tg.ids : Tg → List Nat
  | .nm i => [i]
  | .tp is => is
section
variable {G : Pg} {H H0 H1 : Hp} {B B0 B1 : Bs} {ρ ρ' ρ0 ρ1 : Ev} {σ : L2.St}
def TGv (G : Pg) (t : Tg) : L2.TG := fun v σ H Q => ∃ H0 B0 ρ0 B ρ rv ρ', Good G.K H0 B0 ρ0 σ ∧ Go H0 B0 ρ0 σ H B ρ σ ∧ Good G.K H B ρ σ ∧ RvRel G.K H0 H B (Ow ρ σ) σ rv v ∧ asgT ρ t rv = some ρ' ∧
  ∀ B' σ', σ'.length = σ.length → (∀ j, j ∉ t.ids → σ'[j]? = σ[j]?) → Good G.K H B' ρ' σ' → Go H0 B0 ρ0 σ H B' ρ' σ' → Q σ' H
theorem asg_nm {i : Nat} {v : V} {Q : L2.St → Hp → Prop} (h : TGv G (.nm i) v σ H Q) : gName i v σ H Q := by
  obtain ⟨H0, B0, ρ0, B, ρ, rv, ρ', g0, s, g, rel, e, k⟩ := h
  have fin : ∀ B', Good G.K H B' ρ' (σ.set i (some v)) → Go H0 B0 ρ0 σ H B' ρ' (σ.set i (some v)) → Q (σ.set i (some v)) H := fun B' g' s' =>
    k B' _ (by simp) (fun j hj => List.getElem?_set_ne (fun z => hj (by simp [Tg.ids, z]))) g' s'
  cases rv with
  | val d =>
    obtain ⟨g1, s1⟩ := store_val g rel e
    exact fin B g1 (s.trans s1)
  | own d =>
    obtain ⟨a, rfl, h0, hb, n, w⟩ := rel
    obtain ⟨g1, s1⟩ := store_own g0 s g h0 hb n w e
    exact fin B g1 s1
  | slot j =>
    simp only [asgT] at e
    obtain ⟨p, e1, e2⟩ := opt_bind_some e
    obtain ⟨d, ρ2⟩ := p
    obtain ⟨B1, g1, s1, r1⟩ := take_ok g s rel e1
    obtain ⟨g2, s2⟩ := store_val g1 r1 e2
    exact fin B1 g2 (s1.trans s2)
/-- several names -/
def gNms (is : List Nat) : L2.TGs := fun vs σ H Q => vs.length = is.length ∧ Q ((is.zip vs).foldl (fun σ p => σ.set p.1 (some p.2)) σ) H
theorem asg_tp {is : List Nat} {v : V} {Q : L2.St → Hp → Prop} (h : TGv G (.tp is) v σ H Q) : gTup G.K is.length (gNms is) v σ H Q ∨ gLst G.K is.length (gNms is) v σ H Q := by
  obtain ⟨H0, B0, ρ0, B, ρ, rv, ρ', g0, s, g, rel, e, k⟩ := h
  simp only [asgT] at e
  obtain ⟨ds, e0, e2⟩ := opt_bind_some e
  obtain ⟨d, e1, e3⟩ := opt_bind_some e0
  have rb := force_ok g rel e1
  have fin : ∀ {vs}, Reps G.K H B ds vs → vs.length = is.length ∧ gNms is vs σ H Q := fun {vs} r => by
    obtain ⟨σ', hl, hj, g2, s2, hn, rfl⟩ := setAll_ok g r e2
    exact ⟨hn, hn, k B _ hl (fun j z => hj j z) g2 (s.trans s2)⟩
  cases d <;> simp only [elems] at e3 <;> cases e3
  · simp only [RepB, Rep] at rb
    obtain ⟨a, vs, rfl, q, r⟩ := rb
    obtain ⟨hn, hq⟩ := fin r
    exact .inl ⟨a, vs, rfl, q, hn, hq⟩
  · obtain ⟨a, vs, rfl, q, r⟩ := rb
    obtain ⟨hn, hq⟩ := fin r
    exact .inr ⟨a, vs, rfl, .inl (.inl q), hn, hq⟩
end
section
variable {G : Pg} {X : Cx} {pos : Pos}
/-- a name that may be stored -/
structure NmOk (X : Cx) (i : Nat) (x : Str) : Prop where
  ix : X.N[i]? = some x
  loc : Loc X.env.scope x
  fn : X.fn x = true ∨ X.env.scope.names.lookup x = some .local
inductive NmsOk (X : Cx) : List Nat → List Expr → Prop where
  | nil : NmsOk X [] []
  | cons {i is x p es} : NmOk X i x → NmsOk X is es → NmsOk X (i :: is) (.Name x p :: es)
theorem nms_each {is : List Nat} {es : List Expr} (h : NmsOk X is es) : assignEach es X.env = es.map fun e => (false, assign e X.env) := by
  induction h with
  | nil => rfl
  | cons _ _ ih => unfold assignEach; rw [ih]; rfl
theorem nms_len {is : List Nat} {es : List Expr} (h : NmsOk X is es) : es.length = is.length := by
  induction h with
  | nil => rfl
  | cons _ _ ih => simp [ih]
theorem pgs_nms (hN : X.N.Nodup) {is : List Nat} {es : List Expr} (h : NmsOk X is es) : PGs X es (gNms is) := by
  induction h with
  | nil => exact ⟨fun pins s σ H vs us Q I r ⟨hl, q⟩ => pgs_nil.run pins s σ H vs us Q I r ⟨List.eq_nil_of_length_eq_zero hl, by
      have := List.eq_nil_of_length_eq_zero hl
      subst this
      exact q⟩⟩
  | @cons i is x p es h1 h2 ih =>
    refine ⟨fun pins s σ H vs us Q I r ⟨hl, q⟩ => (pgs_cons (pg_name hN h1.ix h1.loc h1.fn) ih (by rw [nms_each (NmsOk.cons (p := p) h1 h2), nms_each h2]; rfl)).run pins s σ H vs us Q I r ?_⟩
    cases vs with
    | nil => cases hl
    | cons v vs => exact ⟨v, vs, rfl, by simpa using hl, q⟩
theorem _root_.L2.PG.imp {e : Expr} {t t' : L2.TG} (h : PG X e t) (k : ∀ v σ H Q, t' v σ H Q → t v σ H Q) : PG X e t' := ⟨fun pins s σ H v u Q I r q => h.run pins s σ H v u Q I r (k _ _ _ _ q)⟩
theorem _root_.L2.PG.or {e : Expr} {t u : L2.TG} (h : PG X e t) (k : PG X e u) : PG X e (fun v σ H Q => t v σ H Q ∨ u v σ H Q) := ⟨fun pins s σ H v w Q I r q => q.elim (h.run pins s σ H v w Q I r) (k.run pins s σ H v w Q I r)⟩
theorem g_nm (hN : X.N.Nodup) {i : Nat} {x : Str} (h : NmOk X i x) : PG X (.Name x pos) (TGv G (.nm i)) := (pg_name hN h.ix h.loc h.fn).imp fun _ _ _ _ q => asg_nm q
theorem g_tp (hK : X.K = G.K) (hc : X.calm = true) (hN : X.N.Nodup) {is : List Nat} {es : List Expr} {k : Nat} (h : NmsOk X is es) : PG X (.Tuple es k pos) (TGv G (.tp is)) := by
  have hl : (assignEach es X.env).length = is.length := by rw [nms_each h]; simp [nms_len h]
  have hs : (assignEach es X.env).findIdx? (·.1) = none := by
    rw [nms_each h, List.findIdx?_eq_none_iff]
    intro x hx
    obtain ⟨e, _, rfl⟩ := List.mem_map.mp hx
    rfl
  refine ((pg_tup hc (pgs_nms hN h) hl hs).or (pg_lst hc (pgs_nms hN h) hl hs)).imp fun v σ H Q q => ?_
  rw [hK]
  exact asg_tp q
end

/-! ### names wiped -/
section
variable {K : PySem.W.Frag} {H H0 H1 H' : Hp} {B B0 B1 B' : Bs} {ρ ρ' ρ0 ρ1 : Ev} {σ σ' : L2.St} {vs : List Nat}
theorem wipeE_len (ρ : Ev) : ∀ vs : List Nat, (wipeE ρ vs).length = ρ.length
  | [] => rfl
  | v :: vs => by simp [wipeE, wipeE_len ρ vs]
theorem wipeE_out {j : Nat} : ∀ {vs : List Nat}, j ∉ vs → (wipeE ρ vs)[j]? = ρ[j]?
  | [], _ => rfl
  | v :: vs, h => by
    simp only [List.mem_cons, not_or] at h
    simp only [wipeE]
    rw [List.getElem?_set_ne (Ne.symm h.1), wipeE_out h.2]
theorem wipeE_in {j : Nat} {s : Sl} : ∀ {vs : List Nat}, j ∈ vs → (wipeE ρ vs)[j]? = some s → s = .un
  | v :: vs, h, e => by
    simp only [wipeE] at e
    rcases get_set e with ⟨_, e⟩ | ⟨n, e⟩
    · exact e
    · rcases List.mem_cons.mp h with h | h
      · exact absurd h n
      · exact wipeE_in h e
theorem wipe_in {j : Nat} {o : Option V} : ∀ {vs : List Nat}, j ∈ vs → (wipe σ vs)[j]? = some o → o = none
  | v :: vs, h, e => by
    unfold wipe at e
    rcases get_set e with ⟨_, e⟩ | ⟨n, e⟩
    · exact e
    · rcases List.mem_cons.mp h with h | h
      · exact absurd h n
      · exact wipe_in h e
theorem wipe_eq (hl : σ'.length = σ.length) (h : ∀ j, j ∉ vs → σ'[j]? = σ[j]?) : wipe σ' vs = wipe σ vs := by
  refine List.ext_getElem? fun j => ?_
  by_cases hj : j ∈ vs
  · cases e : (wipe σ' vs)[j]? with
    | none =>
      rw [List.getElem?_eq_none_iff, wipe_length] at e
      rw [eq_comm, List.getElem?_eq_none_iff, wipe_length, ← hl]
      exact e
    | some o =>
      have := wipe_in hj e
      subst this
      cases e' : (wipe σ vs)[j]? with
      | none =>
        rw [List.getElem?_eq_none_iff, wipe_length, ← hl] at e'
        have := (List.getElem?_eq_some_iff.mp e).1
        rw [wipe_length] at this
        omega
      | some o' => rw [wipe_in hj e']
  · rw [wipe_out hj, wipe_out hj, h j hj]
theorem wipe_wipe : wipe (wipe σ vs) vs = wipe σ vs := wipe_eq (wipe_length σ vs) fun j hj => wipe_out hj
theorem wipe_ow {j : Nat} {a : Addr} (h : OwAt (wipeE ρ vs) (wipe σ vs) j a) : j ∉ vs ∧ OwAt ρ σ j a := by
  obtain ⟨⟨d, h⟩, e⟩ := h
  have hj : j ∉ vs := fun z => by rcases h with h | h <;> cases wipeE_in z h
  rw [wipeE_out hj] at h
  rw [wipe_out hj] at e
  exact ⟨hj, ⟨d, h⟩, e⟩
theorem wipe_sub {a : Addr} (h : Ow (wipeE ρ vs) (wipe σ vs) a) : Ow ρ σ a := by
  obtain ⟨j, h⟩ := h
  exact ⟨j, (wipe_ow h).2⟩
theorem Good.wipe (g : Good K H B ρ σ) (vs : List Nat) : Good K H B (wipeE ρ vs) (L2.wipe σ vs) := by
  refine ⟨by rw [wipeE_len, wipe_length]; exact g.len, fun j s o e1 e2 => ?_, fun j k a z1 z2 => g.inj j k a (wipe_ow z1).2 (wipe_ow z2).2⟩
  by_cases hj : j ∈ vs
  · have := wipeE_in hj e1
    subst this
    trivial
  · rw [wipeE_out hj] at e1
    rw [wipe_out hj] at e2
    exact own_anti (g.sl j s o e1 e2) fun _ z => wipe_sub z

/-! ### a list at A grows beside -/
structure GoD (A : Addr) (H : Hp) (B : Bs) (ρ : Ev) (σ : L2.St) (H' : Hp) (B' : Bs) (ρ' : Ev) (σ' : L2.St) : Prop where
  st : Step H B (plus (Ow ρ σ) A) H' B' (plus (Ow ρ' σ') A)
  kb : ∀ (i : Nat) d, ρ'[i]? = some (.bw d) → ρ[i]? = some (.bw d) ∧ σ'[i]? = σ[i]?
  ki : ∀ (i : Nat) d, ρ[i]? = some (.io d) → ∃ d', ρ'[i]? = some (.io d') ∧ σ'[i]? = σ[i]?
variable {A : Addr}
theorem GoD.of_go (s : Go H B ρ σ H' B' ρ' σ') : GoD A H B ρ σ H' B' ρ' σ' := ⟨⟨fun a o e n => s.st.keep a o e fun z => n (.inl z), s.st.there, s.st.bnew, fun a z n => (s.st.bold a z n).elim .inl fun z => .inr (.inl z), fun a z => z.elim (fun z => (s.st.ow a z).elim (fun z => .inl (.inl z)) .inr) fun z => .inl (.inr z)⟩, s.kb, s.ki⟩
theorem GoD.trans {H2 : Hp} {B2 : Bs} {ρ2 : Ev} {σ2 : L2.St} (s : GoD A H B ρ σ H' B' ρ' σ') (t : GoD A H' B' ρ' σ' H2 B2 ρ2 σ2) : GoD A H B ρ σ H2 B2 ρ2 σ2 :=
  ⟨s.st.trans t.st, fun i d h => ⟨(s.kb i d (t.kb i d h).1).1, (t.kb i d h).2.trans (s.kb i d (t.kb i d h).1).2⟩, fun i d h => by
    obtain ⟨d1, h1, e1⟩ := s.ki i d h
    obtain ⟨d2, h2, e2⟩ := t.ki i d1 h1
    exact ⟨d2, h2, e2.trans e1⟩⟩
/-- where the list did not stand -/
theorem GoD.go (s : GoD A H B ρ σ H' B' ρ' σ') (n : H A = none) : Go H B ρ σ H' B' ρ' σ' :=
  ⟨⟨fun a o e k => s.st.keep a o e fun z => z.elim k (fun z => by rw [z, n] at e; cases e), s.st.there, s.st.bnew, fun a z k => (s.st.bold a z k).elim .inl fun z => z.elim .inr fun z => absurd (z ▸ n) k,
    fun a z => (s.st.ow a (.inl z)).elim (fun z => z.elim .inl fun z => .inr (z ▸ n)) .inr⟩, s.kb, s.ki⟩
theorem GoD.wipe (s : GoD A H B ρ σ H' B' ρ' σ') (hn : ∀ i ∈ vs, ∀ d, ρ[i]? ≠ some (.io d)) : GoD A H B ρ σ H' B' (wipeE ρ' vs) (L2.wipe σ' vs) :=
  ⟨⟨s.st.keep, s.st.there, s.st.bnew, s.st.bold, fun a z => s.st.ow a (z.elim (fun z => .inl (wipe_sub z)) .inr)⟩, fun i d h => by
    have hi : i ∉ vs := fun z => by cases wipeE_in z h
    rw [wipeE_out hi] at h
    rw [wipe_out hi]
    exact s.kb i d h, fun i d h => by
    have hi : i ∉ vs := fun z => hn i z d h
    obtain ⟨d', h1, h2⟩ := s.ki i d h
    exact ⟨d', by rw [wipeE_out hi]; exact h1, by rw [wipe_out hi]; exact h2⟩⟩
/-- no borrowed name holds it -/
def NoB (ρ : Ev) (σ : L2.St) (A : Addr) : Prop := ∀ (j : Nat) ds, ρ[j]? = some (.bw (.lst ds)) → σ[j]? ≠ some (some (.ref A))
/-- the state while the list at A grows; acc: what it holds -/
structure LS (K : PySem.W.Frag) (A : Addr) (Hb : Hp) (Bb : Bs) (ρb : Ev) (σb : L2.St) (B : Bs) (ρ : Ev) (σ : L2.St) (acc : List D) (H : Hp) : Prop where
  g : Good K H B ρ σ
  s : GoD A Hb Bb ρb σb H B ρ σ
  b : B A
  n : ¬ Ow ρ σ A
  nb : NoB ρ σ A
  ac : ∃ vs, H A = some (.lst vs) ∧ Reps K H B acc vs
variable {Hb : Hp} {Bb : Bs} {ρb : Ev} {σb : L2.St} {acc : List D}
theorem LS.go (h : LS K A Hb Bb ρb σb B ρ σ acc H) (s : Go H B ρ σ H' B' ρ' σ') (g' : Good K H' B' ρ' σ') : LS K A Hb Bb ρb σb B' ρ' σ' acc H' := by
  obtain ⟨vs, e, r⟩ := h.ac
  have hn : H A ≠ none := by rw [e]; simp
  refine ⟨g', h.s.trans (.of_go s), (s.st.bold A h.b hn).elim id fun z => absurd z h.n, fun z => (s.st.ow A z).elim h.n hn, fun j d hj => ?_, vs, s.st.keep _ _ e h.n, Reps.stab h.g.owl s.st r⟩
  obtain ⟨h1, h2⟩ := s.kb j _ hj
  rw [h2]
  exact h.nb j d h1
theorem LS.wipe (h : LS K A Hb Bb ρb σb B ρ σ acc H) (hn : ∀ i ∈ vs, ∀ d, ρb[i]? ≠ some (.io d)) : LS K A Hb Bb ρb σb B (wipeE ρ vs) (L2.wipe σ vs) acc H := by
  refine ⟨h.g.wipe vs, h.s.wipe hn, h.b, fun z => h.n (wipe_sub z), fun j d hj => ?_, h.ac⟩
  have hi : j ∉ vs := fun z => by cases wipeE_in z hj
  rw [wipeE_out hi] at hj
  rw [wipe_out hi]
  exact h.nb j d hj
theorem upd_upd {H : Hp} {a : Addr} {o p : HO} : upd (upd H a o) a p = upd H a p := by
  funext b
  unfold upd
  split <;> rfl
theorem LS.poke (h : LS K A Hb Bb ρb σb B ρ σ acc H) {d : D} {y : V} (r : Rep K H B d y) : ∃ vs, H A = some (.lst vs) ∧ vs.length = acc.length ∧ LS K A Hb Bb ρb σb B ρ σ (acc ++ [d]) (upd H A (.lst (vs ++ [y]))) := by
  obtain ⟨vs, e, rr⟩ := h.ac
  have ol : OwL H B (plus (Ow ρ σ) A) := fun a z => z.elim (h.g.owl a) fun z => by rw [z]; exact ⟨h.b, vs, e⟩
  have st : Step H B (plus (Ow ρ σ) A) (upd H A (.lst (vs ++ [y]))) B (plus (Ow ρ σ) A) := ⟨fun a o e n => by rw [upd_ne (fun z => n (.inr z))]; exact e, fun a e => by
    by_cases q : a = A
    · rw [q, upd_same]; simp
    · rw [upd_ne q]; exact e, fun _ z => .inl z, fun _ z _ => .inl z, fun _ z => .inl z⟩
  refine ⟨vs, e, rr.length.symm, ⟨⟨h.g.len, fun j s o e1 e2 => ?_, h.g.inj⟩, h.s.trans ⟨st, fun _ _ z => ⟨z, rfl⟩, fun _ d z => ⟨d, z, rfl⟩⟩, h.b, h.n, h.nb, _, upd_same, (Reps.stab ol st rr).append (.one (Rep.stab ol st r))⟩⟩
  have q := h.g.sl j s o e1 e2
  have own : ∀ {d a}, (ρ[j]? = some (.ow d) ∨ ρ[j]? = some (.io d)) → o = some (.ref a) → Own K H B d a → Own K (upd H A (.lst (vs ++ [y]))) B d a := fun {d a} z ea w => by
    have hn : a ≠ A := fun k => h.n ⟨j, ⟨d, z⟩, by rw [e2, ea, k]⟩
    cases d with
    | lst ds =>
      obtain ⟨ws, q, r⟩ := w
      exact ⟨ws, by rw [upd_ne hn]; exact q, Reps.stab ol st r⟩
    | _ => exact w.elim
  cases s with
  | un => trivial
  | fz d => obtain ⟨v, ev, r⟩ := q; exact ⟨v, ev, Rep.stab ol st r⟩
  | bw d =>
    obtain ⟨v, ev, r⟩ := q
    refine ⟨v, ev, ?_⟩
    cases d with
    | lst ds =>
      obtain ⟨a, ws, ea, q, n, r⟩ := r
      have hn : a ≠ A := fun k => h.nb j _ e1 (by rw [e2, ev, ea, k])
      exact ⟨a, ws, ea, by rw [upd_ne hn]; exact q, n, Reps.stab ol st r⟩
    | _ => exact Rep.stab ol st r
  | ow d => obtain ⟨a, ea, hb, w⟩ := q; exact ⟨a, ea, hb, own (.inl e1) ea w⟩
  | io d => obtain ⟨a, ea, hb, w⟩ := q; exact ⟨a, ea, hb, own (.inr e1) ea w⟩

/-! ### the loop -/
theorem loop_core {J : L2.It} {items out acc0 : List D} {f : D → Ev → Res (List D)} {ρs ρe : Ev} {σw : L2.St} {Hs : Hp} (hv : ∀ i ∈ vs, ∀ d, ρb[i]? ≠ some (.io d))
    (hJ : ∀ H B O', Step Hb Bb (plus (Ow ρb σb) A) H B O' → (∀ i, i < items.length → J.go i H) ∧ J.stop items.length H ∧ ∀ i x H', J.yld i H x H' → i < items.length → ∃ d, items[i]? = some d ∧ ((H' = H ∧ Rep K H B d x) ∨ ∃ q ws es, x = .ref q ∧ H q = none ∧ H' = upd H q (.tup ws) ∧ d = .tup es ∧ Reps K H B es ws))
    (body : V → Hp → (Hp → Prop) → Prop) (hloop : loopC vs f items ρs = .ok out ρe) (hlen : (acc0 ++ out).length ≤ sizeLine) (h0 : ∃ B, LS K A Hb Bb ρb σb B ρs σw acc0 Hs)
    (turn : ∀ d ρ acc H x xs ρ' B, f d ρ = .ok xs ρ' → (acc ++ xs).length ≤ sizeLine → LS K A Hb Bb ρb σb B ρ σw acc H → Rep K H B d x → ∀ Nx : Hp → Prop, (∀ H', (∃ B, LS K A Hb Bb ρb σb B (wipeE ρ' vs) σw (acc ++ xs) H') → Nx H') → body x H Nx)
    {Fin : Hp → Prop} (fin : ∀ H, (∃ B, LS K A Hb Bb ρb σb B ρe σw (acc0 ++ out) H) → Fin H) :
    ∃ W : Nat → Nat → Hp → Prop, (∃ m, W 0 m Hs) ∧ ∀ i m H, W i m H → (J.stop i H ∧ Fin H) ∨ (J.go i H ∧ ∃ Nx : Hp → Prop, (∀ H', Nx H' → ∃ m', m' < m ∧ W (i + 1) m' H') ∧ ∀ x H', J.yld i H x H' → body x H' Nx) := by
  refine ⟨fun i m H => m = items.length - i ∧ i ≤ items.length ∧ ∃ B ρ acc rest, LS K A Hb Bb ρb σb B ρ σw acc H ∧ loopC vs f (items.drop i) ρ = .ok rest ρe ∧ acc ++ rest = acc0 ++ out, ⟨items.length, rfl, Nat.zero_le _, ?_⟩, ?_⟩
  · obtain ⟨B, h0⟩ := h0
    exact ⟨B, ρs, acc0, out, h0, hloop, rfl⟩
  rintro i m H ⟨rfl, hi, B, ρ, acc, rest, ls, hl, ea⟩
  obtain ⟨j1, j2, j3⟩ := hJ H B _ ls.s.st
  by_cases hlt : i < items.length
  · have ed : items.drop i = items[i] :: items.drop (i + 1) := List.drop_eq_getElem_cons hlt
    rw [ed] at hl
    simp only [loopC] at hl
    obtain ⟨xs, ρ1, e1, hl⟩ := res_bind_ok hl
    obtain ⟨ys, ρ2, e2, hl⟩ := res_bind_ok hl
    cases hl
    refine .inr ⟨j1 i hlt, fun H' => ∃ B, LS K A Hb Bb ρb σb B (wipeE ρ1 vs) σw (acc ++ xs) H', fun H' ⟨B', ls'⟩ => ⟨items.length - (i + 1), by omega, rfl, hlt, B', _, _, ys, ls', e2, by rw [List.append_assoc]; exact ea⟩, fun x H' hy => ?_⟩
    obtain ⟨d, hd, hx⟩ := j3 i x H' hy hlt
    rw [List.getElem?_eq_getElem hlt] at hd
    cases hd
    have hlen' : (acc ++ xs).length ≤ sizeLine := by
      rw [← ea] at hlen
      simp only [List.length_append] at hlen ⊢
      omega
    rcases hx with ⟨rfl, rx⟩ | ⟨q, ws, es, rfl, hq, rfl, hd, rx⟩
    · exact turn _ ρ acc _ x xs ρ1 B e1 hlen' ls rx _ fun H' z => z
    · have s : Go H B ρ σw (upd H q (.tup ws)) B ρ σw := Go.of (Step.alloc hq (fun _ z => .inl z) (fun _ z _ => z))
      have g' := ls.g.alloc (o := .tup ws) hq (fun _ z => .inl z) (fun _ z _ => z)
      refine turn _ ρ acc _ _ xs ρ1 B e1 hlen' (ls.go s g') ?_ _ fun H' z => z
      rw [hd]
      simp only [Rep]
      exact ⟨q, ws, rfl, .inl (.inl upd_same), Reps.stab ls.g.owl s.st rx⟩
  · have e : i = items.length := by omega
    subst e
    rw [List.drop_length] at hl
    simp only [loopC] at hl
    cases hl
    refine .inl ⟨j2, fin H ⟨B, ?_⟩⟩
    rw [List.append_nil] at ea
    rw [← ea]
    exact ls
end
end G
end

section
set_option Elab.async false
set_option linter.all false
set_option maxRecDepth 100000
set_option maxHeartbeats 4000000
/-! G13: list comprehensions. -/
namespace G
open PySem PySem.Spec PyProof.Rows L2

section
variable {K : PySem.W.Frag} {H H0 H1 H' : Hp} {B B0 B1 B' : Bs} {ρ ρ' ρ0 ρ1 ρe : Ev} {σ σ' : L2.St} {vs : List Nat} {A : Addr} {acc : List D} {rs : List RV}
theorem back_len (ρ0 ρ : Ev) : ∀ vs : List Nat, (back ρ0 ρ vs).length = ρ.length
  | [] => rfl
  | v :: vs => by simp [back, back_len ρ0 ρ vs]
theorem back_out {j : Nat} : ∀ {vs : List Nat}, j ∉ vs → (back ρ0 ρ vs)[j]? = ρ[j]?
  | [], _ => rfl
  | v :: vs, h => by
    simp only [List.mem_cons, not_or] at h
    simp only [back]
    rw [List.getElem?_set_ne (Ne.symm h.1), back_out h.2]
theorem back_in {j : Nat} {s : Sl} : ∀ {vs : List Nat}, j ∈ vs → (back ρ0 ρ vs)[j]? = some s → s = (ρ0[j]?).getD .un
  | v :: vs, h, e => by
    simp only [back] at e
    rcases get_set e with ⟨rfl, e⟩ | ⟨n, e⟩
    · exact e
    · rcases List.mem_cons.mp h with h | h
      · exact absurd h n
      · exact back_in h e
theorem plain_of {s : Option Sl} (h : plainSl s = true) : s = some .un ∨ ∃ d, s = some (.fz d) := by
  unfold plainSl at h
  split at h
  · exact .inl rfl
  · exact .inr ⟨_, rfl⟩
  · cases h
/-- behind a clause's loop: its names and the lists walked as they were -/
theorem end_core (g1 : Good K H1 B1 ρ1 σ) (hp : ∀ v ∈ vs, plainSl ρ1[v]? = true) (hA : H1 A = none ∨ (B1 A ∧ ∃ vs, H1 A = some (.lst vs))) (n1 : ¬ Ow ρ1 σ A) (nb1 : NoB ρ1 σ A)
    (ls : LS K A H1 B1 (wipeE (lock ρ1 rs) vs) (wipe σ vs) B ρe (wipe σ vs) acc H) : Good K H B (unlock ρ1 (back ρ1 ρe vs) rs) σ ∧ GoD A H1 B1 ρ1 σ H B (unlock ρ1 (back ρ1 ρe vs) rs) σ ∧ ¬ Ow (unlock ρ1 (back ρ1 ρe vs) rs) σ A ∧ NoB (unlock ρ1 (back ρ1 ρe vs) rs) σ A := by
  have gw := (g1.lock rs).1.wipe vs
  have stab : ∃ O O', OwL H1 B1 O ∧ Step H1 B1 O H B O' := by
    rcases hA with hA | ⟨hb, ws, hl⟩
    · exact ⟨_, _, gw.owl, (ls.s.go hA).st⟩
    · exact ⟨_, _, fun a z => z.elim (gw.owl a) fun z => by rw [z]; exact ⟨hb, ws, hl⟩, ls.s.st⟩
  obtain ⟨O, O', ol, st⟩ := stab
  have plain : ∀ {j s}, j ∈ vs → (back ρ1 ρe vs)[j]? = some s → ρ1[j]? = some s ∧ (s = .un ∨ ∃ d, s = .fz d) := fun {j s} hj e => by
    have e := back_in hj e
    rcases plain_of (hp j hj) with h | ⟨d, h⟩
    · rw [h] at e; cases e; exact ⟨h, .inl rfl⟩
    · rw [h] at e; cases e; exact ⟨h, .inr ⟨d, rfl⟩⟩
  have bow : ∀ {j a}, OwAt (back ρ1 ρe vs) σ j a → j ∉ vs ∧ OwAt ρe (wipe σ vs) j a := fun {j a} ⟨⟨d, h⟩, e⟩ => by
    have hj : j ∉ vs := fun z => by
      rcases h with h | h
      · rcases (plain z h).2 with k | ⟨_, k⟩ <;> cases k
      · rcases (plain z h).2 with k | ⟨_, k⟩ <;> cases k
    rw [back_out hj] at h
    exact ⟨hj, ⟨d, h⟩, by rw [wipe_out hj]; exact e⟩
  have bsub : ∀ a, Ow (back ρ1 ρe vs) σ a → Ow ρe (wipe σ vs) a := fun a ⟨j, z⟩ => ⟨j, (bow z).2⟩
  have gb : Good K H B (back ρ1 ρe vs) σ := by
    refine ⟨by rw [back_len, ls.g.len, wipe_length], fun j s o e1 e2 => ?_, fun j k a z1 z2 => ls.g.inj j k a (bow z1).2 (bow z2).2⟩
    by_cases hj : j ∈ vs
    · obtain ⟨h1, h2⟩ := plain hj e1
      rcases h2 with rfl | ⟨d, rfl⟩
      · trivial
      · obtain ⟨v, ev, r⟩ := g1.sl j _ o h1 e2
        exact ⟨v, ev, Rep.stab ol st r⟩
    · rw [back_out hj] at e1
      exact own_anti (ls.g.sl j s o e1 (by rw [wipe_out hj]; exact e2)) bsub
  have kb : ∀ (j : Nat) d, (back ρ1 ρe vs)[j]? = some (.bw d) → (lock ρ1 rs)[j]? = some (.bw d) ∧ σ[j]? = σ[j]? := fun j d h => by
    have hj : j ∉ vs := fun z => by rcases (plain z h).2 with k | ⟨_, k⟩ <;> cases k
    rw [back_out hj] at h
    have q := (ls.s.kb j d h).1
    rw [wipeE_out hj] at q
    exact ⟨q, rfl⟩
  obtain ⟨gu, hu⟩ := Good.unlock g1 (rs := rs) gb kb fun a z hn => (ls.s.st.bold a z hn).elim .inl fun z => z.elim (fun z => .inr (wipe_sub z)) fun z => .inl (z ▸ ls.b)
  have lsub : ∀ a, Ow (lock ρ1 rs) σ a → Ow ρ1 σ a := fun a ⟨j, z⟩ => ⟨j, (lock_ow z).1⟩
  have fbw : ∀ (j : Nat) d, (unlock ρ1 (back ρ1 ρe vs) rs)[j]? = some (.bw d) → ρ1[j]? = some (.bw d) := fun j d h => by
    obtain ⟨u1, u2⟩ := unlock_at rs ρ1 (back ρ1 ρe vs) j
    rcases u1 with u1 | ⟨_, _, _, _, _, u1⟩
    · rw [u1] at h
      have q := (kb j d h).1
      rcases (lock_at rs ρ1 j).1 with l | ⟨m, d', hd, l⟩
      · rw [← l]; exact q
      · exact absurd (u1.trans h) (u2 m d' d hd)
    · rw [u1] at h; cases h
  have now : ¬ Ow (unlock ρ1 (back ρ1 ρe vs) rs) σ A := fun z => (hu A z).elim (fun z => ls.n (bsub A z)) n1
  refine ⟨gu, ⟨⟨fun a o e n => ls.s.st.keep a o e fun z => n (z.elim (fun z => .inl (lsub a (wipe_sub z))) .inr), ls.s.st.there, ls.s.st.bnew, fun a z hn => (ls.s.st.bold a z hn).elim .inl fun z => .inr (z.elim (fun z => .inl (lsub a (wipe_sub z))) .inr), fun a z => ?_⟩, fun j d h => ⟨fbw j d h, rfl⟩, fun j d h => ?_⟩, now, fun j ds h => nb1 j ds (fbw j _ h)⟩
  · rcases z with z | z
    · rcases hu a z with z | z
      · rcases ls.s.st.ow a (.inl (bsub a z)) with z | z
        · exact .inl (z.elim (fun z => .inl (lsub a (wipe_sub z))) .inr)
        · exact .inr z
      · exact .inl (.inl z)
    · exact .inl (.inr z)
  · have hj : j ∉ vs := fun z => by
      rcases plain_of (hp j z) with k | ⟨d', k⟩ <;> (rw [k] at h; cases h)
    have hl : (wipeE (lock ρ1 rs) vs)[j]? = some (.io d) := by
      rw [wipeE_out hj]
      rcases (lock_at rs ρ1 j).1 with l | ⟨_, d', hd, _⟩
      · rw [l]; exact h
      · rw [hd] at h; cases h
    obtain ⟨d', h1, _⟩ := ls.s.ki j d hl
    refine ⟨d', ?_, rfl⟩
    rcases (unlock_at rs ρ1 (back ρ1 ρe vs) j).1 with u | ⟨_, _, _, u, _, _⟩
    · rw [u, back_out hj]; exact h1
    · rw [h] at u; cases u
end
section
variable {G : Pg} {F : Fn} {W : L2.WX} {X : Cx} {H H0 H1 H' : Hp} {B B0 B1 B' : Bs} {ρ ρ' ρ0 ρ1 ρe : Ev} {σ σ' σw : L2.St} {vs : List Nat} {A : Addr} {acc : List D} {rs : List RV} {Hb : Hp} {Bb : Bs} {ρb : Ev} {σb : L2.St}
theorem it_core {items : List D} {J : L2.It} (hJ : ItR G σ H0 H1 B1 (Ow ρ1 σ) ρ1 (items, rs) J) (g1 : Good G.K H1 B1 ρ1 σ) (hA : H1 A = none ∨ (B1 A ∧ (∃ vs, H1 A = some (.lst vs)) ∧ ¬ Ow ρ1 σ A ∧ NoB ρ1 σ A ∧ H0 A ≠ none)) (vs : List Nat) :
    ∀ H B O', Step H1 B1 (plus (Ow (wipeE (lock ρ1 rs) vs) (wipe σ vs)) A) H B O' → (∀ i, i < items.length → J.go i H) ∧ J.stop items.length H ∧ ∀ i x H', J.yld i H x H' → i < items.length → ∃ d, items[i]? = some d ∧ ((H' = H ∧ Rep G.K H B d x) ∨ ∃ q ws es, x = .ref q ∧ H q = none ∧ H' = upd H q (.tup ws) ∧ d = .tup es ∧ Reps G.K H B es ws) := by
  intro H B O' st
  obtain ⟨ps, h1, h2⟩ := hJ
  have gw := (g1.lock rs).1.wipe vs
  rcases hA with hA | ⟨hb, ⟨ws, hl⟩, n, nb, h0⟩
  · exact h2 (Ow (wipeE (lock ρ1 rs) vs) (wipe σ vs)) (fun q hq z => walk_free g1 (h1 q hq).2 (wipe_sub z)) H B (fun a => O' a ∧ a ≠ A) gw.owl
      ⟨fun a o e k => st.keep a o e fun z => z.elim k (fun z => by rw [z, hA] at e; cases e), st.there, st.bnew, fun a z hn => (st.bold a z hn).elim .inl fun z => z.elim .inr fun z => absurd (z ▸ hA) hn, fun a z => (st.ow a z.1).elim (fun k => k.elim .inl fun k => absurd k z.2) .inr⟩
  · refine h2 (plus (Ow (wipeE (lock ρ1 rs) vs) (wipe σ vs)) A) (fun q hq z => ?_) H B O' (fun a z => z.elim (gw.owl a) fun z => by rw [z]; exact ⟨hb, ws, hl⟩) st
    rcases z with z | z
    · exact walk_free g1 (h1 q hq).2 (wipe_sub z)
    · subst z
      rcases (h1 q hq).2 with h | ⟨h, _⟩ | ⟨i, d, m, e, hd⟩
      · exact h hb
      · exact h0 h
      · rcases hd with hd | ⟨hd, hm⟩
        · exact n ⟨i, ⟨d, .inl hd⟩, e⟩
        · cases d with
          | lst ds => exact nb i ds hd e
          | _ => cases hm

/-- in a comprehension's block nothing is raised -/
def WN : L2.WX := fun _ _ _ _ => False
/-- a turn: the target, the tests -/
def turnF (F : Fn) (t : Tg) (c : E) (q : Ev → Res (List D)) (d : D) (ρ : Ev) : Res (List D) := match asgT ρ t (.val d) with
  | some ρ => (ev F c ρ).bind fun r ρ => (truthOf ρ r).bind fun k ρ => guard k (q ρ) ρ
  | none => .no
theorem tgt_test {t : Tg} {c : E} {q : Ev → Res (List D)} {d : D} {x : V} {xs : List D} {K2 : Bool → L2.St → Hp → Prop} (ls : LS G.K A Hb Bb ρb σb B ρ σw acc H) (rx : Rep G.K H B d x) (e : turnF F t c q d ρ = .ok xs ρ') (ht : ∀ i ∈ t.ids, i ∈ vs) (hw : wipe σw vs = σw)
    (k : ∀ σ2 b ρ3 H3 B3, wipe σ2 vs = σw → LS G.K A Hb Bb ρb σb B3 ρ3 σ2 acc H3 → (b = true → q ρ3 = .ok xs ρ') → (b = false → xs = [] ∧ ρ' = ρ3) → K2 b σ2 H3) :
    TGv G t x σw H fun σ2 H2 => wipe σ2 vs = σw ∧ TTv G WN (tst F c) σ2 H2 fun b H3 => K2 b σ2 H3 := by
  unfold turnF at e
  split at e <;> try (cases e; done)
  rename_i ρ2 ea
  refine ⟨H, B, ρ, B, ρ, .val d, ρ2, ls.g, Go.refl _ _ _ _, ls.g, rx, ea, fun B2 σ2 hl hj g2 s2 => ?_⟩
  have hw2 : wipe σ2 vs = σw := by
    rw [← hw]
    exact wipe_eq hl fun j hj' => hj j fun z => hj' (ht j z)
  refine ⟨hw2, B2, ρ2, g2, ?_⟩
  obtain ⟨r, ρ3, e1, e⟩ := res_bind_ok e
  obtain ⟨b, ρ4, e2, e⟩ := res_bind_ok e
  have et : tst F c ρ2 = .ok b ρ4 := by
    unfold tst
    rw [e1]
    exact e2
  rw [et]
  intro b' H3 B3 g3 s3 hb
  have hb : b = b' := hb
  subst hb
  refine k σ2 b ρ4 H3 B3 hw2 ((ls.go s2 g2).go s3 g3) (fun hb => ?_) fun hb => ?_
  · subst hb; exact e
  · subst hb
    simp only [guard] at e
    cases e
    exact ⟨rfl, rfl⟩
/-- a turn that yields -/
theorem yield_turn {t : Tg} {c e : E} {d : D} {x : V} {xs : List D} (ls : LS G.K A Hb Bb ρb σb B ρ σw acc H) (rx : Rep G.K H B d x) (eq : turnF F t c (fun ρ => (ev F e ρ).bind fun r ρ => (ofO (take ρ r) ρ).bind fun p _ => .ok [p.1] p.2) d ρ = .ok xs ρ') (hlen : (acc ++ xs).length ≤ sizeLine) (ht : ∀ i ∈ t.ids, i ∈ vs) (hw : wipe σw vs = σw)
    (hv : ∀ i ∈ vs, ∀ d, ρb[i]? ≠ some (.io d)) {Nx : Hp → Prop} (nx : ∀ H', (∃ B, LS G.K A Hb Bb ρb σb B (wipeE ρ' vs) σw (acc ++ xs) H') → Nx H') :
    TGv G t x σw H fun σ2 H2 => wipe σ2 vs = σw ∧ TTv G WN (tst F c) σ2 H2 fun b H3 => if b = true then TEv G WN (ev F e) σ2 H3 fun y H4 => ∃ acc, H4 A = some (.lst acc) ∧ acc.length < sizeLine ∧ Nx (upd H4 A (.lst (acc ++ [y]))) else Nx H3 := by
  refine tgt_test ls rx eq ht hw fun σ2 b ρ3 H3 B3 hw2 ls3 h1 h2 => ?_
  cases b with
  | false =>
    rw [if_neg (by simp)]
    obtain ⟨rfl, rfl⟩ := h2 rfl
    refine nx H3 ⟨B3, ?_⟩
    rw [List.append_nil, ← hw2]
    exact ls3.wipe hv
  | true =>
    rw [if_pos rfl]
    have e1 := h1 rfl
    obtain ⟨r, ρ4, e2, e3⟩ := res_bind_ok e1
    obtain ⟨p, ρ5, e4, e5⟩ := res_bind_ok e3
    obtain ⟨e6, _⟩ := ofO_ok e4
    cases e5
    refine ⟨B3, ρ3, ls3.g, ?_⟩
    rw [e2]
    intro y H4 B4 g4 s4 rel
    obtain ⟨dy, ρ6⟩ := p
    obtain ⟨B5, g5, s5, r5⟩ := take_ok g4 s4 rel e6
    have ls5 := ls3.go s5 g5
    obtain ⟨ws, ew, el, ls6⟩ := ls5.poke r5
    refine ⟨ws, ew, ?_, nx _ ⟨B5, ?_⟩⟩
    · rw [el]
      simp only [List.length_append, List.length_singleton] at hlen
      omega
    · rw [← hw2]
      exact ls6.wipe hv
theorem no_io {vs : List Nat} : ∀ i ∈ vs, ∀ d, (wipeE ρ vs)[i]? ≠ some (.io d) := fun i hi d e => by cases wipeE_in hi e
theorem comp_core {t : Tg} {it : It} {c e : E} (ht : ∀ i ∈ t.ids, i ∈ vs) {Q : V → Hp → Prop} (h : TEv G W (ev F (.comp vs t it c (.yld e))) σ H Q) : tLc (TIv G W (evI F it)) (TGv G t) (TTv G WN (tst F c)) (TEv G WN (ev F e)) vs σ H Q := by
  obtain ⟨B, ρ, g, run⟩ := h
  simp only [ev, evQ] at run
  refine ⟨B, ρ, g, Run.bind0 (R := ItR G σ) run fun p ρ1 J H1 B1 g1 s1 rel run1 A hA => ?_⟩
  obtain ⟨items, rs⟩ := p
  split at run1 <;> try (exact run1.elim)
  rename_i hp
  simp only [List.all_eq_true] at hp
  split at run1 <;> try (exact run1.elim)
  rename_i out ρ2 hloop
  split at run1 <;> try (exact run1.elim)
  rename_i hlen
  have n1 : ¬ Ow ρ1 σ A := fun z => by
    obtain ⟨_, ws, e⟩ := g1.owl A z
    rw [hA] at e; cases e
  have nbw : ∀ {ρ : Ev} {σ : L2.St}, Good G.K H1 B1 ρ σ → NoB ρ σ A := fun g j ds h z => by
    obtain ⟨v, ev, a, ws, ea, q, _⟩ := g.sl j _ _ h z
    cases ev; cases ea
    rw [hA] at q; cases q
  have gl := (g1.lock rs).1.wipe vs
  refine loop_core (K := G.K) (A := A) (Hb := H1) (Bb := B1) (ρb := wipeE (lock ρ1 rs) vs) (σb := wipe σ vs) (vs := vs) (items := items) (acc0 := []) (σw := wipe σ vs) no_io (it_core rel g1 (.inl hA) vs)
    (fun x H' Nx => TGv G t x (wipe σ vs) H' fun σ2 H2 => wipe σ2 vs = wipe σ vs ∧ TTv G WN (tst F c) σ2 H2 fun b H3 => if b = true then TEv G WN (ev F e) σ2 H3 fun y H4 => ∃ acc, H4 A = some (.lst acc) ∧ acc.length < sizeLine ∧ Nx (upd H4 A (.lst (acc ++ [y]))) else Nx H3)
    hloop (by simpa using hlen) ⟨plus B1 A, ?_⟩ (fun d ρ acc H x xs ρ' B he hl ls rx Nx nx => yield_turn ls rx he hl ht wipe_wipe no_io nx) fun H3 ⟨B3, ls⟩ => ?_
  · have st : Step H1 B1 (Ow (wipeE (lock ρ1 rs) vs) (wipe σ vs)) (upd H1 A (.lst [])) (plus B1 A) (Ow (wipeE (lock ρ1 rs) vs) (wipe σ vs)) := Step.alloc hA (fun _ z => z) (fun _ z _ => .inl z)
    refine ⟨gl.alloc hA (fun _ z => z) (fun _ z _ => .inl z), GoD.of_go (Go.of st), .inr rfl, fun z => n1 ?_, nbw gl, [], upd_same, by simp [Reps]⟩
    obtain ⟨j, z⟩ := wipe_sub z
    exact ⟨j, (lock_ow z).1⟩
  · obtain ⟨gu, su, nu, _⟩ := end_core g1 hp (.inl hA) n1 (nbw g1) ls
    refine run1 (.ref A) H3 B3 gu (s1.trans (su.go hA)) ⟨A, rfl, ?_, ls.b, nu, ?_⟩
    · cases e0 : H A with
      | none => rfl
      | some o => exact absurd hA (s1.st.there A (by rw [e0]; simp))
    · obtain ⟨ws, ew, r⟩ := ls.ac
      exact ⟨ws, ew, by simpa using r⟩
theorem _root_.L2.PTs.imp {ifs : List Expr} {t t' : L2.TT} (h : PTs X ifs t) (k : ∀ σ H Q, t' σ H Q → t σ H Q) : PTs X ifs t' := ⟨fun pins s σ H Q I q => h.run pins s σ H Q I (k _ _ _ q)⟩
theorem t_yes : PTs X [] (TTv G W (tst F (.con (.bl true)))) := pts_nil.imp fun σ H Q ⟨B, ρ, g, run⟩ => run.here g (b := true) rfl
/-- two clauses -/
theorem comp2_core {vs1 : List Nat} {t t1 : Tg} {it it1 : It} {c c1 e : E} (ht : ∀ i ∈ t.ids, i ∈ vs) (ht1 : ∀ i ∈ t1.ids, i ∈ vs1) (hvs : ∀ i ∈ vs1, i ∈ vs) {Q : V → Hp → Prop} (h : TEv G W (ev F (.comp vs t it c (.fr vs1 t1 it1 c1 e))) σ H Q) :
    tLc2 (TIv G W (evI F it)) (TGv G t) (TTv G WN (tst F c)) (TIv G WN (evI F it1)) (TGv G t1) (TTv G WN (tst F c1)) (TEv G WN (ev F e)) vs vs1 σ H Q := by
  obtain ⟨B, ρ, g, run⟩ := h
  simp only [ev, evQ] at run
  refine ⟨B, ρ, g, Run.bind0 (R := ItR G σ) run fun p ρ1 J H1 B1 g1 s1 rel run1 A hA => ?_⟩
  obtain ⟨items, rs⟩ := p
  split at run1 <;> try (exact run1.elim)
  rename_i hp
  simp only [List.all_eq_true] at hp
  split at run1 <;> try (exact run1.elim)
  rename_i out ρ2 hloop
  split at run1 <;> try (exact run1.elim)
  rename_i hlen
  have n1 : ¬ Ow ρ1 σ A := fun z => by
    obtain ⟨_, ws, e⟩ := g1.owl A z
    rw [hA] at e; cases e
  have nbw : ∀ {ρ : Ev} {σ : L2.St}, Good G.K H1 B1 ρ σ → NoB ρ σ A := fun g j ds h z => by
    obtain ⟨v, ev, a, ws, ea, q, _⟩ := g.sl j _ _ h z
    cases ev; cases ea
    rw [hA] at q; cases q
  have gl := (g1.lock rs).1.wipe vs
  refine loop_core (K := G.K) (A := A) (Hb := H1) (Bb := B1) (ρb := wipeE (lock ρ1 rs) vs) (σb := wipe σ vs) (vs := vs) (items := items) (acc0 := []) (σw := wipe σ vs) no_io (it_core rel g1 (.inl hA) vs)
    (fun x H' Nx => TGv G t x (wipe σ vs) H' fun σ2 H2 => wipe σ2 vs = wipe σ vs ∧ TTv G WN (tst F c) σ2 H2 fun b H3 => if b = true then TIv G WN (evI F it1) σ2 H3 fun J1 H4 => ∃ W1 : Nat → Nat → Hp → Prop, (∃ m, W1 0 m H4) ∧ ∀ j k H, W1 j k H →
      (J1.stop j H ∧ Nx H) ∨ (J1.go j H ∧ ∃ Nx1 : Hp → Prop, (∀ H', Nx1 H' → ∃ k', k' < k ∧ W1 (j + 1) k' H') ∧ ∀ x H', J1.yld j H x H' → TGv G t1 x (wipe σ2 vs1) H' fun σ3 H5 => wipe σ3 vs1 = wipe σ2 vs1 ∧ TTv G WN (tst F c1) σ3 H5 fun b H6 =>
        if b = true then TEv G WN (ev F e) σ3 H6 fun y H7 => ∃ acc, H7 A = some (.lst acc) ∧ acc.length < sizeLine ∧ Nx1 (upd H7 A (.lst (acc ++ [y]))) else Nx1 H6)
    else Nx H3)
    hloop (by simpa using hlen) ⟨plus B1 A, ?_⟩ (fun d ρ acc H x xs ρ' B he hl ls rx Nx nx => ?_) fun H3 ⟨B3, ls⟩ => ?_
  · have st : Step H1 B1 (Ow (wipeE (lock ρ1 rs) vs) (wipe σ vs)) (upd H1 A (.lst [])) (plus B1 A) (Ow (wipeE (lock ρ1 rs) vs) (wipe σ vs)) := Step.alloc hA (fun _ z => z) (fun _ z _ => .inl z)
    refine ⟨gl.alloc hA (fun _ z => z) (fun _ z _ => .inl z), GoD.of_go (Go.of st), .inr rfl, fun z => n1 ?_, nbw gl, [], upd_same, by simp [Reps]⟩
    obtain ⟨j, z⟩ := wipe_sub z
    exact ⟨j, (lock_ow z).1⟩
  · refine tgt_test ls rx he ht wipe_wipe fun σ2 b ρ3 H3 B3 hw2 ls3 h1 h2 => ?_
    cases b with
    | false =>
      rw [if_neg (by simp)]
      obtain ⟨rfl, rfl⟩ := h2 rfl
      refine nx H3 ⟨B3, ?_⟩
      rw [List.append_nil]
      have q := ls3.wipe (vs := vs) no_io
      rw [hw2] at q
      exact q
    | true =>
      rw [if_pos rfl]
      have e1 := h1 rfl
      obtain ⟨p, ρ4, e2, e3⟩ := res_bind_ok e1
      obtain ⟨items1, rs1⟩ := p
      split at e3 <;> try (cases e3; done)
      rename_i hp1
      simp only [List.all_eq_true] at hp1
      obtain ⟨ds, ρ5, e4, e5⟩ := res_bind_ok e3
      cases e5
      refine ⟨B3, ρ3, ls3.g, ?_⟩
      rw [e2]
      intro J1 H4 B4 g4 s4 rel1
      have ls4 := ls3.go s4 g4
      obtain ⟨ws4, ew4, r4⟩ := ls4.ac
      have ls3ac := ls3.ac
      have h3A : H3 A ≠ none := by
        obtain ⟨ws, ew, _⟩ := ls3ac
        rw [ew]; simp
      refine loop_core (K := G.K) (A := A) (Hb := H4) (Bb := B4) (ρb := wipeE (lock ρ4 rs1) vs1) (σb := wipe σ2 vs1) (vs := vs1) (items := items1) (acc0 := acc) (σw := wipe σ2 vs1) no_io
        (it_core rel1 g4 (.inr ⟨ls4.b, ⟨ws4, ew4⟩, ls4.n, ls4.nb, h3A⟩) vs1) (fun x H' Nx1 => TGv G t1 x (wipe σ2 vs1) H' fun σ3 H5 => wipe σ3 vs1 = wipe σ2 vs1 ∧ TTv G WN (tst F c1) σ3 H5 fun b H6 =>
        if b = true then TEv G WN (ev F e) σ3 H6 fun y H7 => ∃ acc, H7 A = some (.lst acc) ∧ acc.length < sizeLine ∧ Nx1 (upd H7 A (.lst (acc ++ [y]))) else Nx1 H6)
        e4 hl ⟨B4, ?_⟩ (fun d ρ acc H x xs ρ' B he hl ls rx Nx nx => yield_turn ls rx he hl ht1 wipe_wipe no_io nx) fun H6 ⟨B6, ls6⟩ => nx H6 ⟨B6, ?_⟩
      · refine ⟨(g4.lock rs1).1.wipe vs1, ⟨Step.refl _ _ _, fun _ _ z => ⟨z, rfl⟩, fun _ d z => ⟨d, z, rfl⟩⟩, ls4.b, fun z => ls4.n ?_, fun j ds hj => ?_, ws4, ew4, r4⟩
        · obtain ⟨j, z⟩ := wipe_sub z
          exact ⟨j, (lock_ow z).1⟩
        · have hi : j ∉ vs1 := fun z => by cases wipeE_in z hj
          rw [wipeE_out hi] at hj
          rw [wipe_out hi]
          rcases (lock_at rs1 ρ4 j).1 with l | ⟨_, d', hd, l⟩
          · rw [l] at hj
            exact ls4.nb j ds hj
          · intro z
            exact ls4.n ⟨j, ⟨d', .inl hd⟩, z⟩
      · obtain ⟨gu, su, nu, nbu⟩ := end_core g4 hp1 (.inr ⟨ls4.b, ws4, ew4⟩) ls4.n ls4.nb ls6
        have ls7 : LS G.K A H1 B1 (wipeE (lock ρ1 rs) vs) (wipe σ vs) B6 (unlock ρ4 (back ρ4 ρ5 vs1) rs1) σ2 (acc ++ _) H6 := ⟨gu, ls4.s.trans su, ls6.b, nu, nbu, ls6.ac⟩
        have q := ls7.wipe (vs := vs) no_io
        rw [hw2] at q
        exact q
  · obtain ⟨gu, su, nu, _⟩ := end_core g1 hp (.inl hA) n1 (nbw g1) ls
    refine run1 (.ref A) H3 B3 gu (s1.trans (su.go hA)) ⟨A, rfl, ?_, ls.b, nu, ?_⟩
    · cases e0 : H A with
      | none => rfl
      | some o => exact absurd hA (s1.st.there A (by rw [e0]; simp))
    · obtain ⟨ws, ew, r⟩ := ls.ac
      exact ⟨ws, ew, by simpa using r⟩
end
end G
end

section
set_option Elab.async false
set_option linter.all false
set_option maxRecDepth 100000
set_option maxHeartbeats 4000000
/-! G14: statements. -/
namespace G
open PySem PySem.Spec PyProof.Rows L2

/-! ### t += u of tuples -/
theorem noI_tup_add : typeLookup (.type "tuple") (dunderI "add") = pure none := by rw [typeLookup_type, builtinLookup_eq_fast]; kernel_rfl
theorem icat_tup {prog : Program} {w : World} {A : Around} {E : Value → Shared → Prop} {s : Shared} {t b : Addr} {vs ws : List Value} {Q : Value → Shared → Prop} (ht : IsTup s.heap t vs.toArray) (hb : IsTup s.heap b ws.toArray)
    (h0 : vs = [] → Q (.ref b) s) (h1 : vs ≠ [] → ws = [] → Q (.ref t) s) (h2 : vs ≠ [] → ws ≠ [] → Q (.ref s.heap.objs.size) { s with heap := s.heap.push { cls := .type "tuple", data := .seq (vs ++ ws).toArray } })
    (hsz : vs.length + ws.length ≤ sizeLine) : wpAny (model prog w) A (inplaceOp .Add (.ref t) (.ref b)) Q E s := by
  obtain ⟨⟨cls, dd, data, sl⟩, ho, hc, n, hd⟩ := id ht
  obtain ⟨⟨cls2, dd2, data2, sl2⟩, ho2, hc2, n2, hd2⟩ := id hb
  simp only at hc hd hc2 hd2
  subst hc hd hc2 hd2
  have e : vs.toArray ++ ws.toArray = (vs ++ ws).toArray := by simp
  have go : ∀ {S : PySem.Spec}, Meets (Builtin.«tuple.__add__» ⟨[.ref t, .ref b], []⟩) S → S A (wants Q E) s → wpAny (model prog w) A (inplaceOp .Add (.ref t) (.ref b)) Q E s := fun {S} g q =>
    wpAny_inplaceOp_concat (T := "tuple") ⟨_, ho, rfl⟩ ⟨_, ho2, rfl⟩ noI_tup_add noFill_tuple_add seq_tuple_add (call_meets PySem.F.slot_tuple_add ⟨_, ho, rfl⟩ PySem.F.entry_tuple_add (PySem.F.args_tuple_add_2 _ _) g q)
  by_cases hv : vs = []
  · exact go (tuple_addW0 t b vs.toArray ws.toArray n n2 dd dd2 sl sl2 (by simp [hv])) ⟨ho, ho2, h0 hv⟩
  · by_cases hw : ws = []
    · exact go (tuple_addW1 t b vs.toArray ws.toArray n n2 dd dd2 sl sl2 (by simpa using hv) (by simp [hw])) ⟨ho, ho2, h1 hv hw⟩
    · refine go (tuple_addW2 t b vs.toArray ws.toArray n n2 dd dd2 sl sl2 (by simpa using hv) (by simpa using hw) (by rw [List.size_toArray, List.size_toArray]; exact hsz)) ⟨ho, ho2, ?_⟩
      rw [e]
      exact h2 hv hw
theorem iop_catA {X : Cx} : OpR X (inplaceOp .Add) (rCatA X.K) := by
  intro pins s σ H x y v u Q I rx ry h
  obtain ⟨a, b, xs, ys, rfl, rfl, ha, hb, hz, q0, q1, q2⟩ := h
  cases rx
  cases ry
  obtain ⟨its, r1, p1, _⟩ := I.tuple ha
  obtain ⟨its2, r2, p2, _⟩ := I.tuple hb
  refine icat_tup p1 p2 (fun z => ⟨.ref b, H, I, rfl, q0 (r1.nil_iff.mp z)⟩) (fun z z2 => ⟨.ref a, H, I, rfl, q1 (fun k => z (r1.nil_iff.mpr k)) (r2.nil_iff.mp z2)⟩) (fun z z2 => ?_) (by rw [← r1.length, ← r2.length]; exact hz)
  refine ⟨.ref s.heap.objs.size, _, I.laid (t' := s.toks) (o := .tup (xs ++ ys)) (fun b ob q => Heap.get?_push_of_some _ q) (Nat.le_refl _) ?_, rfl, q2 (fun w => z (r1.nil_iff.mpr w)) (fun w => z2 (r2.nil_iff.mpr w)) _ (I.hok.fresh (Nat.le_refl _))⟩
  exact ⟨by rw [List.length_append]; exact hz, _, r1.append r2, IsTup.new _ _⟩

/-! ### in-place operators -/
section
variable {G : Pg} {W : L2.WX} {X : Cx}
/-- ti answers as g does; the answer is no list -/
def FitsA (G : Pg) (ti : R2) (g : D → D → Option D) : Prop := ∀ (σ : L2.St) (H : Hp) (B : Bs) (ρ : Ev) (x y d : D) (v w : V) (Q : V → Hp → Prop),
  Good G.K H B ρ σ → RepB G.K H B x v → RepB G.K H B y w → g x y = some d → (∀ u H', Good G.K H' B ρ σ → Go H B ρ σ H' B ρ σ → Rep G.K H' B d u → Q u H') → ti v w H Q
theorem aop_flat {o : Bo} {x y d : D} (h : aop o x y = some d) : (∃ i j, x = .int i ∧ y = .int j) ∨ (∃ i j, x = .str i ∧ y = .str j) ∨ ∃ xs ys, x = .tup xs ∧ y = .tup ys := by
  unfold aop at h
  split at h <;> first | (cases h; done) | exact .inl ⟨_, _, rfl, rfl⟩ | exact .inr (.inl ⟨_, _, rfl, rfl⟩) | exact .inr (.inr ⟨_, _, rfl, rfl⟩)
theorem fita_int {op : Operator} {o : Bo} {C : Int → Int → Prop} {h : Int → Int → Int} (rule : OpR X (inplaceOp op) (rI C fun i j => .int (h i j)))
    (e : ∀ x y d, aop o x y = some d → ∃ i j, x = .int i ∧ y = .int j ∧ C i j ∧ d = .int (h i j)) : ∃ r, OpR X (inplaceOp op) r ∧ FitsA G r (aop o) := by
  refine ⟨_, rule, ?_⟩
  intro σ H B ρ x y d v w Q g hx hy eq k
  obtain ⟨i, j, rfl, rfl, c, rfl⟩ := e x y d eq
  have hx : v = .int i := by simpa only [RepB, Rep] using hx
  have hy : w = .int j := by simpa only [RepB, Rep] using hy
  subst hx hy
  exact ⟨i, j, rfl, rfl, c, k _ H g (Go.refl _ _ _ _) (by simp [Rep])⟩
theorem fita_int0 {op : Operator} {o : Bo} {h : Int → Int → Int} (rule : OpR X (inplaceOp op) (rI0 fun i j => .int (h i j)))
    (e : ∀ x y d, aop o x y = some d → ∃ i j, x = .int i ∧ y = .int j ∧ d = .int (h i j)) : ∃ r, OpR X (inplaceOp op) r ∧ FitsA G r (aop o) := by
  refine ⟨_, rule, ?_⟩
  intro σ H B ρ x y d v w Q g hx hy eq k
  obtain ⟨i, j, rfl, rfl, rfl⟩ := e x y d eq
  have hx : v = .int i := by simpa only [RepB, Rep] using hx
  have hy : w = .int j := by simpa only [RepB, Rep] using hy
  subst hx hy
  exact ⟨i, j, rfl, rfl, k _ H g (Go.refl _ _ _ _) (by simp [Rep])⟩
theorem fita_add (hK : X.K = G.K) : ∃ r, OpR X (inplaceOp .Add) r ∧ FitsA G r (aop .add) := by
  refine ⟨_, iop_add.or (iop_add_str.or (iop_catA (X := X))), ?_⟩
  intro σ H B ρ x y d v w Q g hx hy e k
  cases x <;> cases y <;> simp only [aop] at e <;> try (cases e; done)
  case int.int i j =>
    cases e
    have hx : v = .int i := by simpa only [RepB, Rep] using hx
    have hy : w = .int j := by simpa only [RepB, Rep] using hy
    subst hx hy
    exact .inl ⟨i, j, rfl, rfl, k _ H g (Go.refl _ _ _ _) (by simp [Rep])⟩
  case str.str i j =>
    split at e <;> cases e
    have hx : v = .str i := by simpa only [RepB, Rep] using hx
    have hy : w = .str j := by simpa only [RepB, Rep] using hy
    subst hx hy
    exact .inr (.inl ⟨i, j, rfl, rfl, by assumption, k _ H g (Go.refl _ _ _ _) (by simp [Rep])⟩)
  case tup.tup xs ys =>
    split at e <;> cases e
    rename_i hz
    simp only [RepB, Rep] at hx hy
    obtain ⟨a, vs, rfl, qa, ra⟩ := hx
    obtain ⟨b, ws, rfl, qb, rb⟩ := hy
    refine .inr (.inr ⟨a, b, vs, ws, rfl, rfl, by rw [hK]; exact qa, by rw [hK]; exact qb, by rw [← ra.length, ← rb.length]; exact hz, fun e => ?_, fun _ e => ?_, fun _ _ p n => ?_⟩)
    · refine k _ H g (Go.refl _ _ _ _) ?_
      simp only [Rep]
      refine ⟨b, ws, rfl, qb, ?_⟩
      have q := ra.append rb
      rw [e] at q
      exact q
    · refine k _ H g (Go.refl _ _ _ _) ?_
      simp only [Rep]
      refine ⟨a, vs, rfl, qa, ?_⟩
      have q := ra.append rb
      rw [e, List.append_nil] at q
      exact q
    · have s : Step H B (Ow ρ σ) (upd H p (.tup (vs ++ ws))) B (Ow ρ σ) := Step.alloc n (fun _ z => .inl z) (fun _ z _ => z)
      refine k _ _ (g.alloc n (fun _ z => .inl z) (fun _ z _ => z)) (Go.of s) ?_
      simp only [Rep]
      exact ⟨p, _, rfl, .inl (.inl upd_same), Reps.stab g.owl s (ra.append rb)⟩
def aOp : Operator → Option Bo
  | .Add => some .add | .Sub => some .sub | .Mult => some .mul | .BitXor => some .bxor | .BitAnd => some .band | .BitOr => some .bor
  | _ => none
theorem aop_ok (hK : X.K = G.K) {op : Operator} {o : Bo} (h : aOp op = some o) : ∃ r, OpR X (inplaceOp op) r ∧ FitsA G r (aop o) := by
  cases op <;> simp only [aOp] at h <;> cases h
  · exact fita_add hK
  · refine fita_int0 iop_sub fun x y d e => ?_
    cases x <;> cases y <;> simp only [aop] at e <;> try (cases e; done)
    cases e; exact ⟨_, _, rfl, rfl, rfl⟩
  · refine fita_int iop_mul fun x y d e => ?_
    cases x <;> cases y <;> simp only [aop] at e <;> try (cases e; done)
    split at e <;> cases e
    rename_i hb
    refine ⟨_, _, rfl, rfl, ?_, rfl⟩
    simp only [Bool.or_eq_true, inInt, Bool.and_eq_true, decide_eq_true_eq] at hb
    exact hb
  · refine fita_int0 iop_or fun x y d e => ?_
    cases x <;> cases y <;> simp only [aop] at e <;> try (cases e; done)
    cases e; exact ⟨_, _, rfl, rfl, rfl⟩
  · refine fita_int0 iop_xor fun x y d e => ?_
    cases x <;> cases y <;> simp only [aop] at e <;> try (cases e; done)
    cases e; exact ⟨_, _, rfl, rfl, rfl⟩
  · refine fita_int0 iop_and fun x y d e => ?_
    cases x <;> cases y <;> simp only [aop] at e <;> try (cases e; done)
    cases e; exact ⟨_, _, rfl, rfl, rfl⟩
end

/-! ### what a statement's reading asks -/
/-- a returned value: one that stays, or a list that is new, or a local name's list -/
def RetR (K : PySem.W.Frag) (H₀ H : Hp) (B : Bs) (ρ : Ev) (σ : L2.St) : Bool → D → V → Prop
  | false, d, v => Rep K H B d v
  | true, d, v => ∃ a, v = .ref a ∧ B a ∧ Own K H B d a ∧ ((¬ Ow ρ σ a ∧ H₀ a = none) ∨ ∃ j : Nat, ρ[j]? = some (.ow d) ∧ σ[j]? = some (some (.ref a)))
def RunS (G : Pg) (W : L2.WX) (σ : L2.St) (H : Hp) (B : Bs) (ρ : Ev) (r : SR) (E : L2.Ends) : Prop := match r with
  | .nx ρ' => ∀ σ' H' B', Good G.K H' B' ρ' σ' → Go H B ρ σ H' B' ρ' σ' → E.nx σ' H'
  | .bk ρ' => ∀ σ' H' B', Good G.K H' B' ρ' σ' → Go H B ρ σ H' B' ρ' σ' → E.bk σ' H'
  | .ct ρ' => ∀ σ' H' B', Good G.K H' B' ρ' σ' → Go H B ρ σ H' B' ρ' σ' → E.ct σ' H'
  | .rt o d ρ' => ∀ v σ' H' B', Good G.K H' B' ρ' σ' → Go H B ρ σ H' B' ρ' σ' → RetR G.K H H' B' ρ' σ' o d v → E.rt v H'
  | .ex x ρ' => ∀ cls d σ' H' B', Good G.K H' B' ρ' σ' → Go H B ρ σ H' B' ρ' σ' → XRel G x cls d H' → W cls d σ' H'
  | .no => False
def TSv (G : Pg) (W : L2.WX) (r : Ev → SR) : L2.TS := fun E σ H => ∃ B ρ, Good G.K H B ρ σ ∧ RunS G W σ H B ρ (r ρ) E
section
variable {G : Pg} {F : Fn} {W : L2.WX} {X : Cx} {σ σ1 : L2.St} {H H0 H1 : Hp} {B B1 : Bs} {ρ ρ1 : Ev} {E : L2.Ends}
theorem RetR.base (hk : ∀ a, H a ≠ none → H0 a ≠ none) {K : PySem.W.Frag} {o : Bool} {d : D} {v : V} (h : RetR K H0 H1 B ρ σ o d v) : RetR K H H1 B ρ σ o d v := by
  cases o with
  | false => exact h
  | true =>
    obtain ⟨a, e, b, w, z⟩ := h
    refine ⟨a, e, b, w, z.elim (fun z => .inl ⟨z.1, ?_⟩) .inr⟩
    cases q : H a with
    | none => rfl
    | some o => exact absurd z.2 (hk a (by rw [q]; simp))
theorem RunS.pre {r : SR} (s : Go H B ρ σ H1 B1 ρ1 σ1) (h : RunS G W σ H B ρ r E) : RunS G W σ1 H1 B1 ρ1 r E := by
  cases r with
  | no => exact h
  | nx ρ' => exact fun σ' H' B' g s' => h σ' H' B' g (s.trans s')
  | bk ρ' => exact fun σ' H' B' g s' => h σ' H' B' g (s.trans s')
  | ct ρ' => exact fun σ' H' B' g s' => h σ' H' B' g (s.trans s')
  | rt o d ρ' => exact fun v σ' H' B' g s' q => h v σ' H' B' g (s.trans s') (q.base s.st.there)
  | ex x ρ' => exact fun cls d σ' H' B' g s' q => h cls d σ' H' B' g (s.trans s') q
/-- an expression within a statement -/
theorem RunS.sr {α β : Type} {R : Rl α β} {r : Res α} {f : α → Ev → SR} {Q1 : β → Hp → Prop} (h : RunS G W σ H B ρ (r.sr f) E)
    (k : ∀ a ρ1 b H1 B1, Good G.K H1 B1 ρ1 σ → Go H B ρ σ H1 B1 ρ1 σ → R H H1 B1 (Ow ρ1 σ) ρ1 a b → RunS G W σ H B ρ (f a ρ1) E → Q1 b H1) : Run G R W σ H B ρ r Q1 := by
  cases r with
  | ok a ρ' => exact fun b H' B' g s' q => k a ρ' b H' B' g s' q h
  | ex x ρ' => exact fun cls d H' B' g s' q => h cls d σ H' B' g s' q
  | no => exact h
theorem RunS.ofS {o : Option Ev} (h : RunS G W σ H B ρ (ofS o) E) : ∃ ρ', o = some ρ' ∧ RunS G W σ H B ρ (.nx ρ') E := by
  cases o with
  | none => exact h.elim
  | some ρ' => exact ⟨ρ', rfl, h⟩
theorem RunS.seq {r : SR} {f : Ev → SR} (h : RunS G W σ H B ρ (r.seq f) E) : RunS G W σ H B ρ r { E with nx := fun σ' H' => TSv G W f E σ' H' } := by
  cases r with
  | nx ρ' => exact fun σ' H' B' g s => ⟨B', ρ', g, RunS.pre s h⟩
  | _ => exact h
theorem ss_nil : PSs X [] (TSv G W (evSs F n .nil)) := ⟨fun pins s σ H E I ⟨B, ρ, g, run⟩ => pss_nil.run pins s σ H E I (by
  simp only [evSs] at run
  exact run σ H B g (Go.refl _ _ _ _))⟩
theorem ss_cons {n : Nat} {st : Stmt} {rest : List Stmt} {s' : S} {r' : Ss} (h1 : PS X st (TSv G W (evS F n s'))) (h2 : PSs X rest (TSv G W (evSs F n r'))) : PSs X (st :: rest) (TSv G W (evSs F n (.cons s' r'))) := (pss_cons h1 h2).imp fun E σ H ⟨B, ρ, g, run⟩ => by
  simp only [evSs] at run
  exact ⟨B, ρ, g, run.seq⟩
theorem p_nvr {n : Nat} {st : Stmt} : PS X st (TSv G W (evS F n .nvr)) := ⟨fun pins s σ H E I ⟨B, ρ, g, run⟩ => run.elim⟩
theorem p_pass {n : Nat} {pos : Pos} : PS X (.Pass pos) (TSv G W (evS F n .pass)) := ps_pass.imp fun E σ H ⟨B, ρ, g, run⟩ => run σ H B g (Go.refl _ _ _ _)
theorem p_doc {n : Nat} {x j} {pos p2 : Pos} : PS X (.Expr (.Constant (.str x) j p2) pos) (TSv G W (evS F n .pass)) := ps_doc.imp fun E σ H ⟨B, ρ, g, run⟩ => run σ H B g (Go.refl _ _ _ _)
theorem p_brk {n : Nat} {pos : Pos} : PS X (.Break pos) (TSv G W (evS F n .brk)) := ps_break.imp fun E σ H ⟨B, ρ, g, run⟩ => run σ H B g (Go.refl _ _ _ _)
theorem p_cnt {n : Nat} {pos : Pos} : PS X (.Continue pos) (TSv G W (evS F n .cnt)) := ps_continue.imp fun E σ H ⟨B, ρ, g, run⟩ => run σ H B g (Go.refl _ _ _ _)
theorem p_exp {n : Nat} {e : Expr} {e' : _root_.G.E} {pos : Pos} (he : PE X e (TEv G W (ev F e'))) (hs : swapsWith e none pos.line X.env = pure false) : PS X (.Expr e pos) (TSv G W (evS F n (.exp e'))) := (ps_expr he hs).imp fun E σ H ⟨B, ρ, g, run⟩ => by
  simp only [evS] at run
  exact ⟨B, ρ, g, run.sr fun r ρ1 v H1 B1 g1 s1 rel run1 => run1 σ H1 B1 g1 s1⟩
theorem ret_core {r : RV} {v : V} (g0 : Good G.K H B ρ σ) (g1 : Good G.K H1 B1 ρ1 σ) (s1 : Go H B ρ σ H1 B1 ρ1 σ) (rel : RvRel G.K H H1 B1 (Ow ρ1 σ) σ r v) (run : RunS G W σ H B ρ (retR ρ1 r) E) : E.rt v H1 := by
  cases r with
  | val d => exact run v σ H1 B1 g1 s1 rel
  | own d =>
    obtain ⟨a, rfl, h0, hb, n, w⟩ := rel
    exact run _ σ H1 B1 g1 s1 ⟨a, rfl, hb, w, .inl ⟨n, h0⟩⟩
  | slot i =>
    have rel : σ[i]? = some (some v) := rel
    simp only [retR] at run
    split at run
    · rename_i d hd
      obtain ⟨a, ev, hb, w⟩ := g1.sl i _ _ hd rel
      cases ev
      exact run _ σ H1 B1 g1 s1 ⟨a, rfl, hb, w, .inr ⟨i, hd, rel⟩⟩
    · split at run
      · rename_i d ρ2 et
        obtain ⟨B2, g2, s2, r2⟩ := take_ok g1 s1 (rv := .slot i) rel et
        exact run v σ H1 B2 g2 s2 r2
      · exact run.elim
theorem p_ret {n : Nat} {e : Expr} {e' : _root_.G.E} {pos : Pos} (he : PE X e (TEv G W (ev F e'))) : PS X (.Return (some e) pos) (TSv G W (evS F n (.ret e'))) := (ps_ret he).imp fun E σ H ⟨B, ρ, g, run⟩ => by
  simp only [evS] at run
  exact ⟨B, ρ, g, run.sr fun r ρ1 v H1 B1 g1 s1 rel run1 => ret_core g g1 s1 rel run1⟩
theorem p_retN {n : Nat} {pos : Pos} : PS X (.Return none pos) (TSv G W (evS F n (.ret (.con .non)))) := ps_retN.imp fun E σ H ⟨B, ρ, g, run⟩ => by
  simp only [evS, ev, Res.sr] at run
  exact run .non σ H B g (Go.refl _ _ _ _) (by show Rep _ _ _ _ _; simp [Rep])
theorem p_ite {n : Nat} {c : Expr} {a b : List Stmt} {c' : _root_.G.E} {a' b' : Ss} {pos : Pos} (hc : PT X c (TTv G W (tst F c'))) (ha : PSs X a (TSv G W (evSs F n a'))) (hb : PSs X b (TSv G W (evSs F n b'))) : PS X (.If c a b pos) (TSv G W (evS F n (.ite c' a' b'))) :=
  (ps_if hc ha hb).imp fun E σ H ⟨B, ρ, g, run⟩ => by
    simp only [evS] at run
    refine ⟨B, ρ, g, RunS.sr (r := tst F c' ρ) run fun k ρ1 k' H1 B1 g1 s1 rel run1 => ?_⟩
    cases rel
    cases k with
    | true => exact ⟨B1, ρ1, g1, RunS.pre s1 run1⟩
    | false => exact ⟨B1, ρ1, g1, RunS.pre s1 run1⟩
/-- target = value -/
theorem p_asg {n : Nat} {tg e : Expr} {t : Tg} {e' : _root_.G.E} {pos : Pos} (he : PE X e (TEv G W (ev F e'))) (hg : PG X tg (TGv G t)) (hs : swapsWithSole [tg] e pos.line X.env = pure false) (hw : swappedStores [tg] e X.env = pure none)
    (h1 : (assignEach [tg] X.env).map (·.2) = [assign tg X.env]) : PS X (.Assign [tg] e pos) (TSv G W (evS F n (.asg t e'))) := (ps_asg he hg hs hw h1).imp fun E σ H ⟨B, ρ, g, run⟩ => by
  simp only [evS] at run
  refine ⟨B, ρ, g, run.sr fun r ρ1 v H1 B1 g1 s1 rel run1 => ?_⟩
  obtain ⟨ρ2, e2, run2⟩ := run1.ofS
  exact ⟨H, B, ρ, B1, ρ1, r, ρ2, g, s1, g1, rel, e2, fun B' σ' _ _ g' s' => run2 σ' H1 B' g' s'⟩
/-- name = a comprehension on one line, in one turn -/
theorem comp_set {n : Nat} {i : Nat} {e' : _root_.G.E} {E : L2.Ends} {t : L2.TE} (k : ∀ σ H Q, TEv G W (ev F e') σ H Q → t σ H Q) : TSv G W (evS F n (.asg (.nm i) e')) E σ H → tAsg t (gName i) E σ H := fun ⟨B, ρ, g, run⟩ => by
  simp only [evS] at run
  refine k σ H _ ⟨B, ρ, g, run.sr fun r ρ1 v H1 B1 g1 s1 rel run1 => ?_⟩
  obtain ⟨ρ2, e2, run2⟩ := run1.ofS
  exact asg_nm ⟨H, B, ρ, B1, ρ1, r, ρ2, g, s1, g1, rel, e2, fun B' σ' _ _ g' s' => run2 σ' H1 B' g' s'⟩
/-! a, b = x, y -/
def PsR (G : Pg) (σ : L2.St) : Rl (List RV) (List V) := fun H0 H B O _ rs vs => RvsR G σ H0 H B O rs vs ∧ (ownVs rs vs).Nodup
def TPv (G : Pg) (W : L2.WX) (r : Ev → Res (List RV)) : L2.TA := fun σ H Q => ∃ B ρ, Good G.K H B ρ σ ∧ Run G (PsR G σ) W σ H B ρ (r ρ) Q
theorem PsR.rb : Rb (PsR G σ) := fun H H1 H2 B O ρ a b hk h => ⟨RvsR.rb H H1 H2 B O ρ a b hk h.1, h.2⟩
theorem own_fresh : ∀ {rs : List RV} {vs : List V} {O : Bs} {a : Addr}, RvsR G σ H0 H B O rs vs → V.ref a ∈ ownVs rs vs → H0 a = none
  | [], _, _, _, h, m => by cases h; cases m
  | .val d :: rs, _, _, _, h, m => by
    cases h with
    | cons r t => exact own_fresh t m
  | .slot d :: rs, _, _, _, h, m => by
    cases h with
    | cons r t => exact own_fresh t m
  | .own d :: rs, _, _, _, h, m => by
    cases h with
    | cons r t =>
      simp only [ownVs, List.mem_cons] at m
      rcases m with m | m
      · obtain ⟨a, e, h0, _⟩ := r
        rw [← m] at e
        cases e; exact h0
      · exact own_fresh t m
theorem takeO_ok {rv rv' : RV} {v : V} (g : Good G.K H1 B1 ρ1 σ) (s : Go H B ρ σ H1 B1 ρ1 σ) (h : RvRel G.K H H1 B1 (Ow ρ1 σ) σ rv v) {ρ2 : Ev} (e : takeO ρ1 rv = some (rv', ρ2)) :
    ∃ B2, Good G.K H1 B2 ρ2 σ ∧ Go H B ρ σ H1 B2 ρ2 σ ∧ RvRel G.K H H1 B2 (Ow ρ2 σ) σ rv' v ∧ (∀ d, rv' = .own d → rv = .own d) := by
  cases rv with
  | own d =>
    simp only [takeO] at e
    cases e
    exact ⟨B1, g, s, h, fun _ z => z⟩
  | val d =>
    simp only [takeO] at e
    obtain ⟨p, e1, e2⟩ := Option.map_eq_some_iff.mp e
    cases e2
    obtain ⟨B2, g2, s2, r2⟩ := take_ok g s h e1
    exact ⟨B2, g2, s2, r2, fun _ z => by cases z⟩
  | slot i =>
    simp only [takeO] at e
    obtain ⟨p, e1, e2⟩ := Option.map_eq_some_iff.mp e
    cases e2
    obtain ⟨B2, g2, s2, r2⟩ := take_ok g s h e1
    exact ⟨B2, g2, s2, r2, fun _ z => by cases z⟩
theorem q_nil : PA X [] (TPv G W (evPs F .nil)) := pa_nil.imp fun σ H Q ⟨B, ρ, g, run⟩ => by
  simp only [evPs] at run
  exact run.here g (b := []) ⟨.nil, List.nodup_nil⟩
theorem q_cons {a : Expr} {a' : _root_.G.E} {es : List Expr} {es' : Es} (ha : PE X a (TEv G W (ev F a'))) (hr : PA X es (TPv G W (evPs F es'))) (hs : starEach (a :: es) X.env = (false, eval a X.env) :: starEach es X.env) : PA X (a :: es) (TPv G W (evPs F (.cons a' es'))) := by
  refine (pa_cons ha hr hs).imp fun σ H Q ⟨B, ρ, g, run⟩ => ?_
  simp only [evPs] at run
  refine ⟨B, ρ, g, run.bind0 fun ra ρ1 v H1 B1 g1 s1 rel1 run1 => ?_⟩
  cases et : takeO ρ1 ra with
  | none => rw [et] at run1; exact run1.elim
  | some p =>
    obtain ⟨rv, ρ2⟩ := p
    rw [et] at run1
    obtain ⟨B2, g2, s2, r2, _⟩ := takeO_ok g1 s1 rel1 et
    have run1 : Run G (PsR G σ) W σ H B ρ ((evPs F es' ρ2).bind fun rs ρ => .ok (rv :: rs) ρ) Q := run1
    refine ⟨B2, ρ2, g2, (run1.from_ s2).bind0 fun rs ρ3 vs H3 B3 g3 s3 rel3 run3 => ?_⟩
    refine run3 (v :: vs) H3 B3 g3 s3 ?_
    refine ⟨.cons (RvRel.stab g2.owl s3.st r2) (RvsR.rb _ _ _ _ _ ρ3 _ _ s2.st.there rel3.1), ?_⟩
    cases rv with
    | val d => exact rel3.2
    | slot j => exact rel3.2
    | own d =>
      simp only [ownVs, List.nodup_cons]
      refine ⟨fun m => ?_, rel3.2⟩
      obtain ⟨a, rfl, _, _, _, w⟩ := r2
      obtain ⟨ws, ew⟩ := w.lst
      have := own_fresh rel3.1 m
      rw [ew] at this; cases this
theorem par_core {n : Nat} {is : List Nat} {es' : Es} (h : TSv G W (evS F n (.par is es')) E σ H) : TPv G W (evPs F es') σ H fun vs H1 => vs.length = is.length ∧ E.nx ((is.zip vs).foldl (fun σ p => σ.set p.1 (some p.2)) σ) H1 := by
  obtain ⟨B, ρ, g, run⟩ := h
  simp only [evS] at run
  refine ⟨B, ρ, g, run.sr fun rs ρ1 vs H1 B1 g1 s1 rel1 run1 => ?_⟩
  obtain ⟨ρ2, e2, run2⟩ := run1.ofS
  obtain ⟨σ', g2, s2, hl, rfl⟩ := asgAll_ok g s1 g1 rel1.1 rel1.2 e2
  exact ⟨hl, run2 _ H1 B1 g2 s2⟩
theorem fz_at {i : Nat} {d : D} (h : fzAt ρ i = some d) : ρ[i]? = some (.fz d) := by
  unfold fzAt at h
  split at h
  · cases h; assumption
  · cases h
/-- name op= e -/
theorem p_aug {n : Nat} {i : Nat} {x : Str} {op : Operator} {o : Bo} {e : Expr} {e' : _root_.G.E} {pos p2 : Pos} (hK : X.K = G.K) (hN : X.N.Nodup) (h : NmOk X i x) (ho : aOp op = some o) (he : PE X e (TEv G W (ev F e'))) : PS X (.AugAssign (.Name x p2) op e pos) (TSv G W (evS F n (.aug i o e'))) := by
  obtain ⟨ti, hti, fit⟩ := aop_ok (G := G) hK ho
  refine (ps_aug hN h.ix h.loc he hti h.fn).imp fun E σ H ⟨B, ρ, g, run⟩ => ?_
  simp only [evS] at run
  cases e1 : fzAt ρ i with
  | none => rw [e1] at run; exact run.elim
  | some d0 =>
    rw [e1] at run
    obtain ⟨o1, eo, v0, ev0, r0⟩ := g.at_ (fz_at e1)
    subst ev0
    refine ⟨v0, eo, B, ρ, g, run.sr fun r ρ1 v H1 B1 g1 s1 rel run1 => ?_⟩
    obtain ⟨ρ2, e2, run2⟩ := run1.ofS
    obtain ⟨d, e3, e4⟩ := opt_bind_some e2
    obtain ⟨y, e5, e6⟩ := opt_bind_some e3
    refine fit σ H1 B1 ρ1 d0 y d v0 v _ g1 (Rep.stab g.owl s1.st r0).toB (force_ok g1 rel e5) e6 fun u H2 g2 s2 r2 => ?_
    obtain ⟨g3, s3⟩ := store_val g2 r2 e4
    exact run2 _ H2 B1 g3 ((s1.trans s2).trans s3)
theorem setL_at {i : Nat} {k d : D} (g : Good G.K H B ρ σ) (h : setL ρ i k d = some ρ1) : ∃ a vs n j, OwAt ρ σ i a ∧ H a = some (.lst vs) ∧ k = .int n ∧ ixN vs.length n = some j ∧ ∀ v, Rep G.K H B d v → Good G.K (upd H a (.lst (vs.set j v))) B ρ1 σ ∧ Go H B ρ σ (upd H a (.lst (vs.set j v))) B ρ1 σ := by
  unfold setL at h
  split at h <;> try (cases h; done)
  rename_i ds n e
  obtain ⟨j, e1, rfl⟩ := Option.map_eq_some_iff.mp h
  obtain ⟨a, vs, o, hl, r, _⟩ := ownL_at g e
  rw [r.length] at e1
  exact ⟨a, vs, n, j, o, hl, rfl, e1, fun v rv => g.change o (Reps.set rv j r)⟩
/-- name[i] = e -/
theorem p_setx {n : Nat} {i : Nat} {x : Str} {ix e : Expr} {i' e' : _root_.G.E} {pos p2 p3 : Pos} (hN : X.N[i]? = some x) (hv : Vis X.env.scope x) (hd : (x == ("__debug__" : Str)) = false) (hcd : (x == ("__classdict__" : Str)) = false) (hi : PE X ix (TEv G W (ev F i'))) (he : PE X e (TEv G W (ev F e')))
    (ha : ∀ v, assign (.Subscript (.Name x p2) ix p3) X.env v = (do
      let ov ← holding [v] (eval (.Name x p2) X.env)
      let iv ← holding [v, ov] (eval ix X.env)
      standAt p3
      holding [v, ov, iv] (setItem ov iv v)
      release [v, ov, iv] []))
    (hs : swapsWithSole [.Subscript (.Name x p2) ix p3] e pos.line X.env = pure false) (hw : swappedStores [.Subscript (.Name x p2) ix p3] e X.env = pure none) : PS X (.Assign [.Subscript (.Name x p2) ix p3] e pos) (TSv G W (evS F n (.setx i i' e'))) := by
  refine (ps_asg he (pg_sub (pe_var hN hv hd hcd) hi set_list ha) hs hw rfl).imp fun E σ H ⟨B, ρ, g, run⟩ => ?_
  simp only [evS] at run
  refine ⟨B, ρ, g, run.sr fun r ρ1 v H1 B1 g1 s1 rel run1 => ?_⟩
  cases et : take ρ1 r with
  | none => rw [et] at run1; exact run1.elim
  | some p =>
    obtain ⟨d, ρ2⟩ := p
    rw [et] at run1
    obtain ⟨B2, g2, s2, r2⟩ := take_ok g1 s1 rel et
    simp only [ofO, Res.sr] at run1
    split at run1 <;> try (exact run1.elim)
    rename_i hs2
    obtain ⟨ds, eo⟩ := Option.isSome_iff_exists.mp hs2
    obtain ⟨a, vs, ho, hl, _, _⟩ := ownL_at g2 eo
    refine ⟨.ref a, ho.2, B2, ρ2, g2, ?_⟩
    have run1 := RunS.pre s2 run1
    refine RunS.sr (r := ev F i' ρ2) run1 fun k ρ3 w H3 B3 g3 s3 rel3 run3 => ?_
    obtain ⟨ρ4, e4, run4⟩ := run3.ofS
    obtain ⟨kd, e5, e6⟩ := opt_bind_some e4
    obtain ⟨a3, vs3, n3, j3, ho3, hl3, rfl, hj3, fin⟩ := setL_at g3 e6
    have ea : a3 = a := by
      have q := ho3.2
      rw [ho.2] at q
      cases q; rfl
    subst ea
    have rk := force_ok g3 rel3 e5
    have rk : w = .int n3 := by simpa only [RepB, Rep] using rk
    subst rk
    obtain ⟨g5, s5⟩ := fin v (Rep.stab g2.owl s3.st r2)
    exact ⟨a3, vs3, n3, j3, rfl, rfl, hl3, hj3, run4 σ _ B3 g5 (s3.trans s5)⟩
theorem get_list : PGet X (fun o i H Q => ∃ p xs k z, o = .ref p ∧ i = .int k ∧ H p = some (.lst xs) ∧ atI xs k = some z ∧ Q z H) := by
  intro pins s σ H o i ov iv Q I ro ri h
  obtain ⟨p, xs, i, z, rfl, rfl, hq, he, q⟩ := h
  cases ro
  obtain ⟨t, rfl⟩ := ri
  obtain ⟨its, r, pl, hz⟩ := I.list (.inl (.inl hq))
  obtain ⟨j, h1, h2, h3, h4, h5⟩ := atI_get he
  obtain ⟨w, ew, rw'⟩ := r.get h2
  have hl := r.length
  have hn := line63
  have fin : EP X pins σ Q w s := ⟨z, H, I, rw', q⟩
  by_cases h0 : 0 ≤ i
  · have hj : i.toNat = j := by
      rw [seqIndex_of h0 h5] at h1
      exact Option.some.inj h1
    exact wpAny_getItem_list pl.isList h0 (by omega) (by rw [hj]; simpa using ew) fin
  · have hj : (i + (its.toArray.size : Int)).toNat = j := by
      rw [seqIndex_neg (by omega) h4] at h1
      rw [List.size_toArray, ← hl]
      exact Option.some.inj h1
    exact wpAny_getItem_list_neg pl.isList (by omega) (by rw [List.size_toArray] <;> omega) (by omega) (by rw [hj]; simpa using ew) fin
theorem getL_at {i : Nat} {k d : D} (g : Good G.K H B ρ σ) (h : getL ρ i k = some d) : ∃ a vs n v, OwAt ρ σ i a ∧ H a = some (.lst vs) ∧ k = .int n ∧ atI vs n = some v ∧ Rep G.K H B d v := by
  unfold getL at h
  split at h <;> try (cases h; done)
  rename_i ds n e
  obtain ⟨a, vs, o, hl, r, _⟩ := ownL_at g e
  obtain ⟨v, h1, h2⟩ := Reps.atI r (i := n) h
  exact ⟨a, vs, n, v, o, hl, rfl, h1, h2⟩
/-- name[i] op= e -/
theorem p_augx {n : Nat} {i : Nat} {x : Str} {op : Operator} {o : Bo} {ix e : Expr} {i' e' : _root_.G.E} {pos p2 p3 : Pos} (hK : X.K = G.K) (hN : X.N[i]? = some x) (hv : Vis X.env.scope x) (hd : (x == ("__debug__" : Str)) = false) (hcd : (x == ("__classdict__" : Str)) = false) (hi : PE X ix (TEv G W (ev F i'))) (he : PE X e (TEv G W (ev F e')))
    (ho : aOp op = some o) (ha : ∀ ov iv new, augStore ix ov iv new = (do holding [new, ov, iv] (setItem ov iv new); release [new, ov, iv] []; pure .next)) : PS X (.AugAssign (.Subscript (.Name x p2) ix p3) op e pos) (TSv G W (evS F n (.augx i i' o e'))) := by
  obtain ⟨ti, hti, fit⟩ := aop_ok (G := G) hK ho
  refine (ps_augS (pe_var hN hv hd hcd) hi get_list he hti set_list ha).imp fun E σ H ⟨B, ρ, g, run⟩ => ?_
  simp only [evS] at run
  split at run <;> try (exact run.elim)
  rename_i hs2
  obtain ⟨ds, eo⟩ := Option.isSome_iff_exists.mp hs2
  obtain ⟨a, vs, ho, hl, _, _⟩ := ownL_at g eo
  refine ⟨.ref a, ho.2, B, ρ, g, run.sr fun k ρ1 w H1 B1 g1 s1 rel1 run1 => ?_⟩
  split at run1 <;> try (exact run1.elim)
  rename_i kd ek
  split at run1 <;> try (exact run1.elim)
  rename_i d0 ex0
  obtain ⟨a1, vs1, n1, v1, ho1, hl1, rfl, hat, r1⟩ := getL_at g1 ex0
  have same : ∀ {ρ : Ev} {b : Addr}, OwAt ρ σ i b → b = a := fun {ρ b} z => by
    have q := z.2
    rw [ho.2] at q
    cases q; rfl
  have ea := same ho1
  subst ea
  have rk := force_ok g1 rel1 ek
  have rk : w = .int n1 := by simpa only [RepB, Rep] using rk
  subst rk
  refine ⟨a1, vs1, n1, v1, rfl, rfl, hl1, hat, B1, ρ1, g1, ?_⟩
  have run1 := RunS.pre s1 run1
  refine RunS.sr (r := ev F e' ρ1) run1 fun r ρ2 u H2 B2 g2 s2 rel2 run2 => ?_
  obtain ⟨ρ3, e3, run3⟩ := run2.ofS
  obtain ⟨d, e4, e5⟩ := opt_bind_some e3
  obtain ⟨y, e6, e7⟩ := opt_bind_some e4
  refine fit σ H2 B2 ρ2 d0 y d v1 u _ g2 (Rep.stab g1.owl s2.st r1).toB (force_ok g2 rel2 e6) e7 fun z H3 g3 s3 r3 => ?_
  obtain ⟨a4, vs4, n4, j4, ho4, hl4, ek4, hj4, fin⟩ := setL_at g3 e5
  have ea := same ho4
  subst ea
  cases ek4
  obtain ⟨g5, s5⟩ := fin z r3
  exact ⟨a4, vs4, n1, j4, rfl, rfl, hl4, hj4, run3 σ _ B2 g5 ((s2.trans s3).trans s5)⟩

/-! ### loops -/
theorem p_whl {n : Nat} {c : Expr} {body : List Stmt} {c' : _root_.G.E} {b' : Ss} {pos : Pos} (hp : PassesOwn (model X.prog X.w) X.A X.env X.xe) (hc : PT X c (TTv G W (tst F c'))) (hb : PSs X body (TSv G W (evSs F n b'))) : PS X (.While c body [] pos) (TSv G W (evS F n (.whl c' b'))) :=
  (ps_while hp hc hb).imp fun E σ H ⟨B, ρ, g, run⟩ => by
    simp only [evS] at run
    refine ⟨fun m σ' H' => ∃ B' ρ', Good G.K H' B' ρ' σ' ∧ RunS G W σ' H' B' ρ' (whN (tst F c') (evSs F n b') m ρ') E, ⟨n, B, ρ, g, run⟩, ?_⟩
    rintro m σ1 H1 ⟨B1, ρ1, g1, run1⟩
    cases m with
    | zero => exact run1.elim
    | succ m =>
      simp only [whN] at run1
      refine ⟨B1, ρ1, g1, run1.sr fun k ρ2 k' H2 B2 g2 s2 rel2 run2 => ?_⟩
      cases rel2
      have run2 := RunS.pre s2 run2
      cases k with
      | false =>
        rw [if_neg (by simp)]
        rw [if_neg (by simp)] at run2
        exact run2 σ1 H2 B2 g2 (Go.refl _ _ _ _)
      | true =>
        rw [if_pos rfl]
        rw [if_pos rfl] at run2
        refine ⟨fun σ' H' => ∃ B' ρ', Good G.K H' B' ρ' σ' ∧ RunS G W σ' H' B' ρ' (whN (tst F c') (evSs F n b') m ρ') E, fun σ' H' z => ⟨m, Nat.lt_succ_self m, z⟩, B2, ρ2, g2, ?_⟩
        cases eb : evSs F n b' ρ2 with
        | nx ρ3 => rw [eb] at run2; exact fun σ' H' B' g' s' => ⟨B', ρ3, g', RunS.pre s' run2⟩
        | ct ρ3 => rw [eb] at run2; exact fun σ' H' B' g' s' => ⟨B', ρ3, g', RunS.pre s' run2⟩
        | bk ρ3 => rw [eb] at run2; exact run2
        | rt o d ρ3 => rw [eb] at run2; exact run2
        | ex x ρ3 => rw [eb] at run2; exact run2
        | no => rw [eb] at run2; exact run2
theorem for_unlock {rs : List RV} (g1 : Good G.K H1 B1 ρ1 σ1) (g : Good G.K H B ρ σ) (s : Go H1 B1 (lock ρ1 rs) σ1 H B ρ σ) : Good G.K H B (unlock ρ1 ρ rs) σ ∧ Go H1 B1 ρ1 σ1 H B (unlock ρ1 ρ rs) σ := by
  obtain ⟨gu, hu⟩ := Good.unlock g1 (rs := rs) g s.kb s.st.bold
  have lsub : ∀ a, Ow (lock ρ1 rs) σ1 a → Ow ρ1 σ1 a := fun a ⟨j, z⟩ => ⟨j, (lock_ow z).1⟩
  refine ⟨gu, ⟨⟨fun a o e n => s.st.keep a o e fun z => n (lsub a z), s.st.there, s.st.bnew, fun a z hn => (s.st.bold a z hn).elim .inl fun z => .inr (lsub a z), fun a z => (hu a z).elim (fun z => (s.st.ow a z).elim (fun z => .inl (lsub a z)) .inr) .inl⟩, fun j d h => ?_, fun j d h => ?_⟩⟩
  · obtain ⟨u1, u2⟩ := unlock_at rs ρ1 ρ j
    rcases u1 with u1 | ⟨_, _, _, _, _, u1⟩
    · rw [u1] at h
      obtain ⟨q, qe⟩ := s.kb j d h
      rcases (lock_at rs ρ1 j).1 with l | ⟨m, d', hd, l⟩
      · exact ⟨by rw [← l]; exact q, qe⟩
      · exact absurd (u1.trans h) (u2 m d' d hd)
    · rw [u1] at h; cases h
  · have hl : (lock ρ1 rs)[j]? = some (.io d) := by
      rcases (lock_at rs ρ1 j).1 with l | ⟨_, d', hd, _⟩
      · rw [l]; exact h
      · rw [hd] at h; cases h
    obtain ⟨d', h1, h2⟩ := s.ki j d hl
    refine ⟨d', ?_, h2⟩
    rcases (unlock_at rs ρ1 ρ j).1 with u | ⟨_, _, _, u, _, _⟩
    · rw [u]; exact h1
    · rw [h] at u; cases u
theorem ret_unlock {rs : List RV} {o : Bool} {d : D} {v : V} (g1 : Good G.K H1 B1 ρ1 σ1) (g : Good G.K H B ρ σ) (s : Go H1 B1 (lock ρ1 rs) σ1 H B ρ σ) (hk : ∀ a, H1 a ≠ none → H0 a ≠ none) (h : RetR G.K H0 H B ρ σ o d v) : RetR G.K H1 H B (unlock ρ1 ρ rs) σ o d v := by
  cases o with
  | false => exact h
  | true =>
    obtain ⟨a, e, b, w, z⟩ := h
    refine ⟨a, e, b, w, z.elim (fun z => .inl ⟨fun k => ?_, ?_⟩) fun ⟨j, z1, z2⟩ => .inr ⟨j, ?_, z2⟩⟩
    · have h1 : H1 a = none := by
        cases q : H1 a with
        | none => rfl
        | some o => exact absurd z.2 (hk a (by rw [q]; simp))
      rcases (Good.unlock g1 (rs := rs) g s.kb s.st.bold).2 a k with k | k
      · exact z.1 k
      · obtain ⟨_, ws, e⟩ := g1.owl a k
        rw [h1] at e; cases e
    · cases q : H1 a with
      | none => rfl
      | some o => exact absurd z.2 (hk a (by rw [q]; simp))
    · rcases (unlock_at rs ρ1 ρ j).1 with u | ⟨_, _, _, _, u, _⟩
      · rw [u]; exact z1
      · rw [z1] at u; cases u
theorem p_for {n : Nat} {tg iter : Expr} {body : List Stmt} {t : Tg} {it : It} {b' : Ss} {pos : Pos} (hp : PassesOwn (model X.prog X.w) X.A X.env X.xe) (hc : X.calm = true) (hi : PI X tg iter (TIv G W (evI F it))) (hg : PG X tg (TGv G t)) (hb : PSs X body (TSv G W (evSs F n b')))
    (hs : ∀ x, foldedSetIterable iter X.env x = pure x) : PS X (.For tg iter body [] pos) (TSv G W (evS F n (.for t it b'))) :=
  (ps_for hp hc hi hg hb hs).imp fun E σ H ⟨B, ρ, g, run⟩ => by
    simp only [evS] at run
    refine ⟨B, ρ, g, RunS.sr (R := ItR G σ) run fun p ρ1 J H1 B1 g1 s1 rel1 run1 => ?_⟩
    obtain ⟨items, rs⟩ := p
    have run1 := RunS.pre s1 run1
    obtain ⟨gl, _⟩ := g1.lock rs
    have walk : ∀ H B O', Step H1 B1 (Ow (lock ρ1 rs) σ) H B O' → (∀ i, i < items.length → J.go i H) ∧ J.stop items.length H ∧ ∀ i x H', J.yld i H x H' → i < items.length → ∃ d, items[i]? = some d ∧ ((H' = H ∧ Rep G.K H B d x) ∨ ∃ q ws es, x = .ref q ∧ H q = none ∧ H' = upd H q (.tup ws) ∧ d = .tup es ∧ Reps G.K H B es ws) := by
      obtain ⟨ps, h1, h2⟩ := rel1
      exact fun H B O' st => h2 _ (fun q hq => walk_free g1 (h1 q hq).2) H B O' gl.owl st
    refine ⟨fun i m σ' H' => m = items.length - i ∧ i ≤ items.length ∧ ∃ B' ρ', Good G.K H' B' ρ' σ' ∧ Go H1 B1 (lock ρ1 rs) σ H' B' ρ' σ' ∧ RunS G W σ H1 B1 ρ1 ((forN (fun d ρ => (ofS (asgT ρ t (.val d))).seq (evSs F n b')) (items.drop i) ρ').unl ρ1 rs) E,
      ⟨_, rfl, Nat.zero_le _, B1, _, gl, ⟨(g1.lock rs).2.trans (Step.refl _ _ _) |> fun _ => Step.refl _ _ _, fun _ _ z => ⟨z, rfl⟩, fun _ d z => ⟨d, z, rfl⟩⟩, run1⟩, ?_⟩
    rintro i m σ2 H2 ⟨rfl, hi, B2, ρ2, g2, s2, run2⟩
    obtain ⟨j1, j2, j3⟩ := walk H2 B2 _ s2.st
    by_cases hlt : i < items.length
    · refine .inr ⟨j1 i hlt, fun σ' H' => ∃ B' ρ', Good G.K H' B' ρ' σ' ∧ Go H1 B1 (lock ρ1 rs) σ H' B' ρ' σ' ∧ RunS G W σ H1 B1 ρ1 ((forN (fun d ρ => (ofS (asgT ρ t (.val d))).seq (evSs F n b')) (items.drop (i + 1)) ρ').unl ρ1 rs) E,
        fun σ' H' ⟨B', ρ', z⟩ => ⟨items.length - (i + 1), by omega, rfl, hlt, B', ρ', z⟩, fun x H3 hy => ?_⟩
      obtain ⟨d, hd, hx⟩ := j3 i x H3 hy hlt
      rw [List.getElem?_eq_getElem hlt] at hd
      have ed : items.drop i = items[i] :: items.drop (i + 1) := List.drop_eq_getElem_cons hlt
      cases hd
      rw [ed] at run2
      have go : ∃ B3, Good G.K H3 B3 ρ2 σ2 ∧ Go H2 B2 ρ2 σ2 H3 B3 ρ2 σ2 ∧ Rep G.K H3 B3 items[i] x := by
        rcases hx with ⟨rfl, rx⟩ | ⟨q, ws, es, rfl, hq, rfl, hd, rx⟩
        · exact ⟨B2, g2, Go.refl _ _ _ _, rx⟩
        · have s : Go H2 B2 ρ2 σ2 (upd H2 q (.tup ws)) B2 ρ2 σ2 := Go.of (Step.alloc hq (fun _ z => .inl z) (fun _ z _ => z))
          refine ⟨B2, g2.alloc hq (fun _ z => .inl z) (fun _ z _ => z), s, ?_⟩
          rw [hd]
          simp only [Rep]
          exact ⟨q, ws, rfl, .inl (.inl upd_same), Reps.stab g2.owl s.st rx⟩
      obtain ⟨B3, g3, s3, r3⟩ := go
      simp only [forN] at run2
      cases ea : asgT ρ2 t (.val items[i]) with
      | none => rw [ea] at run2; exact run2.elim
      | some ρ3 =>
        rw [ea] at run2
        simp only [ofS, SR.seq] at run2
        refine ⟨H3, B3, ρ2, B3, ρ2, .val items[i], ρ3, g3, Go.refl _ _ _ _, g3, r3, ea, fun B4 σ4 _ _ g4 s4 => ⟨B4, ρ3, g4, ?_⟩⟩
        have s5 := (s2.trans s3).trans s4
        cases eb : evSs F n b' ρ3 with
        | nx ρ5 =>
          rw [eb] at run2
          exact fun σ' H' B' g' s' => ⟨B', ρ5, g', s5.trans s', run2⟩
        | ct ρ5 =>
          rw [eb] at run2
          exact fun σ' H' B' g' s' => ⟨B', ρ5, g', s5.trans s', run2⟩
        | bk ρ5 =>
          rw [eb] at run2
          intro σ' H' B' g' s'
          obtain ⟨gu, su⟩ := for_unlock g1 g' (s5.trans s')
          exact run2 σ' H' B' gu su
        | rt o d ρ5 =>
          rw [eb] at run2
          intro v σ' H' B' g' s' q
          obtain ⟨gu, su⟩ := for_unlock g1 g' (s5.trans s')
          exact run2 v σ' H' B' gu su (ret_unlock g1 g' (s5.trans s') s5.st.there q)
        | ex x ρ5 =>
          rw [eb] at run2
          intro cls dd σ' H' B' g' s' q
          obtain ⟨gu, su⟩ := for_unlock g1 g' (s5.trans s')
          exact run2 cls dd σ' H' B' gu su q
        | no => rw [eb] at run2; exact run2
    · have e : i = items.length := by omega
      subst e
      rw [List.drop_length] at run2
      obtain ⟨gu, su⟩ := for_unlock g1 g2 s2
      exact .inl ⟨j2, run2 σ2 H2 B2 gu su⟩
end
end G
end

section
set_option Elab.async false
set_option linter.all false
set_option maxRecDepth 100000
set_option maxHeartbeats 4000000
/-! G14b: list(range(..)), tuple(range(..)), the method index. -/
namespace G
open PySem PySem.Spec PyProof.Rows L2
section
variable {G : Pg} {F : Fn} {W : L2.WX} {X : Cx} {a b : Expr} {a' b' : E} {pos : Pos}
theorem rgV_reps {H : Hp} {B : Bs} (lo hi : Int) : Reps G.K H B (rangeD lo (hi - lo).toNat) (rgV lo hi) := by
  have : rangeD lo (hi - lo).toNat = ((List.range (hi - lo).toNat).map fun (k : Nat) => lo + (k : Int)).map D.int := by simp [rangeD, List.map_map, Function.comp_def]
  have e2 : rgV lo hi = ((List.range (hi - lo).toNat).map fun (k : Nat) => lo + (k : Int)).map V.int := by simp [rgV, List.map_map, Function.comp_def]
  rw [this, e2]
  exact ints_back _
theorem rgl_end {σ : L2.St} {H1 : Hp} {B1 : Bs} {ρ1 : Ev} {Q : V → Hp → Prop} {k : Bool} {lo hi : Int} (g : Good G.K H1 B1 ρ1 σ) (run : Run G (RvR G σ) W σ H1 B1 ρ1 (.ok (if k then RV.own (.lst (rangeD lo (hi - lo).toNat)) else RV.val (.tup (rangeD lo (hi - lo).toNat))) ρ1) Q) :
    (k = true → ∀ q, H1 q = none → Q (.ref q) (upd H1 q (.lst (rgV lo hi)))) ∧ (k = false → ∀ q, H1 q = none → Q (.ref q) (upd H1 q (.tup (rgV lo hi)))) := by
  constructor
  · intro e q n
    subst e
    exact Run.newL g run (rgV_reps lo hi) q n
  · intro e q n
    subst e
    exact Run.newT g run (rgV_reps lo hi) q n
theorem rangeB_1 {d : D} {ds : List D} (h : rangeB [d] = some ds) : ∃ n, d = .int n ∧ RgOk 0 n ∧ ds = rangeD 0 (n - 0).toNat := by
  cases d <;> simp only [rangeB] at h <;> try (cases h; done)
  rename_i n
  split at h <;> cases h
  rename_i hh
  simp only [Bool.and_eq_true, decide_eq_true_eq] at hh
  obtain ⟨h1, h2⟩ := inR_of hh.1
  exact ⟨n, rfl, ⟨by omega, by omega, h1, h2, by omega⟩, by rw [Int.sub_zero]⟩
theorem rangeB_2 {c d : D} {ds : List D} (h : rangeB [c, d] = some ds) : ∃ m n, c = .int m ∧ d = .int n ∧ RgOk m n ∧ ds = rangeD m (n - m).toNat := by
  cases c <;> cases d <;> simp only [rangeB] at h <;> try (cases h; done)
  rename_i m n
  split at h <;> cases h
  rename_i hh
  simp only [Bool.and_eq_true, decide_eq_true_eq] at hh
  obtain ⟨h1, h2⟩ := inR_of hh.1.1
  obtain ⟨h3, h4⟩ := inR_of hh.1.2
  exact ⟨m, n, rfl, rfl, ⟨h1, h2, h3, h4, by omega⟩, rfl⟩
theorem rgl_1 {k : Bool} {σ : L2.St} {H : Hp} {Q : V → Hp → Prop} (h : TEv G W (ev F (.rgl k (.cons a' .nil))) σ H Q) :
    tRg1 (TEv G W (ev F a')) σ H fun lo hi H1 => RgOk lo hi ∧ (k = true → ∀ q, H1 q = none → Q (.ref q) (upd H1 q (.lst (rgV lo hi)))) ∧ (k = false → ∀ q, H1 q = none → Q (.ref q) (upd H1 q (.tup (rgV lo hi)))) := by
  obtain ⟨B, ρ, g, run⟩ := h
  simp only [ev, evBs, Res.bind_assoc] at run
  refine ⟨B, ρ, g, run.bind RvR.rb fun ra ρ1 v H1 B1 g1 s1 rel1 run1 => ?_⟩
  have run1 : Run G (RvR G σ) W σ H1 B1 ρ1 (ofO (((forces ρ1 [ra]).bind rangeB).map fun ds => if k then RV.own (.lst ds) else RV.val (.tup ds)) ρ1) Q := run1
  obtain ⟨d, e0, run1⟩ := run1.ofO
  obtain ⟨ds, e1, rfl⟩ := Option.map_eq_some_iff.mp e0
  obtain ⟨fs, e2, e3⟩ := opt_bind_some e1
  simp only [forces] at e2
  obtain ⟨x, e4, e5⟩ := opt_bind_some e2
  cases e5
  obtain ⟨n, rfl, ok, rfl⟩ := rangeB_1 e3
  have hv := force_ok g1 rel1 e4
  have hv : v = .int n := by simpa only [RepB, Rep] using hv
  subst hv
  exact ⟨n, rfl, ok, rgl_end g1 run1⟩
theorem rgl_2 {k : Bool} {σ : L2.St} {H : Hp} {Q : V → Hp → Prop} (h : TEv G W (ev F (.rgl k (.cons a' (.cons b' .nil)))) σ H Q) :
    tRg2 (TEv G W (ev F a')) (TEv G W (ev F b')) σ H fun lo hi H1 => RgOk lo hi ∧ (k = true → ∀ q, H1 q = none → Q (.ref q) (upd H1 q (.lst (rgV lo hi)))) ∧ (k = false → ∀ q, H1 q = none → Q (.ref q) (upd H1 q (.tup (rgV lo hi)))) := by
  obtain ⟨B, ρ, g, run⟩ := h
  simp only [ev, evBs, Res.bind_assoc] at run
  refine ⟨B, ρ, g, run.bind RvR.rb fun ra ρ1 v H1 B1 g1 s1 rel1 run1 => ?_⟩
  refine ⟨B1, ρ1, g1, run1.bind RvR.rb fun rb ρ2 w H2 B2 g2 s2 rel2 run2 => ?_⟩
  have run2 : Run G (RvR G σ) W σ H2 B2 ρ2 (ofO (((forces ρ2 [ra, rb]).bind rangeB).map fun ds => if k then RV.own (.lst ds) else RV.val (.tup ds)) ρ2) Q := run2
  obtain ⟨d, e0, run2⟩ := run2.ofO
  obtain ⟨ds, e1, rfl⟩ := Option.map_eq_some_iff.mp e0
  obtain ⟨fs, e2, e3⟩ := opt_bind_some e1
  simp only [forces] at e2
  obtain ⟨x, e4, e5⟩ := opt_bind_some e2
  obtain ⟨zs, e6, rfl⟩ := Option.map_eq_some_iff.mp e5
  obtain ⟨y, e7, e8⟩ := opt_bind_some e6
  cases e8
  obtain ⟨m, n, rfl, rfl, ok, rfl⟩ := rangeB_2 e3
  have hv := force_ok g2 (RvRel.stab g1.owl s2.st rel1) e4
  have hv : v = .int m := by simpa only [RepB, Rep] using hv
  have hw := force_ok g2 rel2 e7
  have hw : w = .int n := by simpa only [RepB, Rep] using hw
  subst hv hw
  exact ⟨m, n, rfl, rfl, ok, rgl_end g2 run2⟩
theorem s_rgl1 {k : Bool} {f : Str} {p1 p2 p3 : Pos} (hc : X.calm = true) (hf : f = if k then ("list" : Str) else ("tuple" : Str)) (hg : Gl X f) (hm : X.mg f = none) (hg2 : Gl X "range") (hm2 : X.mg "range" = none) (ha : PE X a (TEv G W (ev F a'))) (hs : starEach [a] X.env = (false, eval a X.env) :: starEach [] X.env) :
    PE X (.Call (.Name f p1) [.Call (.Name "range" p2) [a] [] p3] [] pos) (TEv G W (ev F (.rgl k (.cons a' .nil)))) := by
  subst hf
  cases k with
  | true =>
    refine (pe_listRg hc hg hm (prg_1 hg2 hm2 ha hs)).imp fun σ H Q q => ?_
    obtain ⟨B, ρ, g, run⟩ := rgl_1 q
    exact ⟨B, ρ, g, run.imp fun v H1 ⟨n, e, ok, h1, _⟩ => ⟨n, e, ok, h1 rfl⟩⟩
  | false =>
    refine (pe_tupRg hc hg hm (prg_1 hg2 hm2 ha hs)).imp fun σ H Q q => ?_
    obtain ⟨B, ρ, g, run⟩ := rgl_1 q
    exact ⟨B, ρ, g, run.imp fun v H1 ⟨n, e, ok, _, h2⟩ => ⟨n, e, ok, h2 rfl⟩⟩
theorem s_rgl2 {k : Bool} {f : Str} {p1 p2 p3 : Pos} (hc : X.calm = true) (hf : f = if k then ("list" : Str) else ("tuple" : Str)) (hg : Gl X f) (hm : X.mg f = none) (hg2 : Gl X "range") (hm2 : X.mg "range" = none) (ha : PE X a (TEv G W (ev F a'))) (hb : PE X b (TEv G W (ev F b')))
    (hs : starEach [a, b] X.env = (false, eval a X.env) :: starEach [b] X.env) (hs2 : starEach [b] X.env = (false, eval b X.env) :: starEach [] X.env) (hp : (backTo p3 (starEach [b] X.env)).any (·.1) = false) :
    PE X (.Call (.Name f p1) [.Call (.Name "range" p2) [a, b] [] p3] [] pos) (TEv G W (ev F (.rgl k (.cons a' (.cons b' .nil))))) := by
  subst hf
  have go : ∀ {σ H} {R : Int → Int → Hp → Prop} {R' : Int → Int → Hp → Prop}, (∀ i j H, R i j H → R' i j H) → tRg2 (TEv G W (ev F a')) (TEv G W (ev F b')) σ H R → tRg2 (TEv G W (ev F a')) (TEv G W (ev F b')) σ H R' := fun k ⟨B, ρ, g, run⟩ =>
    ⟨B, ρ, g, run.imp fun v H1 ⟨B1, ρ1, g1, run1⟩ => ⟨B1, ρ1, g1, run1.imp fun w H2 ⟨i, j, e1, e2, q⟩ => ⟨i, j, e1, e2, k _ _ _ q⟩⟩⟩
  cases k with
  | true => exact (pe_listRg hc hg hm (prg_2 hg2 hm2 ha hb hs hs2 hp)).imp fun σ H Q q => go (fun i j H1 ⟨ok, h1, _⟩ => ⟨ok, h1 rfl⟩) (rgl_2 q)
  | false => exact (pe_tupRg hc hg hm (prg_2 hg2 hm2 ha hb hs hs2 hp)).imp fun σ H Q q => go (fun i j H1 ⟨ok, _, h2⟩ => ⟨ok, h2 rfl⟩) (rgl_2 q)

/-! ### the method index -/
theorem place_ok {p : D → Bool} : ∀ {ds : List D} {j : Nat}, place p ds = some j → ∃ d, ds[j]? = some d ∧ p d = true ∧ ∀ m d', m < j → ds[m]? = some d' → p d' = false
  | [], _, h => by cases h
  | d :: ds, j, h => by
    unfold place at h
    split at h
    · rename_i e
      cases h
      exact ⟨d, rfl, e, fun m d' hm => absurd hm (Nat.not_lt_zero m)⟩
    · rename_i e
      obtain ⟨i, e1, rfl⟩ := Option.map_eq_some_iff.mp h
      obtain ⟨z, h1, h2, h3⟩ := place_ok e1
      refine ⟨z, by simpa using h1, h2, fun m d' hm hd => ?_⟩
      cases m with
      | zero =>
        simp only [List.getElem?_cons_zero] at hd
        cases hd
        simpa using e
      | succ m => exact h3 m d' (by omega) (by simpa using hd)
theorem pys_at : ∀ {ds : List D} {j : Nat}, (D.pys ds)[j]? = (ds[j]?).map D.py
  | [], j => by simp [D.pys]
  | d :: ds, 0 => by simp [D.pys]
  | d :: ds, j + 1 => by simp only [D.pys, List.getElem?_cons_succ]; exact pys_at
theorem shs_at : ∀ {n : Nat} {ds : List D} {j : Nat} {d : D}, D.shs n ds = true → ds[j]? = some d → D.sh n d = true
  | n, [], j, d, _, h => by simp at h
  | n, e :: ds, 0, d, hs, h => by
    simp only [D.shs, Bool.and_eq_true] at hs
    simp at h
    subst h
    exact hs.1
  | n, e :: ds, j + 1, d, hs, h => by
    simp only [D.shs, Bool.and_eq_true] at hs
    exact shs_at hs.2 (by simpa using h)
theorem strs_at : ∀ {ds : List D} {xs : List Str} {j : Nat}, isStrs ds = some xs → ds[j]? = (xs[j]?).map D.str
  | [], xs, j, h => by cases h; simp
  | d :: ds, xs, j, h => by
    cases d <;> simp only [isStrs] at h <;> try (cases h; done)
    obtain ⟨ys, e, rfl⟩ := Option.map_eq_some_iff.mp h
    cases j with
    | zero => simp
    | succ j => simpa using strs_at e
theorem _root_.L2.PE.or {e : Expr} {t u : L2.TE} (h : PE X e t) (k : PE X e u) : PE X e (fun σ H Q => t σ H Q ∨ u σ H Q) := ⟨fun pins s σ H Q I q => q.elim (h.run pins s σ H Q I) (k.run pins s σ H Q I)⟩
theorem fit_ixL {σ : L2.St} {H : Hp} {B : Bs} {ρ : Ev} {x y d : D} {v w : V} {Q : V → Hp → Prop} (g : Good G.K H B ρ σ) (hx : RepB G.K H B x v) (hy : RepB G.K H B y w) (e : indexD true x y = some d) (run : Run G (RvR G σ) W σ H B ρ (.ok (RV.val d) ρ) Q) : rIndexD G.K v [w] H Q := by
  cases x <;> simp only [indexD] at e <;> try (cases e; done)
  rename_i ds
  split at e <;> try (cases e; done)
  rename_i hs
  simp only [Bool.and_eq_true] at hs
  obtain ⟨j, e1, rfl⟩ := Option.map_eq_some_iff.mp e
  obtain ⟨z, h1, h2, h3⟩ := place_ok e1
  obtain ⟨a, vs, rfl, q, r⟩ := hx
  have hdp : Dp G.K H (.ref a) (.list (D.pys ds)) := .lst (.inl (.inl q)) (reps_dp 60 ds vs hs.2 r)
  have hz := shs_at hs.2 h1
  refine ⟨a, w, y.py, D.pys ds, j, z.py, rfl, rfl, hdp, repB_dp y w hs.1 hy, oks_shaped hs.2, ok_shaped hs.1, by rw [pys_at, h1]; rfl, by rw [eqv_py 60 60 z y hz hs.1]; exact h2, fun m z' hm hz' => ?_, run.val g (by simp [Rep])⟩
  rw [pys_at] at hz'
  obtain ⟨u, hu, rfl⟩ := Option.map_eq_some_iff.mp hz'
  rw [eqv_py 60 60 u y (shs_at hs.2 hu) hs.1]
  exact h3 m u hm hu
theorem fit_ixT {σ : L2.St} {H : Hp} {B : Bs} {ρ : Ev} {x y d : D} {v w : V} {Q : V → Hp → Prop} (hK : X.K = G.K) (g : Good G.K H B ρ σ) (hx : RepB G.K H B x v) (hy : RepB G.K H B y w) (e : indexD false x y = some d) (run : Run G (RvR G σ) W σ H B ρ (.ok (RV.val d) ρ) Q) :
    ∃ p, ∃ ys : List Str, ∃ z j, v = .ref p ∧ [w] = [.str z] ∧ SqT X.K H p (ys.map V.str) ∧ ys[j]? = some z ∧ (∀ m, m < j → ys[m]? ≠ some z) ∧ Q (.int (j : Nat)) H := by
  cases x <;> cases y <;> simp only [indexD] at e <;> try (cases e; done)
  rename_i ds z
  split at e <;> try (cases e; done)
  rename_i hs
  obtain ⟨xs, hxs⟩ := Option.isSome_iff_exists.mp hs
  obtain ⟨j, e1, rfl⟩ := Option.map_eq_some_iff.mp e
  obtain ⟨u, h1, h2, h3⟩ := place_ok e1
  simp only [RepB, Rep] at hx hy
  obtain ⟨a, vs, rfl, q, r⟩ := hx
  subst hy
  rw [strs_reps r hxs] at q
  rw [strs_at hxs] at h1
  obtain ⟨x, hx, rfl⟩ := Option.map_eq_some_iff.mp h1
  have hxz : x = z := by simpa [eqStr] using h2
  subst hxz
  refine ⟨a, xs, x, j, rfl, rfl, by rw [hK]; exact q, hx, fun m hm hz => ?_, run.val g (by simp [Rep])⟩
  have := h3 m (.str x) hm (by rw [strs_at hxs, hz]; rfl)
  simp [eqStr] at this
theorem s_index (hK : X.K = G.K) (hu : X.A.units + 65 < cLine) {apos : Pos} (ha : PE X a (TEv G W (ev F a'))) (hb : PE X b (TEv G W (ev F b'))) (hbase : attributeBase a "index" X.env (eval a X.env) = eval a X.env) (hline : (apos.endLine == pos.line) = true) (hs : starEach [b] X.env = (false, eval b X.env) :: starEach [] X.env) :
    PE X (.Call (.Attribute a "index" apos) [b] [] pos) (TEv G W (ev F (.index a' b'))) := by
  have pa : PA X [b] (TAv G W (evBs F (.cons b' .nil))) := a_cons hb a_nil hs
  refine (pe_bm PySem.F.plainAttrs_list PySem.F.slot_list_index PySem.F.type_list_index (mt_indexD hu) ha pa hbase (by rw [hs]; rfl) hline hs rfl).imp fun σ H Q ⟨B, ρ, g, run⟩ => ?_
  simp only [ev] at run
  refine ⟨B, ρ, g, run.bind RvR.rb fun ra ρ1 v H1 B1 g1 s1 rel1 run1 => ?_⟩
  cases hk1 : (force ρ1 ra).bind kindL with
  | none => rw [hk1] at run1; exact run1.elim
  | some k =>
    rw [hk1] at run1
    obtain ⟨x0, f1, f2⟩ := opt_bind_some hk1
    have hx0 := force_ok g1 rel1 f1
    have run1 : Run G (RvR G σ) W σ H1 B1 ρ1 ((ev F b' ρ1).bind fun s ρ => ofO (((force ρ ra).bind fun x => (force ρ s).bind fun y => indexD true x y).map RV.val) ρ) Q := run1
    refine ⟨?_, B1, ρ1, g1, ?_⟩
    · cases x0 <;> simp only [kindL] at f2 <;> try (cases f2; done)
      obtain ⟨p, vs, rfl, q, _⟩ := hx0
      exact .inl ⟨rfl, vs, .inl (.inl q)⟩
    · simp only [evBs, Res.bind_assoc]
      cases e1 : ev F b' ρ1 with
      | no => rw [e1] at run1; exact run1
      | ex x ρ2 => rw [e1] at run1; exact run1
      | ok rb ρ2 =>
        rw [e1] at run1
        intro ws H2 B2 g2 s2 rel2
        cases rel2 with
        | cons rel2 rel3 =>
          cases rel3
          obtain ⟨d, e2, run2⟩ := Run.ofO (Run.pre RvR.rb s2 run1)
          obtain ⟨d, e3, rfl⟩ := Option.map_eq_some_iff.mp e2
          obtain ⟨x, e4, e5⟩ := opt_bind_some e3
          obtain ⟨y, e6, e7⟩ := opt_bind_some e5
          rw [hK]
          exact fit_ixL g2 (force_ok g2 (RvRel.stab g1.owl s2.st rel1) e4) (force_ok g2 rel2 e6) e7 run2
/-- a constant tuple's -/
theorem s_cix (hK : X.K = G.K) {d : D} {p : Addr} {o : Obj} {apos : Pos} (ha : PE X a (tC (.ref p))) (hr : ∀ H B, Rep G.K H B d (.ref p)) (ho : G.K.lookup p = some o) (hc : o.cls = .type "tuple") (hd : o.dict = none) (hb : PE X b (TEv G W (ev F b'))) (hbase : attributeBase a "index" X.env (eval a X.env) = eval a X.env) (hline : (apos.endLine == pos.line) = true) (hs : starEach [b] X.env = (false, eval b X.env) :: starEach [] X.env) :
    PE X (.Call (.Attribute a "index" apos) [b] [] pos) (TEv G W (ev F (.cix d b'))) := by
  have pa : PA X [b] (TAv G W (evBs F (.cons b' .nil))) := a_cons hb a_nil hs
  refine (pe_bm PySem.F.plainAttrs_tuple PySem.F.slot_tuple_index PySem.F.type_tuple_index mt_tup_index ha pa hbase (by rw [hs]; rfl) hline hs rfl).imp fun σ H Q ⟨B, ρ, g, run⟩ => ?_
  simp only [ev] at run
  refine ⟨.inr (.inl ⟨rfl, o, by rw [hK]; exact ho, hc, hd⟩), B, ρ, g, ?_⟩
  simp only [evBs, Res.bind_assoc]
  cases e1 : ev F b' ρ with
  | no => rw [e1] at run; exact run
  | ex x ρ2 => rw [e1] at run; exact run
  | ok rb ρ2 =>
    rw [e1] at run
    intro ws H2 B2 g2 s2 rel2
    cases rel2 with
    | cons rel2 rel3 =>
      cases rel3
      obtain ⟨e, e2, run2⟩ := Run.ofO (Run.pre RvR.rb s2 run)
      obtain ⟨e, e3, rfl⟩ := Option.map_eq_some_iff.mp e2
      obtain ⟨y, e6, e7⟩ := opt_bind_some e3
      exact fit_ixT hK g2 (Rep.toB (hr H2 B2)) (force_ok g2 rel2 e6) e7 run2
end
end G
end

section
set_option Elab.async false
set_option linter.all false
set_option maxRecDepth 100000
set_option maxHeartbeats 4000000
/-! G15: from the program's expressions to the small language. -/
namespace G
open PySem PySem.Spec PyProof.Rows L2

/-- what a text's names mean -/
structure TC where
  N : List Str
  sc : Scope
  fns : Str → Bool
  free : Str → Bool
  con : Str → Option D
  fs : Str → Option (Nat × List Bool)
  dic : Str → Option (List (Str × D))
def TC.blk (C : TC) (scope : Scope) : TC := { C with sc := relS scope C.sc, fns := fun x => scope.names.lookup x == some .cell }
def ixOf : List Str → Str → Option Nat
  | [], _ => none
  | y :: r, x => if x = y then some 0 else (ixOf r x).map (· + 1)
theorem ixOf_ok : ∀ {N : List Str} {x : Str} {i : Nat}, ixOf N x = some i → N[i]? = some x
  | [], _, _, h => by cases h
  | y :: r, x, i, h => by
    unfold ixOf at h
    split at h
    · rename_i e
      cases h
      simp [e]
    · obtain ⟨j, e, rfl⟩ := Option.map_eq_some_iff.mp h
      simpa using ixOf_ok e
def visB (sc : Scope) (x : Str) : Bool := match sc.names.lookup x with
  | some .local => true
  | some .cell => true
  | some .free => true
  | _ => false
def locB (sc : Scope) (x : Str) : Bool := match sc.names.lookup x with
  | some .local => true
  | some .cell => true
  | _ => false
def isLoc (sc : Scope) (x : Str) : Bool := match sc.names.lookup x with
  | some .local => true
  | _ => false
def glB (sc : Scope) (x : Str) : Bool := match sc.names.lookup x with
  | some .globalImplicit => true
  | _ => false
def okN (x : Str) : Bool := !(x == ("__debug__" : Str)) && !(x == ("__classdict__" : Str))
theorem visB_ok {sc : Scope} {x : Str} (h : visB sc x = true) : Vis sc x := by
  unfold visB at h
  split at h
  · exact .inl (by assumption)
  · exact .inr (.inl (by assumption))
  · exact .inr (.inr (by assumption))
  · cases h
theorem locB_ok {sc : Scope} {x : Str} (h : locB sc x = true) : Loc sc x := by
  unfold locB at h
  split at h
  · exact .inl (by assumption)
  · exact .inr (by assumption)
  · cases h
theorem isLoc_ok {sc : Scope} {x : Str} (h : isLoc sc x = true) : sc.names.lookup x = some .local := by
  unfold isLoc at h
  split at h
  · assumption
  · cases h
theorem glB_ok {sc : Scope} {x : Str} (h : glB sc x = true) : sc.names.lookup x = some .globalImplicit := by
  unfold glB at h
  split at h
  · assumption
  · cases h
theorem okN_ok {x : Str} (h : okN x = true) : (x == ("__debug__" : Str)) = false ∧ (x == ("__classdict__" : Str)) = false := by
  unfold okN at h
  simp only [Bool.and_eq_true, Bool.not_eq_true'] at h
  exact h
def noStar : Expr → Bool
  | .Starred .. => false
  | _ => true
theorem star_ok {a : Expr} {es : List Expr} {env : Env} (h : noStar a = true) : starEach (a :: es) env = (false, eval a env) :: starEach es env := by
  cases a <;> first | rfl | cases h
theorem star_all : ∀ {es : List Expr} {env : Env}, es.all noStar = true → starEach es env = es.map fun e => (false, eval e env)
  | [], _, _ => rfl
  | a :: es, env, h => by
    simp only [List.all_cons, Bool.and_eq_true] at h
    rw [star_ok h.1, star_all h.2]
    rfl
theorem star_any {es : List Expr} {env : Env} {pos : Pos} (h : es.all noStar = true) : (backTo pos (starEach es env)).any (·.1) = false := by
  rw [star_all h]
  simp [backTo]
def special : Expr → Bool
  | .UnaryOp .Not _ _ => true
  | .BoolOp .. => true
  | .IfExp .. => true
  | .Compare .. => true
  | _ => false
theorem plain_test {e : Expr} {env : Env} (h : special e = false) : ∀ whole, isTrue e env whole = (do let v ← whole; standAt e.pos; holding [v] (truthy v)) := by
  intro whole
  cases e <;> first
    | rfl
    | (cases h; done)
    | (rename_i op a p; cases op <;> first | rfl | (cases h; done))

/-! ### the translation -/
def mkEs (t : Expr → E) : List Expr → Es
  | [] => .nil
  | e :: es => .cons (t e) (mkEs t es)
def mkB (t : Expr → E) (op : BoolOp) : List Expr → E
  | [] => .nvr
  | [a] => t a
  | a :: b :: r => match op with
    | .And => .and (t a) (mkB t op (b :: r))
    | .Or => .or (t a) (mkB t op (b :: r))
def isNon : Expr → Bool
  | .Constant .none _ _ => true
  | _ => false
def trCmp1 (t : Expr → E) (a : Expr) (op : CmpOp) (b : Expr) : E := match cOp op with
  | some o => if behindInMarks op b then .nvr else .bin o (t a) (t b)
  | none => .nvr
def trCmp (t : Expr → E) (a : Expr) : List CmpOp → List Expr → E
  | [op], [b] => if isNon b then (match op with
      | .Is => .un .isN (t a)
      | .IsNot => .un .notN (t a)
      | op => trCmp1 t a op b) else trCmp1 t a op b
  | [op, op'], [b, c] => match cOp op, cOp op' with
    | some o, some p => if lastMarks [op, op'] [b, c] then .nvr else .chn o p (t a) (t b) (t c)
    | _, _ => .nvr
  | _, _ => .nvr
def isiOf (C : TC) (t : Expr → E) : List Expr → Option E
  | [a, .Name ty _] => match isOf ty with
    | some (p, _) => if C.free "isinstance" && C.free ty && glB C.sc ty && noStar a then some (.prim p (.cons (t a) .nil)) else none
    | none => none
  | _ => none
/-- list(range(..)), tuple(range(..)) -/
def rglOf (C : TC) (t : Expr → E) (f : Str) : List Expr → Option E
  | [.Call (.Name r _) as [] _] => if r = ("range" : Str) && C.free "range" && glB C.sc "range" && C.free f && as.all noStar then (match as with
      | [a] => if f = ("list" : Str) then some (.rgl true (.cons (t a) .nil)) else if f = ("tuple" : Str) then some (.rgl false (.cons (t a) .nil)) else none
      | [a, b] => if f = ("list" : Str) then some (.rgl true (.cons (t a) (.cons (t b) .nil))) else if f = ("tuple" : Str) then some (.rgl false (.cons (t a) (.cons (t b) .nil))) else none
      | _ => none) else none
  | _ => none
def trFn (C : TC) (t : Expr → E) (f : Str) (args : List Expr) : E :=
  if args.all noStar && okN f && glB C.sc f then match C.fs f with
    | some (k, io) => if args.isEmpty then .nvr else .call k io (mkEs t args)
    | none => if f = ("isinstance" : Str) then (match isiOf C t args with
        | some e => e
        | none => .nvr)
      else match rglOf C t f args with
        | some e => e
        | none => match prOf f args.length with
          | some (p, _) => if C.free f && !args.isEmpty then .prim p (mkEs t args) else .nvr
          | none => .nvr
  else .nvr
/-- the receiver of index -/
def isSup : Expr → Bool
  | .Call .. => true
  | _ => false
def trIx (C : TC) (t : Expr → E) (o : Expr) (b : Expr) : E := match o with
  | .Name x _ => if okN x && glB C.sc x && !visB C.sc x then (match C.con x with
      | some (.tup ds) => .cix (.tup ds) (t b)
      | _ => .nvr) else .index (t o) (t b)
  | o => .index (t o) (t b)
def trMut (C : TC) (t : Expr → E) (pos : Pos) (args : List Expr) (o : Expr) (m : Str) (apos : Pos) : E := match o with
  | .Name x _ => if okN x && visB C.sc x && args.all noStar && (apos.endLine == pos.line) then (match ixOf C.N x, muOf m args.length with
      | some i, some mu => .mut mu i (mkEs t args)
      | _, _ => .nvr) else .nvr
  | _ => .nvr
def trCall (C : TC) (t : Expr → E) (pos : Pos) (args : List Expr) : Expr → E
  | .Name f _ => trFn C t f args
  | .Attribute o m apos => if m = ("index" : Str) then (match args with
      | [b] => if noStar b && (apos.endLine == pos.line) && !isSup o then trIx C t o b else .nvr
      | _ => .nvr) else trMut C t pos args o m apos
  | _ => .nvr
def isTup : Expr → Bool
  | .Tuple .. => true
  | _ => false
def isSet : Expr → Bool
  | .Set .. => true
  | _ => false
def trI (C : TC) (t : Expr → E) (tg : Expr) (iter : Expr) : It := match iter with
  | .Call (.Name f _) [a] [] _ =>
    if f = ("range" : Str) && C.free "range" && glB C.sc f && noStar a then .rng (.cons (t a) .nil)
    else if f = ("enumerate" : Str) && C.free "enumerate" && glB C.sc f && noStar a && isTup tg then .enum (t a)
    else .val (t iter)
  | .Call (.Name f _) [a, b] [] _ =>
    if f = ("range" : Str) && C.free "range" && glB C.sc f && noStar a && noStar b then .rng (.cons (t a) (.cons (t b) .nil))
    else if f = ("zip" : Str) && C.free "zip" && glB C.sc f && noStar a && noStar b && isTup tg then .zip (t a) (t b)
    else .val (t iter)
  | .Call (.Name f _) [a, b, c] [] _ =>
    if f = ("range" : Str) && C.free "range" && glB C.sc f && noStar a && noStar b && noStar c then .rng (.cons (t a) (.cons (t b) (.cons (t c) .nil)))
    else .val (t iter)
  | e => .val (t e)
def nmIx (C : TC) (x : Str) : Option Nat := if locB C.sc x && (C.fns x || isLoc C.sc x) then ixOf C.N x else none
def nmsIx (C : TC) : List Expr → Option (List Nat)
  | [] => some []
  | .Name x _ :: es => match nmIx C x, nmsIx C es with
    | some i, some is => some (i :: is)
    | _, _ => none
  | _ => none
def trT (C : TC) : Expr → Option Tg
  | .Name x _ => (nmIx C x).map .nm
  | .Tuple es _ _ => (nmsIx C es).map .tp
  | _ => none
def ownOf (N : List Str) (scope : Scope) : List (Str × Nat) := scope.names.filterMap fun p => match p.2 with
  | .local => (ixOf N p.1).map fun i => (p.1, i)
  | .cell => (ixOf N p.1).map fun i => (p.1, i)
  | _ => none
def trIfs (t : Expr → E) : List Expr → Option E
  | [] => some (.con (.bl true))
  | [c] => some (t c)
  | _ => none
def subB (is vs : List Nat) : Bool := is.all fun i => vs.contains i
/-- the clauses of a list comprehension -/
def trComp (C : TC) (t : Expr → E) (b : Expr → E) (scope : Scope) (elt : Expr) : List Comprehension → E
  | [⟨tg, iter, ifs, 0⟩] =>
    match trT (C.blk scope) tg, trIfs b ifs with
    | some tt, some c => if blkC C.N C.sc scope (ownOf C.N scope) && subB tt.ids ((ownOf C.N scope).map (·.2)) && !isSet iter then .comp ((ownOf C.N scope).map (·.2)) tt (trI C t tg iter) c (.yld (b elt)) else .nvr
    | _, _ => .nvr
  | [⟨tg, iter, ifs, 0⟩, ⟨tg1, iter1, ifs1, 0⟩] =>
    match trT (C.blk scope) tg, trIfs b ifs, trT (C.blk scope) tg1, trIfs b ifs1 with
    | some tt, some c, some tt1, some c1 => if blkC C.N C.sc scope (ownOf C.N scope) && subB tt.ids ((ownOf C.N scope).map (·.2)) && subB tt1.ids ((ownOf C.N scope).map (·.2)) && !isSet iter && !isSet iter1 then .comp ((ownOf C.N scope).map (·.2)) tt (trI C t tg iter) c (.fr tt1.ids tt1 (trI (C.blk scope) b tg1 iter1) c1 (b elt)) else .nvr
    | _, _, _, _ => .nvr
  | _ => .nvr
def trOpt (t : Expr → E) : Option Expr → E
  | none => .con .non
  | some e => t e
/-- a dict of the module: is a key in it, what stands there -/
def dicOf (C : TC) : Expr → Option (List (Str × D))
  | .Name y _ => if okN y && glB C.sc y then C.dic y else none
  | _ => none
def dicIn (C : TC) : List CmpOp → List Expr → Option (Bool × List (Str × D))
  | [op], [y] => match op with
    | .In => (dicOf C y).map fun k => (false, k)
    | .NotIn => (dicOf C y).map fun k => (true, k)
    | _ => none
  | _, _ => none
def trE (C : TC) (t : Expr → E) (b : Scope → Expr → E) : Expr → E
  | .Name x _ => if okN x then (if visB C.sc x then (match ixOf C.N x with
      | some i => .var i
      | none => .nvr) else if glB C.sc x then (match C.con x with
      | some d => .con d
      | none => .nvr) else .nvr) else .nvr
  | .Constant c _ _ => match c with
    | .int i => .con (.int i)
    | .bool k => .con (.bl k)
    | .none => .con .non
    | .str x => .con (.str x)
    | _ => .nvr
  | .BinOp x op y _ => match bOp op with
    | some o => .bin o (t x) (t y)
    | none => .nvr
  | .UnaryOp op x _ => match op with
    | .USub => .un .neg (t x)
    | .Not => .not (t x)
    | _ => .nvr
  | .BoolOp op es _ => mkB t op es
  | .Compare x ops ys _ => match dicIn C ops ys with
    | some (neg, kvs) => .kin neg kvs (t x)
    | none => trCmp t x ops ys
  | .IfExp c x y _ => .ite (t c) (t x) (t y)
  | .Subscript x i _ => match i with
    | .Slice lo hi st _ => match st with
      | none => .sli lo.isSome hi.isSome (t x) (trOpt t lo) (trOpt t hi)
      | some _ => .nvr
    | i => match dicOf C x with
      | some kvs => .kix kvs (t i)
      | none => .idx (t x) (t i)
  | .Tuple es _ _ => if es.all noStar && decide (es.length ≤ 10000) then .tup (mkEs t es) else .nvr
  | .List es _ => if es.all noStar && decide (es.length ≤ 10000) then .lst (mkEs t es) else .nvr
  | .Call f args ks pos => if ks.isEmpty then trCall C t pos args f else .nvr
  | .ListComp elt gs scope _ => trComp C t (b scope) scope elt gs
  | _ => .nvr
def tr : Nat → TC → Expr → E
  | 0, _, _ => .nvr
  | n + 1, C, e => trE C (tr n C) (fun sc => tr n (C.blk sc)) e

/-! ### what a context grants -/
structure ConOk (G : Pg) (x : Str) (d : D) : Prop where
  ex : ∃ v, (∀ (X : Cx) (pos : Pos), X.mg = G.mg → Gl X x → (x == ("__debug__" : Str)) = false → PE X (.Name x pos) (tC v)) ∧ (∀ H B, Rep G.K H B d v) ∧
    ∀ ds, d = .tup ds → ∃ p o, v = .ref p ∧ G.K.lookup p = some o ∧ o.cls = .type "tuple" ∧ o.dict = none
theorem ConOk.pe {G : Pg} {x : Str} {d : D} (c : ConOk G x d) (X : Cx) (W : L2.WX) (F : Fn) (pos : Pos) (hm : X.mg = G.mg) (hg : Gl X x) (hd : (x == ("__debug__" : Str)) = false) : PE X (.Name x pos) (TEv G W (ev F (.con d))) := by
  obtain ⟨v, h, r, _⟩ := c.ex
  exact s_con (h X pos hm hg hd) r
/-- a dict of the module -/
structure DicOk (G : Pg) (w : World) (x : Str) (kvs : List (Str × D)) : Prop where
  ex : ∃ a es n, G.mg x = some (.ref a) ∧ KDict G.K w a es n ∧ ∀ z, (∀ d, kvs.lookup z = some d → ∃ u v, PySem.W.nsIn G.K a z = some (some u) ∧ RelV v u ∧ ∀ H B, Rep G.K H B d v) ∧ (kvs.lookup z = none → PySem.W.nsIn G.K a z = some none)
structure CE (G : Pg) (F : Fn) (W : L2.WX) (C : TC) (X : Cx) : Prop where
  K : X.K = G.K
  mg : X.mg = G.mg
  N : X.N = C.N
  sc : X.env.scope = C.sc
  nd : C.N.Nodup
  calm : X.calm = true
  u : X.A.units + 65 < cLine
  fn : ∀ x, C.fns x = true → X.fn x = true
  tk : Takes X W
  free : ∀ x, C.free x = true → G.mg x = none
  con : ∀ x d, C.con x = some d → ConOk G x d
  fs : ∀ x f io, C.fs x = some (f, io) → CallOk G F X f x
  dic : ∀ x kvs, C.dic x = some kvs → DicOk G X.w x kvs
section
variable {G : Pg} {F : Fn} {W : L2.WX} {C : TC} {X : Cx} {t : Expr → E}
theorem CE.blk (c : CE G F W C X) (s : Shared) (H : Hp) (scope : Scope) (cl : List (Str × Addr)) (A : Addr) (fp : List Addr) : CE G F WN (C.blk scope) (X.blk s H scope (compEnvC scope cl A X.env) fp) where
  K := c.K
  mg := c.mg
  N := c.N
  sc := by
    show relS scope X.env.scope = relS scope C.sc
    rw [c.sc]
  nd := c.nd
  calm := c.calm
  u := c.u
  fn := fun x h => h
  tk := fun u s' ⟨a, B, sI, pins, σ, H, cls, d, e, I, nb, up, sky, na, os, ag, w⟩ => w.elim
  free := c.free
  con := c.con
  fs := fun x f io h => ⟨(c.fs x f io h).ex⟩
  dic := c.dic
theorem CE.gl (c : CE G F W C X) {x : Str} (h : glB C.sc x = true) : Gl X x := by
  show X.env.scope.names.lookup x = _
  rw [c.sc]
  exact glB_ok h
theorem CE.fr (c : CE G F W C X) {x : Str} (h : C.free x = true) : X.mg x = none := by
  rw [c.mg]
  exact c.free x h
theorem CE.vis (c : CE G F W C X) {x : Str} (h : visB C.sc x = true) : Vis X.env.scope x := by
  rw [c.sc]
  exact visB_ok h
theorem CE.nm (c : CE G F W C X) {x : Str} {i : Nat} (h : nmIx C x = some i) : NmOk X i x := by
  unfold nmIx at h
  split at h <;> try (cases h; done)
  rename_i hl
  simp only [Bool.and_eq_true, Bool.or_eq_true] at hl
  refine ⟨by rw [c.N]; exact ixOf_ok h, by rw [c.sc]; exact locB_ok hl.1, hl.2.imp (c.fn x) fun z => ?_⟩
  rw [c.sc]
  exact isLoc_ok z
theorem CE.nms (c : CE G F W C X) : ∀ {es : List Expr} {is : List Nat}, nmsIx C es = some is → NmsOk X is es
  | [], is, h => by cases h; exact .nil
  | e :: es, is, h => by
    cases e <;> simp only [nmsIx] at h <;> try (cases h; done)
    split at h <;> try (cases h; done)
    rename_i i is' h1 h2
    cases h
    exact .cons (c.nm h1) (CE.nms c h2)
theorem CE.tgt (c : CE G F W C X) {tg : Expr} {tt : Tg} (h : trT C tg = some tt) : PG X tg (TGv G tt) := by
  have hN : X.N.Nodup := by rw [c.N]; exact c.nd
  cases tg <;> simp only [trT] at h <;> try (cases h; done)
  · obtain ⟨is, h1, rfl⟩ := Option.map_eq_some_iff.mp h
    exact g_nm hN (c.nm h1)
  · obtain ⟨is, h1, rfl⟩ := Option.map_eq_some_iff.mp h
    exact g_tp c.K c.calm hN (c.nms h1)

/-! ### it is right -/
theorem e_nvr {e : Expr} : PE X e (TEv G W (ev F .nvr)) := ⟨fun pins s σ H Q I ⟨B, ρ, g, run⟩ => by
  simp only [ev] at run
  exact run.elim⟩
theorem t_nvr {e : Expr} : PT X e (TTv G W (tst F .nvr)) := ⟨fun pins s σ H Q I ⟨B, ρ, g, run⟩ => by
  simp only [tst, ev] at run
  exact run.elim⟩
structure Ts (G : Pg) (F : Fn) (W : L2.WX) (X : Cx) (t : Expr → E) : Prop where
  e : ∀ e, PE X e (TEv G W (ev F (t e)))
  s : ∀ (elt : Expr) (gs : List Comprehension) (scope : Scope) (pos : Pos) (n : Nat) {i : Nat} {y : Str} {py spos : Pos}, X.N[i]? = some y → X.env.scope.names.lookup y = some .local → swapsWith (.ListComp elt gs scope pos) (some (.Name y py)) spos.line X.env = pure true →
    PS X (.Assign [.Name y py] (.ListComp elt gs scope pos) spos) (TSv G W (evS F n (.asg (.nm i) (t (.ListComp elt gs scope pos)))))
  t : ∀ e, PT X e (TTv G W (tst F (t e)))
theorem mk_len (t : Expr → E) : ∀ es : List Expr, (mkEs t es).len = es.length
  | [] => rfl
  | e :: es => by simp [mkEs, Es.len, mk_len t es]
theorem Ts.d (h : Ts G F W X t) : ∀ {es : List Expr}, es.all noStar = true → PA X es (TDv G W (evTs F (mkEs t es)))
  | [], _ => d_nil
  | a :: es, hs => by
    simp only [List.all_cons, Bool.and_eq_true] at hs
    exact d_cons (h.e a) (h.d hs.2) (star_ok hs.1)
theorem Ts.p (h : Ts G F W X t) : ∀ {es : List Expr}, es.all noStar = true → PA X es (TPv G W (evPs F (mkEs t es)))
  | [], _ => q_nil
  | a :: es, hs => by
    simp only [List.all_cons, Bool.and_eq_true] at hs
    exact q_cons (h.e a) (h.p hs.2) (star_ok hs.1)
theorem Ts.a (h : Ts G F W X t) : ∀ {es : List Expr}, es.all noStar = true → PA X es (TAv G W (evBs F (mkEs t es)))
  | [], _ => a_nil
  | a :: es, hs => by
    simp only [List.all_cons, Bool.and_eq_true] at hs
    exact a_cons (h.e a) (h.a hs.2) (star_ok hs.1)
theorem Ts.c (h : Ts G F W X t) : ∀ {es : List Expr}, es.all noStar = true → PA X es (TAv G W (evCs F (mkEs t es)))
  | [], _ => c_nil
  | a :: es, hs => by
    simp only [List.all_cons, Bool.and_eq_true] at hs
    exact c_cons (h.e a) (h.c hs.2) (star_ok hs.1)
theorem pe_one {op : BoolOp} {a : Expr} {pos : Pos} {te : L2.TE} (h : PE X a te) : PE X (.BoolOp op [a] pos) te := ⟨fun pins s σ H Q I q => h.run pins s σ H Q I q⟩
theorem Ts.b (h : Ts G F W X t) (c : CE G F W C X) {op : BoolOp} {pos : Pos} : ∀ es : List Expr, PE X (.BoolOp op es pos) (TEv G W (ev F (mkB t op es)))
  | [] => e_nvr
  | [a] => pe_one (h.e a)
  | a :: b :: r => by
    cases op with
    | And => exact s_and c.K (h.e a) (h.b c (b :: r))
    | Or => exact s_or c.K (h.e a) (h.b c (b :: r))
theorem Ts.w (h : Ts G F W X t) (c : CE G F W C X) {op : BoolOp} {pos : Pos} : ∀ es : List Expr, es ≠ [] → PW X (.BoolOp op es pos) (TTv G W (tst F (mkB t op es)))
  | [], hn => absurd rfl hn
  | [a], _ => by
    cases op with
    | And => exact pw_and1 (h.t a)
    | Or => exact pw_or1 (h.t a)
  | a :: b :: r, _ => by
    cases op with
    | And => exact w_and (h.t a) (h.w c (b :: r) (by simp))
    | Or => exact w_or (h.t a) (h.w c (b :: r) (by simp))
theorem isN_key {a' : E} {neg : Bool} {σ : L2.St} {H : Hp} {Q : V → Hp → Prop} (q : TEv G W (ev F (.un (if neg then .notN else .isN) a')) σ H Q) : TEv G W (ev F a') σ H fun x H1 => Q (.bl (if neg then !decide (x = .non) else decide (x = .non))) H1 := by
  obtain ⟨B, ρ, g, run⟩ := q
  simp only [ev] at run
  refine ⟨B, ρ, g, run.bind RvR.rb fun ra ρ1 v H1 B1 g1 s1 rel1 run1 => ?_⟩
  obtain ⟨d, e, run1⟩ := run1.ofO
  obtain ⟨d, e', rfl⟩ := Option.map_eq_some_iff.mp e
  obtain ⟨x, e1, e⟩ := opt_bind_some e'
  have hx := force_ok g1 rel1 e1
  have fin : ∀ k, d = .bl k → Q (.bl k) H1 := fun k e => by subst e; exact run1.flat g1 rfl (by simp [Rep])
  cases x with
  | non =>
    have : v = .non := by simpa only [RepB, Rep] using hx
    subst this
    cases neg <;> (cases e; exact fin _ rfl)
  | bl k =>
    have : v = .bl k := by simpa only [RepB, Rep] using hx
    subst this
    cases neg <;> (cases e; exact fin _ rfl)
  | int k =>
    have : v = .int k := by simpa only [RepB, Rep] using hx
    subst this
    cases neg <;> (cases e; exact fin _ rfl)
  | str k =>
    have : v = .str k := by simpa only [RepB, Rep] using hx
    subst this
    cases neg <;> (cases e; exact fin _ rfl)
  | tup ds =>
    simp only [RepB, Rep] at hx
    obtain ⟨p, vs, rfl, _⟩ := hx
    cases neg <;> (cases e; exact fin _ rfl)
  | lst ds =>
    obtain ⟨p, vs, rfl, _⟩ := hx
    cases neg <;> (cases e; exact fin _ rfl)
  | frl ds =>
    simp only [RepB, Rep] at hx
    obtain ⟨p, vs, rfl, _⟩ := hx
    cases neg <;> (cases e; exact fin _ rfl)
theorem t_isN {a : Expr} {a' : E} {j p2 pos} {neg : Bool} (ha : PE X a (TEv G W (ev F a'))) : PT X (.Compare a [if neg then .IsNot else .Is] [.Constant .none j p2] pos) (TTv G W (tst F (.un (if neg then .notN else .isN) a'))) := by
  have key : ∀ σ H Q, TTv G W (tst F (.un (if neg then .notN else .isN) a')) σ H Q → TEv G W (ev F a') σ H fun x H1 => ∃ d, V.bl (if neg then !decide (x = .non) else decide (x = .non)) = .bl d ∧ Q d H1 := by
    rintro σ H Q ⟨B, ρ, g, run⟩
    refine isN_key (neg := neg) ⟨B, ρ, g, bool_test (fun rv ρ' e => ?_) run⟩
    simp only [ev] at e
    obtain ⟨r1, ρ1, _, e⟩ := res_bind_ok e
    obtain ⟨e, _⟩ := ofO_ok e
    obtain ⟨d, e', rfl⟩ := Option.map_eq_some_iff.mp e
    obtain ⟨x, _, e2⟩ := opt_bind_some e'
    cases neg <;> cases x <;> (cases e2; exact ⟨_, rfl⟩)
  cases neg with
  | false => exact (pt_cmp (pc_isN ha) rfl).imp key
  | true => exact (pt_cmp (pc_notN ha) rfl).imp key
theorem isNon_ok {b : Expr} (h : isNon b = true) : ∃ j p, b = .Constant .none j p := by
  cases b <;> try (cases h; done)
  rename_i c j p
  cases c <;> first | exact ⟨j, p, rfl⟩ | (cases h; done)
theorem cmp1_e (c : CE G F W C X) (h : Ts G F W X t) {a b : Expr} {op : CmpOp} {pos : Pos} : PE X (.Compare a [op] [b] pos) (TEv G W (ev F (trCmp1 t a op b))) ∧ PT X (.Compare a [op] [b] pos) (TTv G W (tst F (trCmp1 t a op b))) := by
  unfold trCmp1
  split
  · rename_i o e
    split
    · exact ⟨e_nvr, t_nvr⟩
    · rename_i hm
      exact ⟨s_cmp c.K c.u e (by simpa using hm) (h.e a) (h.e b), t_cmp c.K c.u e (by simpa using hm) (h.e a) (h.e b)⟩
  · exact ⟨e_nvr, t_nvr⟩
theorem cmp_e (c : CE G F W C X) (h : Ts G F W X t) {a : Expr} {ops : List CmpOp} {ys : List Expr} {pos : Pos} : PE X (.Compare a ops ys pos) (TEv G W (ev F (trCmp t a ops ys))) ∧ PT X (.Compare a ops ys pos) (TTv G W (tst F (trCmp t a ops ys))) := by
  unfold trCmp
  split
  · split
    · rename_i hb
      obtain ⟨j, p, rfl⟩ := isNon_ok hb
      split
      · exact ⟨s_isN (neg := false) (h.e a), t_isN (neg := false) (h.e a)⟩
      · exact ⟨s_isN (neg := true) (h.e a), t_isN (neg := true) (h.e a)⟩
      · exact cmp1_e c h
    · exact cmp1_e c h
  · split
    · rename_i o p e1 e2
      split
      · exact ⟨e_nvr, t_nvr⟩
      · rename_i hm
        exact ⟨s_chn c.K c.u e1 e2 (by simpa using hm) (h.e a) (h.e _) (h.e _), t_chn c.K c.u e1 e2 (by simpa using hm) (h.e a) (h.e _) (h.e _)⟩
    · exact ⟨e_nvr, t_nvr⟩
  · exact ⟨e_nvr, t_nvr⟩
theorem isi_ok (c : CE G F W C X) (h : Ts G F W X t) {args : List Expr} {e : E} {pp pos : Pos} (hg : glB C.sc "isinstance" = true) (he : isiOf C t args = some e) : PE X (.Call (.Name "isinstance" pp) args [] pos) (TEv G W (ev F e)) := by
  unfold isiOf at he
  split at he <;> try (cases he; done)
  split at he <;> try (cases he; done)
  split at he <;> try (cases he; done)
  rename_i p T e1 e2
  cases he
  simp only [Bool.and_eq_true] at e2
  exact s_isi c.K e1 (c.gl hg) (c.fr e2.1.1.1) (c.gl e2.1.2) (c.fr e2.1.1.2) (h.e _) (by rw [star_ok e2.2]; rfl) rfl
theorem rgl_ok (c : CE G F W C X) (h : Ts G F W X t) {f : Str} {args : List Expr} {e : E} {pp pos : Pos} (hg : glB C.sc f = true) (he : rglOf C t f args = some e) : PE X (.Call (.Name f pp) args [] pos) (TEv G W (ev F e)) := by
  unfold rglOf at he
  split at he <;> try (cases he; done)
  split at he <;> try (cases he; done)
  rename_i hh
  simp only [Bool.and_eq_true, decide_eq_true_eq] at hh
  obtain ⟨⟨⟨⟨rfl, h2⟩, h3⟩, h4⟩, h5⟩ := hh
  split at he
  · rename_i a
    have h5 : noStar a = true := by simpa using h5
    split at he
    · rename_i e1
      cases he
      exact s_rgl1 (k := true) c.calm e1 (c.gl hg) (c.fr h4) (c.gl h3) (c.fr h2) (h.e a) (star_ok h5)
    · split at he
      · rename_i e1
        cases he
        exact s_rgl1 (k := false) c.calm e1 (c.gl hg) (c.fr h4) (c.gl h3) (c.fr h2) (h.e a) (star_ok h5)
      · cases he
  · rename_i a b
    have h5 : noStar a = true ∧ noStar b = true := by simpa using h5
    split at he
    · rename_i e1
      cases he
      exact s_rgl2 (k := true) c.calm e1 (c.gl hg) (c.fr h4) (c.gl h3) (c.fr h2) (h.e a) (h.e b) (star_ok h5.1) (star_ok h5.2) (star_any (by simp [h5.2]))
    · split at he
      · rename_i e1
        cases he
        exact s_rgl2 (k := false) c.calm e1 (c.gl hg) (c.fr h4) (c.gl h3) (c.fr h2) (h.e a) (h.e b) (star_ok h5.1) (star_ok h5.2) (star_any (by simp [h5.2]))
      · cases he
  · cases he
theorem fn_e (c : CE G F W C X) (h : Ts G F W X t) {f : Str} {args : List Expr} {pp pos : Pos} : PE X (.Call (.Name f pp) args [] pos) (TEv G W (ev F (trFn C t f args))) := by
  unfold trFn
  split
  · rename_i hh
    simp only [Bool.and_eq_true] at hh
    obtain ⟨⟨h1, h2⟩, h3⟩ := hh
    split
    · rename_i k io hf
      cases args with
      | nil => exact e_nvr
      | cons a es =>
        have h1' := h1
        simp only [List.all_cons, Bool.and_eq_true] at h1'
        exact s_call c.tk (c.fs f k io hf) (c.gl h3) (okN_ok h2).1 (h.c h1) (star_ok h1'.1) (star_any h1'.2)
    · split
      · rename_i hi
        subst hi
        split
        · exact isi_ok c h h3 (by assumption)
        · exact e_nvr
      · split
        · exact rgl_ok c h h3 (by assumption)
        · split
          · rename_i p bi e1
            split
            · rename_i hfr
              simp only [Bool.and_eq_true] at hfr
              cases args with
              | nil => simp at hfr
              | cons a es =>
                have h1' := h1
                simp only [List.all_cons, Bool.and_eq_true] at h1'
                exact s_prim c.K c.calm e1 (c.gl h3) (c.fr hfr.1) (h.a h1) (star_ok h1'.1) (star_any h1'.2)
            · exact e_nvr
          · exact e_nvr
  · exact e_nvr
theorem mut_e (c : CE G F W C X) (h : Ts G F W X t) {o : Expr} {m : Str} {args : List Expr} {apos pos : Pos} : PE X (.Call (.Attribute o m apos) args [] pos) (TEv G W (ev F (trMut C t pos args o m apos))) := by
  unfold trMut
  split
  · split
    · rename_i hh
      simp only [Bool.and_eq_true] at hh
      obtain ⟨⟨⟨h1, h2⟩, h3⟩, h4⟩ := hh
      split
      · rename_i i mu e1 e2
        refine s_mut c.K e2 (by rw [c.N]; exact ixOf_ok e1) (c.vis h2) (okN_ok h1).1 (okN_ok h1).2 (h.d h3) h4 (star_all h3) fun e => ?_
        subst e; rfl
      · exact e_nvr
    · exact e_nvr
  · exact e_nvr
theorem base_ok {o : Expr} {n : Str} {env : Env} {w : Sem Value} (h : isSup o = false) : attributeBase o n env w = w := by
  cases o <;> first | rfl | (cases h; done)
theorem ix_e (c : CE G F W C X) (h : Ts G F W X t) {o b : Expr} {apos pos : Pos} (hb : noStar b = true) (hl : (apos.endLine == pos.line) = true) (ho : isSup o = false) : PE X (.Call (.Attribute o "index" apos) [b] [] pos) (TEv G W (ev F (trIx C t o b))) := by
  have gen : ∀ o, isSup o = false → PE X (.Call (.Attribute o "index" apos) [b] [] pos) (TEv G W (ev F (.index (t o) (t b)))) := fun o ho => s_index c.K c.u (h.e o) (h.e b) (base_ok ho) hl (star_ok hb)
  unfold trIx
  split
  · rename_i x px
    split
    · rename_i hh
      simp only [Bool.and_eq_true] at hh
      split
      · rename_i ds e1
        obtain ⟨v, h1, h2, h3⟩ := (c.con x _ e1).ex
        obtain ⟨p, ob, rfl, l1, l2, l3⟩ := h3 ds rfl
        exact s_cix c.K (h1 X px c.mg (c.gl hh.1.2) (okN_ok hh.1.1).1) h2 l1 l2 l3 (h.e b) (base_ok rfl) hl (star_ok hb)
      · exact e_nvr
    · exact gen _ ho
  · exact gen _ ho
theorem call_e (c : CE G F W C X) (h : Ts G F W X t) {f : Expr} {args : List Expr} {pos : Pos} : PE X (.Call f args [] pos) (TEv G W (ev F (trCall C t pos args f))) := by
  unfold trCall
  split
  · exact fn_e c h
  · split
    · rename_i hm
      subst hm
      split
      · split
        · rename_i hh
          simp only [Bool.and_eq_true, Bool.not_eq_true'] at hh
          exact ix_e c h hh.1.1 hh.1.2 hh.2
        · exact e_nvr
      · exact e_nvr
    · exact mut_e c h
  · exact e_nvr
theorem itr_i (c : CE G F W C X) (h : Ts G F W X t) {tg iter : Expr} : PI X tg iter (TIv G W (evI F (trI C t tg iter))) := by
  have v : ∀ e, PI X tg e (TIv G W (evI F (.val (t e)))) := fun e => i_val c.K (h.e e)
  unfold trI
  split
  · split
    · rename_i hh
      simp only [Bool.and_eq_true, decide_eq_true_eq] at hh
      obtain ⟨⟨⟨rfl, h2⟩, h3⟩, h4⟩ := hh
      exact i_rng1 (c.gl h3) (c.fr h2) (a_cons (h.e _) a_nil (star_ok h4)) (star_ok h4)
    · split
      · rename_i hh
        simp only [Bool.and_eq_true, decide_eq_true_eq] at hh
        obtain ⟨⟨⟨⟨rfl, h2⟩, h3⟩, h4⟩, h5⟩ := hh
        cases tg <;> try (cases h5; done)
        exact i_enum c.K (c.gl h3) (c.fr h2) (h.e _) (star_ok h4)
      · exact v _
  · split
    · rename_i hh
      simp only [Bool.and_eq_true, decide_eq_true_eq] at hh
      obtain ⟨⟨⟨⟨rfl, h2⟩, h3⟩, h4⟩, h5⟩ := hh
      exact i_rng2 (c.gl h3) (c.fr h2) (a_cons (h.e _) (a_cons (h.e _) a_nil (star_ok h5)) (star_ok h4)) (by rw [star_ok h4, star_ok h5]; rfl) (star_ok h5)
    · split
      · rename_i hh
        simp only [Bool.and_eq_true, decide_eq_true_eq] at hh
        obtain ⟨⟨⟨⟨⟨rfl, h2⟩, h3⟩, h4⟩, h5⟩, h6⟩ := hh
        cases tg <;> try (cases h6; done)
        exact i_zip c.K (c.gl h3) (c.fr h2) (h.e _) (h.e _) (star_ok h4) (star_ok h5)
      · exact v _
  · split
    · rename_i hh
      simp only [Bool.and_eq_true, decide_eq_true_eq] at hh
      obtain ⟨⟨⟨⟨⟨rfl, h2⟩, h3⟩, h4⟩, h5⟩, h6⟩ := hh
      exact i_rng3 (c.gl h3) (c.fr h2) (a_cons (h.e _) (a_cons (h.e _) (a_cons (h.e _) a_nil (star_ok h6)) (star_ok h5)) (star_ok h4)) (by rw [star_ok h4, star_ok h5, star_ok h6]; rfl) (by rw [star_ok h5, star_ok h6]; rfl)
    · exact v _
  · exact v _
theorem sub_ok {is vs : List Nat} (h : subB is vs = true) : ∀ i ∈ is, i ∈ vs := fun i hi => by
  unfold subB at h
  rw [List.all_eq_true] at h
  simpa using h i hi
theorem folded {e : Expr} {env : Env} (h : isSet e = false) : ∀ x, foldedSetIterable e env x = pure x := fun x => by
  cases e <;> first | rfl | (cases h; done)
theorem ifs_ok {b : Expr → E} (h : Ts G F W X b) {ifs : List Expr} {c : E} (e : trIfs b ifs = some c) : PTs X ifs (TTv G W (tst F c)) := by
  unfold trIfs at e
  split at e <;> cases e
  · exact t_yes
  · exact pts_one (h.t _)
/-- the comprehension by its clauses, as a value and as a store in one turn -/
theorem comp_e (c : CE G F W C X) (h : Ts G F W X t) {b : Expr → E} {scope : Scope} (hb : ∀ (s : Shared) (H : Hp) (cl : List (Str × Addr)) (A : Addr) (fp : List Addr), Ts G F WN (X.blk s H scope (compEnvC scope cl A X.env) fp) b) {elt : Expr} {gs : List Comprehension} {pos : Pos} :
    PE X (.ListComp elt gs scope pos) (TEv G W (ev F (trComp C t b scope elt gs))) ∧
    ∀ (n : Nat) {i : Nat} {y : Str} {py spos : Pos}, X.N[i]? = some y → X.env.scope.names.lookup y = some .local → swapsWith (.ListComp elt gs scope pos) (some (.Name y py)) spos.line X.env = pure true → PS X (.Assign [.Name y py] (.ListComp elt gs scope pos) spos) (TSv G W (evS F n (.asg (.nm i) (trComp C t b scope elt gs)))) := by
  have hN : X.N.Nodup := by rw [c.N]; exact c.nd
  have bad : ∀ {st : Stmt} {n : Nat} {i : Nat}, PS X st (TSv G W (evS F n (.asg (.nm i) .nvr))) := fun {st n i} => ⟨fun pins s σ H E I ⟨B, ρ, g, run⟩ => by
    simp only [evS, ev, Res.sr] at run
    exact run.elim⟩
  unfold trComp
  split
  · split
    · rename_i tt cc e1 e2
      split
      · rename_i hh
        simp only [Bool.and_eq_true, Bool.not_eq_true'] at hh
        obtain ⟨⟨h1, h2⟩, h3⟩ := hh
        have ok : BlkOk X.N X.env.scope scope (ownOf C.N scope) := by rw [c.N, c.sc]; exact blkOk_by h1
        exact ⟨(pe_lc c.calm hN (itr_i c h) ok (fun s H A cl fp => (c.blk s H scope cl A fp).tgt e1) (fun s H A cl fp => ifs_ok (hb s H cl A fp) e2) (fun s H A cl fp => (hb s H cl A fp).e elt) (folded h3)).imp fun σ H Q => comp_core (sub_ok h2),
          fun n {i y py spos} hy hl hsw => (ps_setLc c.calm hN hy hl hsw (itr_i c h) ok (fun s H A cl fp => (c.blk s H scope cl A fp).tgt e1) (fun s H A cl fp => ifs_ok (hb s H cl A fp) e2) (fun s H A cl fp => (hb s H cl A fp).e elt) (folded h3)).imp fun E σ H => comp_set (n := n) fun σ H Q => comp_core (sub_ok h2)⟩
      · exact ⟨e_nvr, fun n {i y py spos} _ _ _ => bad⟩
    · exact ⟨e_nvr, fun n {i y py spos} _ _ _ => bad⟩
  · split
    · rename_i tt cc tt1 cc1 e1 e2 e3 e4
      split
      · rename_i hh
        simp only [Bool.and_eq_true, Bool.not_eq_true'] at hh
        obtain ⟨⟨⟨⟨h1, h2⟩, h3⟩, h4⟩, h5⟩ := hh
        have ok : BlkOk X.N X.env.scope scope (ownOf C.N scope) := by rw [c.N, c.sc]; exact blkOk_by h1
        exact ⟨(pe_lc2 c.calm hN (itr_i c h) ok (sub_ok h3) (fun s H A cl fp => (c.blk s H scope cl A fp).tgt e1) (fun s H A cl fp => ifs_ok (hb s H cl A fp) e2) (fun s H A cl fp => itr_i (c.blk s H scope cl A fp) (hb s H cl A fp)) (fun s H A cl fp => (c.blk s H scope cl A fp).tgt e3)
            (fun s H A cl fp => ifs_ok (hb s H cl A fp) e4) (fun s H A cl fp => (hb s H cl A fp).e elt) (folded h4) (fun env => folded h5)).imp fun σ H Q => comp2_core (sub_ok h2) (fun _ z => z) (sub_ok h3),
          fun n {i y py spos} hy hl hsw => (ps_setLc2 c.calm hN hy hl hsw (itr_i c h) ok (sub_ok h3) (fun s H A cl fp => (c.blk s H scope cl A fp).tgt e1) (fun s H A cl fp => ifs_ok (hb s H cl A fp) e2) (fun s H A cl fp => itr_i (c.blk s H scope cl A fp) (hb s H cl A fp)) (fun s H A cl fp => (c.blk s H scope cl A fp).tgt e3)
            (fun s H A cl fp => ifs_ok (hb s H cl A fp) e4) (fun s H A cl fp => (hb s H cl A fp).e elt) (folded h4) (fun env => folded h5)).imp fun E σ H => comp_set (n := n) fun σ H Q => comp2_core (sub_ok h2) (fun _ z => z) (sub_ok h3)⟩
      · exact ⟨e_nvr, fun n {i y py spos} _ _ _ => bad⟩
    · exact ⟨e_nvr, fun n {i y py spos} _ _ _ => bad⟩
  · exact ⟨e_nvr, fun n {i y py spos} _ _ _ => bad⟩
theorem opt_e (h : Ts G F W X t) (o : Option Expr) : (o = none ∧ o.isSome = false ∧ trOpt t o = .con .non) ∨ ∃ e, o = some e ∧ o.isSome = true ∧ PE X e (TEv G W (ev F (trOpt t o))) := by
  cases o with
  | none => exact .inl ⟨rfl, rfl, rfl⟩
  | some e => exact .inr ⟨e, rfl, rfl, h.e e⟩
theorem run_kin {neg : Bool} {kvs : List (Str × D)} {a' : E} {y : Str} {σ : L2.St} {H : Hp} {Q : V → Hp → Prop} {p : Addr} {r : R2}
    (hr : ∀ (z : Str) (H : Hp), Q (.bl (neg != (kvs.lookup z).isSome)) H → r (.str z) (.ref p) H Q)
    (h : TEv G W (ev F (.kin neg kvs a')) σ H Q) : tOp r (TEv G W (ev F a')) (tC (.ref p)) σ H Q := by
  obtain ⟨B, ρ, g, run⟩ := h
  simp only [ev] at run
  refine ⟨B, ρ, g, run.bind RvR.rb fun ra ρ1 v H1 B1 g1 s1 rel1 run1 => ?_⟩
  cases e1 : force ρ1 ra with
  | none => rw [e1] at run1; exact run1.elim
  | some d =>
    rw [e1] at run1
    cases d <;> try (exact run1.elim)
    rename_i z
    have hv := force_ok g1 rel1 e1
    have hv : v = .str z := by simpa only [RepB, Rep] using hv
    subst hv
    exact hr z H1 (run1.val g1 (by simp [Rep]))
theorem kin_bl {neg : Bool} {kvs : List (Str × D)} {a' : E} {ρ ρ' : Ev} {rv : RV} (e : ev F (.kin neg kvs a') ρ = .ok rv ρ') : ∃ k, rv = RV.new (.bl k) := by
  simp only [ev] at e
  obtain ⟨r1, ρ1, _, e⟩ := res_bind_ok e
  cases e1 : force ρ1 r1 with
  | none => rw [e1] at e; cases e
  | some d =>
    rw [e1] at e
    cases d <;> first | (cases e; done) | (cases e; exact ⟨_, rfl⟩)
theorem kin_e (c : CE G F W C X) (h : Ts G F W X t) {a : Expr} {ops : List CmpOp} {ys : List Expr} {pos : Pos} {neg : Bool} {kvs : List (Str × D)} (e : dicIn C ops ys = some (neg, kvs)) :
    PE X (.Compare a ops ys pos) (TEv G W (ev F (.kin neg kvs (t a)))) ∧ PT X (.Compare a ops ys pos) (TTv G W (tst F (.kin neg kvs (t a)))) := by
  unfold dicIn at e
  split at e <;> try (cases e; done)
  rename_i op y
  have key : ∀ kvs, dicOf C y = some kvs → ∃ p n es, PE X y (tC (.ref p)) ∧ KDict X.K X.w p es n ∧ (∀ z, ∃ r, PySem.W.nsIn X.K p z = some r ∧ r.isSome = (kvs.lookup z).isSome) ∧ ∃ x pp, y = .Name x pp := fun kvs e => by
    unfold dicOf at e
    split at e <;> try (cases e; done)
    split at e <;> try (cases e; done)
    rename_i x pp hh
    simp only [Bool.and_eq_true] at hh
    obtain ⟨p, es, n, hm, hd, hz⟩ := (c.dic _ _ e).ex
    refine ⟨p, n, es, pe_glob (c.gl hh.2) (by rw [c.mg]; exact hm) rfl (okN_ok hh.1).1, by rw [c.K]; exact hd, fun z => ?_, _, _, rfl⟩
    rw [c.K]
    cases e2 : kvs.lookup z with
    | none => exact ⟨none, (hz z).2 e2, rfl⟩
    | some d =>
      obtain ⟨u, v, e3, _⟩ := (hz z).1 d e2
      exact ⟨some u, e3, rfl⟩
  split at e <;> try (cases e; done)
  · obtain ⟨k, e1, e2⟩ := Option.map_eq_some_iff.mp e
    cases e2
    obtain ⟨p, n, es, hn, hd, hz, x, pp, rfl⟩ := key _ e1
    have hr : ∀ (Q : V → Hp → Prop) (z : Str) (H : Hp), Q (.bl (false != (kvs.lookup z).isSome)) H → ∃ (z' : Str) (r : Option Value), V.str z = .str z' ∧ V.ref p = .ref p ∧ PySem.W.nsIn X.K p z' = some r ∧ Q (.bl r.isSome) H := fun Q z H q => by
      obtain ⟨r, h1, h2⟩ := hz z
      refine ⟨z, r, rfl, rfl, h1, ?_⟩
      rw [h2]
      simpa using q
    refine ⟨(pe_cmpR (op_in_kd hd) (h.e a) hn rfl).imp fun σ H Q q => run_kin (y := x) (hr Q) q, (pt_cmpR (op_in_kd hd) (h.e a) hn rfl).imp fun σ H Q ⟨B, ρ, g, run⟩ => ?_⟩
    exact run_kin (y := x) (hr (fun x H' => ∃ k, x = .bl k ∧ Q k H')) ⟨B, ρ, g, bool_test (r := ev F (.kin false kvs (t a)) ρ) (fun rv ρ' e => kin_bl e) run⟩
  · obtain ⟨k, e1, e2⟩ := Option.map_eq_some_iff.mp e
    cases e2
    obtain ⟨p, n, es, hn, hd, hz, x, pp, rfl⟩ := key _ e1
    have hr : ∀ (Q : V → Hp → Prop) (z : Str) (H : Hp), Q (.bl (true != (kvs.lookup z).isSome)) H → ∃ (z' : Str) (r : Option Value), V.str z = .str z' ∧ V.ref p = .ref p ∧ PySem.W.nsIn X.K p z' = some r ∧ Q (.bl (!r.isSome)) H := fun Q z H q => by
      obtain ⟨r, h1, h2⟩ := hz z
      refine ⟨z, r, rfl, rfl, h1, ?_⟩
      rw [h2]
      simpa using q
    refine ⟨(pe_cmpR (op_notIn_kd hd) (h.e a) hn rfl).imp fun σ H Q q => run_kin (y := x) (hr Q) q, (pt_cmpR (op_notIn_kd hd) (h.e a) hn rfl).imp fun σ H Q ⟨B, ρ, g, run⟩ => ?_⟩
    exact run_kin (y := x) (hr (fun x H' => ∃ k, x = .bl k ∧ Q k H')) ⟨B, ρ, g, bool_test (r := ev F (.kin true kvs (t a)) ρ) (fun rv ρ' e => kin_bl e) run⟩
theorem kix_e (c : CE G F W C X) (h : Ts G F W X t) {y i : Expr} {pos : Pos} {kvs : List (Str × D)} (e : dicOf C y = some kvs) (hs : PlainIx i) : PE X (.Subscript y i pos) (TEv G W (ev F (.kix kvs (t i)))) := by
  unfold dicOf at e
  split at e <;> try (cases e; done)
  split at e <;> try (cases e; done)
  rename_i x pp hh
  simp only [Bool.and_eq_true] at hh
  obtain ⟨p, es, n, hm, hd, hz⟩ := (c.dic _ _ e).ex
  have hn : PE X (.Name x pp) (tC (.ref p)) := pe_glob (c.gl hh.2) (by rw [c.mg]; exact hm) rfl (okN_ok hh.1).1
  refine (pe_ix ix_kdict hn (h.e i) hs).imp fun σ H Q ⟨B, ρ, g, run⟩ => ?_
  simp only [ev] at run
  show TEv G W (ev F (t i)) σ H fun y H2 => rIxD X.K X.w (.ref p) y H2 Q
  refine ⟨B, ρ, g, run.bind RvR.rb fun ra ρ1 v H1 B1 g1 s1 rel1 run1 => ?_⟩
  cases e1 : force ρ1 ra with
  | none => rw [e1] at run1; exact run1.elim
  | some d =>
    rw [e1] at run1
    cases d <;> try (exact run1.elim)
    rename_i z
    have hv := force_ok g1 rel1 e1
    have hv : v = .str z := by simpa only [RepB, Rep] using hv
    subst hv
    obtain ⟨rv, e2, run2⟩ := run1.ofO
    obtain ⟨d, e3, rfl⟩ := Option.map_eq_some_iff.mp e2
    obtain ⟨u, v, h1, h2, h3⟩ := (hz z).1 d e3
    exact ⟨p, z, v, rfl, rfl, ⟨es, n, u, by rw [c.K]; exact hd.at_, hd.lit, by rw [c.K]; exact h1, h2⟩, run2.val g1 (h3 H1 B1)⟩
theorem trE_e (c : CE G F W C X) (h : Ts G F W X t) {b : Scope → Expr → E} (hb : ∀ (scope : Scope) (s : Shared) (H : Hp) (cl : List (Str × Addr)) (A : Addr) (fp : List Addr), Ts G F WN (X.blk s H scope (compEnvC scope cl A X.env) fp) (b scope)) : ∀ e, PE X e (TEv G W (ev F (trE C t b e))) := by
  intro e
  cases e <;> simp only [trE] <;> try (exact e_nvr)
  case BoolOp op es pos => exact h.b c es
  case BinOp x op y pos =>
    split
    · exact s_bin c.K (by assumption) (h.e x) (h.e y)
    · exact e_nvr
  case UnaryOp op x pos =>
    split
    · exact s_neg (h.e x)
    · exact s_not c.K (h.e x)
    · exact e_nvr
  case IfExp x y z pos => exact s_ite (h.t x) (h.e y) (h.e z)
  case ListComp elt gs scope pos => exact (comp_e c h (hb scope)).1
  case Compare x ops ys pos =>
    split
    · exact (kin_e c h (by assumption)).1
    · exact (cmp_e c h).1
  case Call f args ks pos =>
    split
    · rename_i hk
      have : ks = [] := by simpa using hk
      subst this
      exact call_e c h
    · exact e_nvr
  case Constant k j pos =>
    split
    · exact s_con pe_int fun _ _ => by simp [Rep]
    · exact s_con pe_bl fun _ _ => by simp [Rep]
    · exact s_con pe_non fun _ _ => by simp [Rep]
    · exact s_con pe_str fun _ _ => by simp [Rep]
    · exact e_nvr
  case Subscript x i pos =>
    split
    · split
      · exact s_sli c.K (h.e x) (opt_e h _) (opt_e h _)
      · exact e_nvr
    · rename_i hi
      have hs : PlainIx i := fun o v => by
        cases i <;> first | rfl | exact absurd rfl (hi _ _ _ _)
      split
      · exact kix_e c h (by assumption) hs
      · exact s_idx c.K hs (h.e x) (h.e i)
  case Name x pos =>
    split
    · rename_i h1
      split
      · rename_i h2
        split
        · rename_i i e1
          exact s_var (by rw [c.N]; exact ixOf_ok e1) (c.vis h2) (okN_ok h1).1 (okN_ok h1).2
        · exact e_nvr
      · split
        · rename_i h3
          split
          · rename_i d e1
            exact (c.con x d e1).pe X W F pos c.mg (c.gl h3) (okN_ok h1).1
          · exact e_nvr
        · exact e_nvr
    · exact e_nvr
  case List es pos =>
    split
    · rename_i hh
      simp only [Bool.and_eq_true, decide_eq_true_eq] at hh
      exact s_lst (by rw [mk_len]; exact hh.2) (h.d hh.1)
    · exact e_nvr
  case Tuple es k pos =>
    split
    · rename_i hh
      simp only [Bool.and_eq_true, decide_eq_true_eq] at hh
      exact s_tup (by rw [mk_len]; exact hh.2) (h.d hh.1)
    · exact e_nvr
theorem trE_t (c : CE G F W C X) (h : Ts G F W X t) {b : Scope → Expr → E} (he : ∀ e, PE X e (TEv G W (ev F (trE C t b e)))) : ∀ e, PT X e (TTv G W (tst F (trE C t b e))) := by
  intro e
  by_cases hs : special e = true
  · cases e <;> simp only [special] at hs <;> try (cases hs; done)
    case BoolOp op es pos =>
      cases es with
      | nil => exact t_nvr
      | cons a es => exact (h.w c (a :: es) (by simp)).pt
    case UnaryOp op x pos =>
      cases op <;> simp only [special] at hs <;> try (cases hs; done)
      exact t_not (h.t x)
    case IfExp x y z pos => exact t_ite (h.t x) (h.t y) (h.t z)
    case Compare x ops ys pos =>
      simp only [trE]
      split
      · exact (kin_e c h (by assumption)).2
      · exact (cmp_e c h).2
  · exact t_val c.K (he e) (plain_test (by simpa using hs))
theorem tr_ok : ∀ (n : Nat) {G : Pg} {F : Fn} {W : L2.WX} {C : TC} {X : Cx}, CE G F W C X → Ts G F W X (tr n C)
  | 0, _, _, _, _, _, _ => ⟨fun _ => e_nvr, fun elt gs scope pos n {i y py spos} _ _ _ => ⟨fun pins s σ H E I ⟨B, ρ, g, run⟩ => by
    simp only [evS, tr, ev, Res.sr] at run
    exact run.elim⟩, fun _ => t_nvr⟩
  | n + 1, G, F, W, C, X, c => by
    have ih := tr_ok n c
    have ihb : ∀ (scope : Scope) (s : Shared) (H : Hp) (cl : List (Str × Addr)) (A : Addr) (fp : List Addr), Ts G F WN (X.blk s H scope (compEnvC scope cl A X.env) fp) (tr n (C.blk scope)) := fun scope s H cl A fp => tr_ok n (c.blk s H scope cl A fp)
    have he := trE_e c ih ihb
    exact ⟨he, fun elt gs scope pos => (comp_e c ih (ihb scope)).2, trE_t c ih he⟩
end
end G
end

section
set_option Elab.async false
set_option linter.all false
set_option maxRecDepth 100000
set_option maxHeartbeats 4000000
/-! G16: from the program's statements to the small language; defs. -/
namespace G
open PySem PySem.Spec PyProof.Rows L2

def isComp : Expr → Bool
  | .ListComp .. => true
  | .SetComp .. => true
  | .DictComp .. => true
  | _ => false
def isSlice : Expr → Bool
  | .Slice .. => true
  | _ => false
theorem no_swap {e : Expr} {tg : Option Expr} {l : Nat} {env : Env} (h : isComp e = false) : swapsWith e tg l env = pure false := by
  cases e <;> first | rfl | (cases h; done)
theorem no_sole {e tg : Expr} {l : Nat} {env : Env} (h : isComp e = false) : swapsWithSole [tg] e l env = pure false := by
  unfold swapsWithSole
  exact no_swap h
theorem no_stores {tg e : Expr} {env : Env} (h : isTup e = false) : swappedStores [tg] e env = pure none := by
  cases e <;> first | (cases h; done) | (cases tg <;> rfl)
theorem no_stores' {tg e : Expr} {env : Env} (h1 : ∀ ts k p, tg ≠ .Tuple ts k p) (h2 : ∀ ts p, tg ≠ .List ts p) : swappedStores [tg] e env = pure none := by
  cases tg <;> first
    | exact absurd rfl (h1 _ _ _)
    | exact absurd rfl (h2 _ _)
    | (cases e <;> rfl)
def swC (b1 b2 b3 b4 b5 : Bool) (ns : List Str) : Option (Option (List Str)) :=
  if b1 then some none else if b2 then some none else if b3 then some none else if b4 then some none else if b5 then none else some (some ns)
theorem swC_ok {b1 b2 b3 b4 b5 : Bool} {ns : List Str} {r : Option (List Str)} {u : Sem PUnit} (h : swC b1 b2 b3 b4 b5 ns = some r) :
    (if b1 = true then (pure none : Sem (Option (List Str))) else if b2 = true then pure none else if b3 = true then pure none else if b4 = true then pure none else if b5 = true then (do u; pure (some ns)) else pure (some ns)) = pure r := by
  cases b1 <;> cases b2 <;> cases b3 <;> cases b4 <;> cases b5 <;> first | (cases h; rfl) | (cases h; done)
def swNs (sc : Scope) (ts : List Expr) : List Str := ts.filterMap fun
    | .Name id pos => if sc.names.lookup id == some .local && pos.line == (ts.head?.map (·.pos.line)).getD 0 then some id else none
    | _ => none
/-- swappedStores, by what the scope says -/
def swB (sc : Scope) (ts vs : List Expr) : Option (Option (List Str)) :=
  swC (!(ts.length == 2 || ts.length == 3) || vs.length != ts.length) (vs.any fun | .Starred .. => true | _ => false) ((swNs sc ts).length != ts.length || (swNs sc ts).eraseDups.length != (swNs sc ts).length) (vs.all (foldedForSure 8)) (vs.all (constantsAlone 8)) (swNs sc ts)
theorem swB_ok {sc : Scope} {env : Env} (h1 : env.scope = sc) (h2 : sc.kind = .function) {ts vs : List Expr} {k k2 : Nat} {p p2 : Pos} {r : Option (List Str)} (h : swB sc ts vs = some r) : swappedStores [.Tuple ts k p] (.Tuple vs k2 p2) env = pure r := by
  have hb : env.blockKind = .function := by unfold Env.blockKind; rw [h1, h2]; rfl
  have hk : ∀ x, env.kindOf x = sc.names.lookup x := fun x => by unfold Env.kindOf; rw [h1]
  unfold swappedStores
  simp only [hb, hk]
  simp only [bne_self_eq_false, Bool.or_false]
  exact swC_ok h

/-! ### statements -/
def trPar (C : TC) (t : Expr → E) (e : Expr) (ts vs : List Expr) : S := match swB C.sc ts vs with
  | some none => (match nmsIx C ts with
    | some is => .asg (.tp is) (t e)
    | none => .nvr)
  | some (some ns) => (match ts, vs with
    | [.Name x _, .Name y _], [a, b] => if noStar a && noStar b && isLoc C.sc x && isLoc C.sc y && decide (ns = [x, y]) then (match ixOf C.N x, ixOf C.N y with
        | some i, some j => if decide (i ≠ j) then .par [i, j] (mkEs t [a, b]) else .nvr
        | _, _ => .nvr) else .nvr
    | [.Name x _, .Name y _, .Name z _], [a, b, c] => if noStar a && noStar b && noStar c && isLoc C.sc x && isLoc C.sc y && isLoc C.sc z && decide (ns = [x, y, z]) then (match ixOf C.N x, ixOf C.N y, ixOf C.N z with
        | some i, some j, some l => if decide (i ≠ j) && decide (i ≠ l) && decide (j ≠ l) then .par [i, j, l] (mkEs t [a, b, c]) else .nvr
        | _, _, _ => .nvr) else .nvr
    | _, _ => .nvr)
  | none => .nvr
def isFun (sc : Scope) : Bool := match sc.kind with
  | .function => true
  | _ => false
def trAsg (C : TC) (t : Expr → E) (e : Expr) : Expr → S
  | .Name y py => match e with
    | .ListComp _ _ scope cp => if isFun C.sc && isLoc C.sc y && (py.line == cp.line) && !(scope.names.any fun (n, k) => n == y && (k == .local || k == .cell)) then (match ixOf C.N y with
        | some i => .asg (.nm i) (t e)
        | none => .nvr) else if C.sc.names.lookup y == some .local then .nvr else (match nmIx C y with
        | some i => .asg (.nm i) (t e)
        | none => .nvr)
    | e => if isComp e then .nvr else (match nmIx C y with
        | some i => .asg (.nm i) (t e)
        | none => .nvr)
  | .Tuple ts _ _ => match e with
    | .Tuple vs _ _ => if isFun C.sc then trPar C t e ts vs else .nvr
    | e => if isComp e then .nvr else (match nmsIx C ts with
        | some is => .asg (.tp is) (t e)
        | none => .nvr)
  | .Subscript (.Name x _) ix _ => if okN x && visB C.sc x && !isSlice ix && !isComp e then (match ixOf C.N x with
      | some i => .setx i (t ix) (t e)
      | none => .nvr) else .nvr
  | _ => .nvr
def trSt (C : TC) (t : Expr → E) (u : List Stmt → Ss) : Stmt → S
  | .Pass _ => .pass
  | .Break _ => .brk
  | .Continue _ => .cnt
  | .Expr e _ => match e with
    | .Constant (.str _) _ _ => .pass
    | e => if isComp e then .nvr else .exp (t e)
  | .Return e _ => match e with
    | none => .ret (.con .non)
    | some e => .ret (t e)
  | .If c a b _ => .ite (t c) (u a) (u b)
  | .While c b r _ => if r.isEmpty then .whl (t c) (u b) else .nvr
  | .For tg it b r _ => if r.isEmpty && !isSet it then (match trT C tg with
      | some tt => .for tt (trI C t tg it) (u b)
      | none => .nvr) else .nvr
  | .Assign tgs e _ => match tgs with
    | [tg] => trAsg C t e tg
    | _ => .nvr
  | .AugAssign tg op e _ => match tg with
    | .Name x _ => (match nmIx C x, aOp op with
      | some i, some o => .aug i o (t e)
      | _, _ => .nvr)
    | .Subscript (.Name x _) ix _ => if okN x && visB C.sc x && !isSlice ix then (match ixOf C.N x, aOp op with
      | some i, some o => .augx i (t ix) o (t e)
      | _, _ => .nvr) else .nvr
    | _ => .nvr
  | _ => .nvr
def mkSs (u : Stmt → S) : List Stmt → Ss
  | [] => .nil
  | s :: r => .cons (u s) (mkSs u r)
def trS (n : Nat) (C : TC) : Nat → Stmt → S
  | 0, _ => .nvr
  | m + 1, s => trSt C (tr n C) (mkSs (trS n C m)) s
section
variable {G : Pg} {F : Fn} {W : L2.WX} {C : TC} {X : Cx} {t : Expr → E}
theorem par_ok (c : CE G F W C X) (h : Ts G F W X t) (hf : C.sc.kind = .function) {n : Nat} {ts vs : List Expr} {k k2 : Nat} {p p2 pos : Pos} : PS X (.Assign [.Tuple ts k p] (.Tuple vs k2 p2) pos) (TSv G W (evS F n (trPar C t (.Tuple vs k2 p2) ts vs))) := by
  have hN : X.N.Nodup := by rw [c.N]; exact c.nd
  have hw : ∀ {x : Str} {i : Nat}, ixOf C.N x = some i → X.N[i]? = some x := fun e => by rw [c.N]; exact ixOf_ok e
  have hl : ∀ {x : Str}, isLoc C.sc x = true → X.env.scope.names.lookup x = some .local := fun e => by rw [c.sc]; exact isLoc_ok e
  unfold trPar
  split
  · rename_i e0
    split
    · rename_i is e1
      exact p_asg (h.e _) (g_tp c.K c.calm hN (c.nms e1)) rfl (swB_ok c.sc hf e0) rfl
    · exact p_nvr
  · rename_i ns e0
    split
    · rename_i x px y py a b
      split
      · rename_i hh
        simp only [Bool.and_eq_true, decide_eq_true_eq] at hh
        obtain ⟨⟨⟨⟨h1, h2⟩, h3⟩, h4⟩, rfl⟩ := hh
        split
        · rename_i i j e1 e2
          split
          · rename_i hij
            have hij : i ≠ j := by simpa using hij
            refine (ps_par c.calm hN (hw e1) (hw e2) hij (hl h3) (hl h4) (h.p (es := [a, b]) (by simp [h1, h2])) (swB_ok c.sc hf e0) rfl).imp fun E σ H q => ?_
            obtain ⟨B, ρ, g, run⟩ := par_core q
            refine ⟨B, ρ, g, run.imp fun vs H1 ⟨l, q⟩ => ?_⟩
            cases vs with
            | nil => cases l
            | cons v vs =>
              cases vs with
              | nil => cases l
              | cons w vs =>
                cases vs with
                | nil => exact ⟨v, w, rfl, q⟩
                | cons _ _ => cases l
          · exact p_nvr
        · exact p_nvr
      · exact p_nvr
    · rename_i x px y py z pz a b d
      split
      · rename_i hh
        simp only [Bool.and_eq_true, decide_eq_true_eq] at hh
        obtain ⟨⟨⟨⟨⟨⟨h1, h2⟩, h2'⟩, h3⟩, h4⟩, h5⟩, rfl⟩ := hh
        split
        · rename_i i j l e1 e2 e3
          split
          · rename_i hij
            simp only [Bool.and_eq_true, decide_eq_true_eq] at hij
            obtain ⟨⟨i1, i2⟩, i3⟩ := hij
            refine (ps_par3 c.calm hN (hw e1) (hw e2) (hw e3) i1 i2 i3 (hl h3) (hl h4) (hl h5) (h.p (es := [a, b, d]) (by simp [h1, h2, h2'])) (swB_ok c.sc hf e0) rfl).imp fun E σ H q => ?_
            obtain ⟨B, ρ, g, run⟩ := par_core q
            refine ⟨B, ρ, g, run.imp fun vs H1 ⟨l, q⟩ => ?_⟩
            cases vs with
            | nil => cases l
            | cons u vs =>
              cases vs with
              | nil => cases l
              | cons v vs =>
                cases vs with
                | nil => cases l
                | cons w vs =>
                  cases vs with
                  | nil => exact ⟨u, v, w, rfl, q⟩
                  | cons _ _ => cases l
          · exact p_nvr
        · exact p_nvr
      · exact p_nvr
    · exact p_nvr
  · exact p_nvr
theorem isFun_ok {sc : Scope} (h : isFun sc = true) : sc.kind = .function := by
  unfold isFun at h
  split at h
  · assumption
  · cases h
theorem asg_ok (c : CE G F W C X) (h : Ts G F W X t) {n : Nat} {tg e : Expr} {pos : Pos} : PS X (.Assign [tg] e pos) (TSv G W (evS F n (trAsg C t e tg))) := by
  have hN : X.N.Nodup := by rw [c.N]; exact c.nd
  have hw : ∀ {x : Str} {i : Nat}, ixOf C.N x = some i → X.N[i]? = some x := fun e => by rw [c.N]; exact ixOf_ok e
  unfold trAsg
  split
  · rename_i y py
    split
    · rename_i elt gs scope cp
      split
      · rename_i hh
        simp only [Bool.and_eq_true, Bool.not_eq_true'] at hh
        obtain ⟨⟨⟨h1, h2⟩, h3⟩, h4⟩ := hh
        split
        · rename_i i e1
          have hl : X.env.scope.names.lookup y = some .local := by rw [c.sc]; exact isLoc_ok h2
          exact h.s elt gs scope cp n (hw e1) hl (sw_true (by rw [c.sc]; exact isFun_ok h1) hl h3 h4)
        · exact p_nvr
      · split
        · exact p_nvr
        · rename_i hnl
          split
          · rename_i i e1
            refine p_asg (h.e _) (g_nm hN (c.nm e1)) ?_ (no_stores' (by intros; simp) (by intros; simp)) rfl
            have hk : (X.env.kindOf y == some .local) = false := by
              unfold Env.kindOf
              rw [c.sc]
              simpa using hnl
            unfold swapsWithSole swapsWith
            simp only [hk, Bool.and_false, Bool.false_and]
          · exact p_nvr
    · split
      · exact p_nvr
      · rename_i hc
        split
        · rename_i i e1
          exact p_asg (h.e e) (g_nm hN (c.nm e1)) (no_sole (by simpa using hc)) (no_stores' (by intros; simp) (by intros; simp)) rfl
        · exact p_nvr
  · rename_i ts k p
    split
    · rename_i vs k2 p2
      split
      · rename_i hf
        exact par_ok c h (isFun_ok hf)
      · exact p_nvr
    · rename_i ht
      split
      · exact p_nvr
      · rename_i hc
        split
        · rename_i is e1
          refine p_asg (h.e e) (g_tp c.K c.calm hN (c.nms e1)) (no_sole (by simpa using hc)) (no_stores ?_) rfl
          cases e <;> first | rfl | exact absurd rfl (ht _ _ _)
        · exact p_nvr
  · rename_i x p2 ix p3
    split
    · rename_i hh
      simp only [Bool.and_eq_true, Bool.not_eq_true'] at hh
      obtain ⟨⟨⟨h1, h2⟩, h3⟩, h4⟩ := hh
      split
      · rename_i i e1
        refine p_setx (hw e1) (c.vis h2) (okN_ok h1).1 (okN_ok h1).2 (h.e ix) (h.e e) (fun v => ?_) (no_sole h4) (no_stores' (by intros; simp) (by intros; simp))
        cases ix <;> first | rfl | (cases h3; done)
      · exact p_nvr
    · exact p_nvr
  · exact p_nvr
/-- a def's context -/
structure CS (G : Pg) (F : Fn) (W : L2.WX) (C : TC) (X : Cx) : Prop extends CE G F W C X where
  own : PassesOwn (model X.prog X.w) X.A X.env X.xe
theorem mkSs_ok {n : Nat} {u : Stmt → S} (h : ∀ st, PS X st (TSv G W (evS F n (u st)))) : ∀ sts : List Stmt, PSs X sts (TSv G W (evSs F n (mkSs u sts)))
  | [] => ss_nil
  | s :: r => ss_cons (h s) (mkSs_ok h r)
theorem trSt_ok (c : CS G F W C X) (h : Ts G F W X t) {n : Nat} {u : List Stmt → Ss} (hu : ∀ sts, PSs X sts (TSv G W (evSs F n (u sts)))) (st : Stmt) : PS X st (TSv G W (evS F n (trSt C t u st))) := by
  have hN : X.N.Nodup := by rw [c.N]; exact c.nd
  have hw : ∀ {x : Str} {i : Nat}, ixOf C.N x = some i → X.N[i]? = some x := fun e => by rw [c.N]; exact ixOf_ok e
  cases st <;> simp only [trSt] <;> try (exact p_nvr)
  case Pass => exact p_pass
  case Break => exact p_brk
  case Continue => exact p_cnt
  case Expr e pos =>
    split
    · exact p_doc
    · split
      · exact p_nvr
      · rename_i hc
        exact p_exp (h.e e) (no_swap (by simpa using hc))
  case Return e pos =>
    split
    · exact p_retN
    · exact p_ret (h.e _)
  case If x a b pos => exact p_ite (h.t x) (hu a) (hu b)
  case While x b r pos =>
    split
    · rename_i hr
      have : r = [] := by simpa using hr
      subst this
      exact p_whl c.own (h.t x) (hu b)
    · exact p_nvr
  case For tg it b r pos =>
    split
    · rename_i hh
      simp only [Bool.and_eq_true, Bool.not_eq_true'] at hh
      have : r = [] := by simpa using hh.1
      subst this
      split
      · rename_i tt e1
        exact p_for c.own c.calm (itr_i c.toCE h) (c.tgt e1) (hu b) (folded hh.2)
      · exact p_nvr
    · exact p_nvr
  case Assign tgs e pos =>
    split
    · exact asg_ok c.toCE h
    · exact p_nvr
  case AugAssign tg op e pos =>
    split
    · split
      · rename_i i o e1 e2
        exact p_aug c.K hN (c.nm e1) e2 (h.e e)
      · exact p_nvr
    · rename_i x p2 ix p3
      split
      · rename_i hh
        simp only [Bool.and_eq_true, Bool.not_eq_true'] at hh
        obtain ⟨⟨h1, h2⟩, h3⟩ := hh
        split
        · rename_i i o e1 e2
          refine p_augx c.K (hw e1) (c.vis h2) (okN_ok h1).1 (okN_ok h1).2 (h.e ix) (h.e e) e2 fun ov iv new => ?_
          cases ix <;> first | rfl | (cases h3; done)
        · exact p_nvr
      · exact p_nvr
    · exact p_nvr
theorem trS_ok (c : CS G F W C X) (n wf : Nat) : ∀ (m : Nat) (st : Stmt), PS X st (TSv G W (evS F wf (trS n C m st)))
  | 0, _ => p_nvr
  | m + 1, st => trSt_ok c (tr_ok n c.toCE) (mkSs_ok (trS_ok c n wf m)) st
end
end G
end

section
set_option Elab.async false
set_option linter.all false
set_option maxRecDepth 100000
set_option maxHeartbeats 4000000
/-! G17: defs. -/
namespace G
open PySem PySem.Spec PyProof.Rows L2

section
variable {K : PySem.W.Frag} {H H' : Hp} {B B' : Bs} {args : List Sl} {vs : List V} {ρ' : Ev} {σ' : L2.St} {m : Nat}
theorem pad_get {α : Type} {l : List α} {x s : α} {m i : Nat} (h : (l ++ List.replicate m x)[i]? = some s) : l[i]? = some s ∨ s = x := by
  by_cases hi : i < l.length
  · rw [List.getElem?_append_left hi] at h
    exact .inl h
  · rw [List.getElem?_append_right (by omega)] at h
    have := List.mem_of_getElem? h
    exact .inr (List.eq_of_mem_replicate this)
theorem pad_ow {i : Nat} {a : Addr} (h : OwAt (args ++ List.replicate m .un) (vs.map some ++ List.replicate m none) i a) : OwAt args (vs.map some) i a := by
  obtain ⟨⟨d, h⟩, e⟩ := h
  rcases pad_get e with e | e
  · refine ⟨⟨d, h.imp (fun h => ?_) fun h => ?_⟩, e⟩
    · rcases pad_get h with h | h
      · exact h
      · cases h
    · rcases pad_get h with h | h
      · exact h
      · cases h
  · cases e
theorem pad_ow' (hl : args.length = vs.length) {i : Nat} {a : Addr} (h : OwAt args (vs.map some) i a) : OwAt (args ++ List.replicate m .un) (vs.map some ++ List.replicate m none) i a := by
  obtain ⟨⟨d, h⟩, e⟩ := h
  have hi : i < (vs.map some).length := (List.getElem?_eq_some_iff.mp e).1
  have hi' : i < args.length := by rw [hl]; simpa using hi
  exact ⟨⟨d, by rw [List.getElem?_append_left hi']; exact h⟩, by rw [List.getElem?_append_left hi]; exact e⟩
theorem pad_eq (hl : args.length = vs.length) : Ow (args ++ List.replicate m .un) (vs.map some ++ List.replicate m none) = Ow args (vs.map some) :=
  funext fun a => propext ⟨fun ⟨i, h⟩ => ⟨i, pad_ow h⟩, fun ⟨i, h⟩ => ⟨i, pad_ow' hl h⟩⟩
/-- at the entry -/
theorem Good.start (g : Good K H B args (vs.map some)) (m : Nat) : Good K H B (args ++ List.replicate m .un) (vs.map some ++ List.replicate m none) := by
  have hl : args.length = vs.length := by simpa using g.len
  refine ⟨by simp [hl], fun i s o e1 e2 => ?_, fun i j a z1 z2 => g.inj i j a (pad_ow z1) (pad_ow z2)⟩
  rcases pad_get e1 with h1 | rfl
  · have hi : i < args.length := (List.getElem?_eq_some_iff.mp h1).1
    rw [List.getElem?_append_left (by simpa [hl] using hi)] at e2
    exact own_anti (g.sl i s o h1 e2) fun a ⟨j, z⟩ => ⟨j, pad_ow z⟩
  · trivial
theorem ios_ok : ∀ {args : List Sl} {vs : List V} {ρ' : Ev} {σ' : L2.St} {ds : List D}, args.length = vs.length → iosOf args ρ' = some ds → (∀ (i : Nat) d v, ρ'[i]? = some (.io d) → vs[i]? = some v → (∃ d0, args[i]? = some (.io d0)) → ∃ a, v = .ref a ∧ B' a ∧ Own K H' B' d a) → IosRel K H' B' args vs ds
  | [], vs, ρ', σ', ds, _, h, _ => by
    simp only [iosOf] at h
    cases h
    rfl
  | s :: args, [], _, _, _, hl, _, _ => by cases hl
  | s :: args, v :: vs, ρ', σ', ds, hl, h, k => by
    have hl' : args.length = vs.length := by simpa using hl
    cases ρ' with
    | nil => cases s <;> simp only [iosOf] at h <;> cases h
    | cons r ρ' =>
      have k' : ∀ (i : Nat) d v, ρ'[i]? = some (.io d) → vs[i]? = some v → (∃ d0, args[i]? = some (.io d0)) → ∃ a, v = .ref a ∧ B' a ∧ Own K H' B' d a := fun i d v h1 h2 h3 => k (i + 1) d v (by simpa using h1) (by simpa using h2) (by simpa using h3)
      cases s with
      | io d0 =>
        cases r <;> simp only [iosOf] at h <;> try (cases h; done)
        rename_i d
        obtain ⟨ds', h', rfl⟩ := Option.map_eq_some_iff.mp h
        exact ⟨k 0 d v rfl rfl ⟨d0, rfl⟩, ios_ok (σ' := σ') hl' h' k'⟩
      | un =>
        show IosRel K H' B' args vs ds
        exact ios_ok (σ' := σ') hl' (show iosOf args ρ' = some ds from h) k'
      | fz _ =>
        show IosRel K H' B' args vs ds
        exact ios_ok (σ' := σ') hl' (show iosOf args ρ' = some ds from h) k'
      | ow _ =>
        show IosRel K H' B' args vs ds
        exact ios_ok (σ' := σ') hl' (show iosOf args ρ' = some ds from h) k'
      | bw _ =>
        show IosRel K H' B' args vs ds
        exact ios_ok (σ' := σ') hl' (show iosOf args ρ' = some ds from h) k'
end
section
variable {G : Pg} {T : List Fd} {wf k : Nat}
/-- the body keeps the promise -/
theorem body_ok {f : Nat} {d : Fd} (hT : T[f]? = some d) {H : Hp} {vs : List V} {Q : VK} {E : L2.XK} {N : List Str} (hN : N.length = d.n) (h : spOf G (callN T wf (k + 1)) f vs H Q E) :
    vs.length = d.a ∧ TSv G (fun cls x _ H => E cls x H) (evSs (callN T wf k) wf d.ss) { nx := fun _ H' => Q .non H', rt := Q } (L2.start N vs) H := by
  obtain ⟨B, args, g, h⟩ := h
  have hl : args.length = vs.length := by simpa using g.len
  have hc : callN T wf (k + 1) f args = if args.all noOw && decide (args.length = d.a) then outOf args (evSs (callN T wf k) wf d.ss (args ++ List.replicate (d.n - args.length) .un)) else .no := by simp only [callN, hT]
  rw [hc] at h
  by_cases hb : (args.all noOw && decide (args.length = d.a)) = true
  · rw [if_pos hb] at h
    simp only [Bool.and_eq_true, List.all_eq_true, decide_eq_true_eq] at hb
    obtain ⟨how, hla⟩ := hb
    refine ⟨by rw [← hl]; exact hla, B, args ++ List.replicate (d.n - args.length) .un, by unfold L2.start; rw [hN, ← hl]; exact g.start _, ?_⟩
    unfold L2.start
    rw [hN, ← hl]
    have hO : Ow (args ++ List.replicate (d.n - args.length) .un) (vs.map some ++ List.replicate (d.n - args.length) none) = Ow args (vs.map some) := pad_eq hl
    have ios : ∀ {σ' : L2.St} {H' : Hp} {B' : Bs} {ρ' : Ev} {ds : List D}, Good G.K H' B' ρ' σ' → Go H B (args ++ List.replicate (d.n - args.length) .un) (vs.map some ++ List.replicate (d.n - args.length) none) H' B' ρ' σ' → iosOf args ρ' = some ds → IosRel G.K H' B' args vs ds := fun {σ' H' B' ρ' ds} g' s' e => by
      refine ios_ok (σ' := σ') hl e fun i d1 v h1 h2 ⟨d0, h3⟩ => ?_
      have hi : i < args.length := (List.getElem?_eq_some_iff.mp h3).1
      obtain ⟨d', h4, h5⟩ := s'.ki i d0 (by rw [List.getElem?_append_left hi]; exact h3)
      rw [List.getElem?_append_left (by simpa [hl] using hi), List.getElem?_map, h2] at h5
      obtain ⟨a, ev, b, w⟩ := g'.sl i _ _ h1 h5
      cases ev
      exact ⟨a, rfl, b, w⟩
    have step : ∀ {σ' : L2.St} {H' : Hp} {B' : Bs} {ρ' : Ev}, Go H B (args ++ List.replicate (d.n - args.length) .un) (vs.map some ++ List.replicate (d.n - args.length) none) H' B' ρ' σ' → Step H B (Ow args (vs.map some)) H' B' (Ow args (vs.map some)) := fun {σ' H' B' ρ'} s' => by
      have st := s'.st
      rw [hO] at st
      exact ⟨st.keep, st.there, st.bnew, st.bold, fun _ z => .inl z⟩
    generalize evSs (callN T wf k) wf d.ss (args ++ List.replicate (d.n - args.length) .un) = r at h ⊢
    cases r with
    | bk ρ' => exact h.elim
    | ct ρ' => exact h.elim
    | no => exact h.elim
    | nx ρ' =>
      simp only [outOf] at h
      cases e : iosOf args ρ' with
      | none => rw [e] at h; exact h.elim
      | some l =>
        rw [e] at h
        exact fun σ' H' B' g' s' => h .non H' B' (step s') (ios g' s' e) (by show Rep _ _ _ _ _; simp [Rep])
    | rt o d1 ρ' =>
      simp only [outOf] at h
      cases e : iosOf args ρ' with
      | none => rw [e] at h; exact h.elim
      | some l =>
        rw [e] at h
        intro v σ' H' B' g' s' q
        refine h v H' B' (step s') (ios g' s' e) ?_
        cases o with
        | false => exact q
        | true =>
          obtain ⟨a, rfl, b, w, z⟩ := q
          refine ⟨a, rfl, ?_, b, w⟩
          rcases z with z | ⟨j, z1, z2⟩
          · exact z.2
          · refine (s'.st.ow a ⟨j, ⟨d1, .inl z1⟩, z2⟩).elim (fun ⟨i, z3⟩ => ?_) id
            obtain ⟨⟨d0, h3⟩, h4⟩ := pad_ow z3
            rcases h3 with h3 | h3
            · have := how _ (List.mem_of_getElem? h3)
              cases this
            · have hi : i < args.length := (List.getElem?_eq_some_iff.mp h3).1
              obtain ⟨d', h5, h6⟩ := s'.ki i d0 (by rw [List.getElem?_append_left hi]; exact h3)
              rw [List.getElem?_append_left (by simpa [hl] using hi), h4] at h6
              have : i = j := g'.inj i j a ⟨⟨d', .inr h5⟩, h6⟩ ⟨⟨d1, .inl z1⟩, z2⟩
              subst this
              rw [z1] at h5; cases h5
    | ex x ρ' =>
      simp only [outOf] at h
      cases e : iosOf args ρ' with
      | none => rw [e] at h; exact h.elim
      | some l =>
        rw [e] at h
        exact fun cls dd σ' H' B' g' s' q => h cls dd H' B' (step s') (ios g' s' e) q
  · rw [if_neg hb] at h
    exact h.elim
end

/-! ### the defs of a text -/
/-- a def: its name, its parameters, its names -/
structure Df where
  x : Str
  qual : Str
  st : Stmt
  ps : List Str
  N : List Str
  io : List Bool
def fsOf : List Df → Nat → Str → Option (Nat × List Bool)
  | [], _, _ => none
  | d :: ds, i, x => if x = d.x then some (i, d.io) else fsOf ds (i + 1) x
theorem fsOf_ok : ∀ {ds : List Df} {n : Nat} {x : Str} {i : Nat} {io : List Bool}, fsOf ds n x = some (i, io) → ∃ d j, ds[j]? = some d ∧ i = n + j ∧ x = d.x
  | [], _, _, _, _, h => by cases h
  | d :: ds, n, x, i, io, h => by
    unfold fsOf at h
    split at h
    · rename_i e
      cases h
      exact ⟨d, 0, rfl, rfl, e⟩
    · obtain ⟨d', j, h1, h2, h3⟩ := fsOf_ok h
      exact ⟨d', j + 1, by simpa using h1, by omega, h3⟩
/-- the names of a def's body -/
def tcOf (con : Str → Option D) (free : Str → Bool) (dic : Str → Option (List (Str × D))) (ds : List Df) (d : Df) : TC := ⟨d.N, defScope d.st, fun _ => true, free, con, fsOf ds 0, dic⟩
structure DfOk (K : PySem.W.Frag) (mg : Str → Option Value) (d : Df) (f : Addr) (fd : FuncData) : Prop where
  fn : FunD K d.x d.qual (defArgs d.st) (defBody d.st) (defScope d.st) [] [] f fd
  sc : FnScope d.N d.ps (defScope d.st)
  mg : mg d.x = some (.ref f)
  bind : Binds K fd d.ps []
/-- the evaluator's table is the text's -/
def tabOf (con : Str → Option D) (free : Str → Bool) (dic : Str → Option (List (Str × D))) (n m : Nat) (ds : List Df) : List Fd := ds.map fun d => ⟨d.N.length, d.ps.length, mkSs (trS n (tcOf con free dic ds d) m) (defBody d.st)⟩
theorem defs_ok {P : Program} {w : World} {G : Pg} {base : Heap} {con : Str → Option D} {free : Str → Bool} {dic : Str → Option (List (Str × D))} {ds : List Df} {ad : Nat → Addr} {fdd : Nat → FuncData} {n m wf : Nat} (hcon : ∀ x d, con x = some d → ConOk G x d) (hdic : ∀ x kvs, dic x = some kvs → DicOk G w x kvs) (hfree : ∀ x, free x = true → G.mg x = none)
    (hd : ∀ (i : Nat) (d : Df), ds[i]? = some d → DfOk G.K G.mg d (ad i) (fdd i)) : ∀ (k : Nat) (i : Nat) (d : Df), ds[i]? = some d → FnOk P w G.K G.mg base (L2.CX P w) k (ad i) (fdd i) d.ps (spOf G (callN (tabOf con free dic n m ds) wf k) i)
  | 0, i, d, h => ⟨fun vs H Q E ⟨B, args, g, z⟩ => z.elim, fun A outer s H args us vs Q E hr e0 hb r ⟨B, as, g, z⟩ => z.elim⟩
  | k + 1, i, d, h => by
    have ok := hd i d h
    obtain ⟨oc, od, dV, kV, doc, pm, an, cdv, ct, osl, efd, lk, hcd, _, _⟩ := ok.fn.ex
    rw [efd]
    rw [efd] at lk
    have ht : (tabOf con free dic n m ds)[i]? = some ⟨d.N.length, d.ps.length, mkSs (trS n (tcOf con free dic ds d) m) (defBody d.st)⟩ := by
      unfold tabOf
      rw [List.getElem?_map, h]
      rfl
    refine fn_of lk hcd ok.sc (fun vs H Q E z => (body_ok (N := d.N) ht rfl z).1) fun A outer s H vs Q E hr z => ?_
    refine ⟨_, mkSs_ok (trS_ok (F := callN (tabOf con free dic n m ds) wf k) (G := G) (W := fun cls x _ H => E cls x H) (C := tcOf con free dic ds d) ?_ n wf m) (defBody d.st), (body_ok (N := d.N) ht rfl z).2⟩
    refine { K := rfl, mg := rfl, N := rfl, sc := rfl, nd := ok.sc.nd, calm := rfl, u := ?_, fn := fun _ _ => rfl, tk := takes_of rfl rfl rfl rfl, free := hfree, con := hcon, dic := hdic, fs := fun x f io e => ?_, own := passes_of rfl }
    · have := hr.un
      show (A.deeper _).units + 65 < cLine
      omega
    · obtain ⟨d', j, h1, h2, rfl⟩ := fsOf_ok e
      rw [Nat.zero_add] at h2
      subst h2
      have ok' := hd f d' h1
      exact ⟨ad f, fdd f, d'.ps, k, defs_ok hcon hdic hfree hd k f d' h1, hr, ok'.mg, ok'.fn.kp, ok'.bind⟩
end G
end

section
set_option Elab.async false
set_option linter.all false
set_option maxRecDepth 100000
set_option maxHeartbeats 4000000
/-! G18: the head. -/
namespace G
open PySem PySem.Spec PyProof.Rows L2

/-! ### constants of the module -/
mutual
def repK (K : PySem.W.Frag) : D → Value → Bool
  | .non, .none => true
  | .bl b, .bool c => b == c
  | .int i, .int j _ => i == j
  | .str x, .str y _ => x == y
  | .tup ds, .ref a => match K.lookup a with
    | some ⟨.type t, _, .seq its _, _⟩ => t == "tuple" && decide (its.size ≤ sizeLine) && repsK K ds its.toList
    | _ => false
  | .frl ds, .ref a => match K.lookup a with
    | some ⟨.type t, none, .seq its _, _⟩ => t == "list" && decide (its.size ≤ sizeLine) && repsK K ds its.toList
    | _ => false
  | _, _ => false
def repsK (K : PySem.W.Frag) : List D → List Value → Bool
  | [], [] => true
  | d :: ds, u :: us => repK K d u && repsK K ds us
  | _, _ => false
end
mutual
theorem repK_ok {K : PySem.W.Frag} : ∀ (d : D) (u : Value), repK K d u = true → ∃ v, RelV v u ∧ ∀ H B, Rep K H B d v
  | .non, u, h => by
    cases u <;> simp only [repK] at h <;> try (cases h; done)
    exact ⟨.non, rfl, fun _ _ => by simp [Rep]⟩
  | .bl b, u, h => by
    cases u <;> simp only [repK] at h <;> try (cases h; done)
    rename_i c
    have : b = c := by simpa using h
    subst this
    exact ⟨.bl b, rfl, fun _ _ => by simp [Rep]⟩
  | .int i, u, h => by
    cases u <;> simp only [repK] at h <;> try (cases h; done)
    rename_i c t
    have : i = c := by simpa using h
    subst this
    exact ⟨.int i, ⟨_, rfl⟩, fun _ _ => by simp [Rep]⟩
  | .str i, u, h => by
    cases u <;> simp only [repK] at h <;> try (cases h; done)
    rename_i c t
    have : i = c := by simpa using h
    subst this
    exact ⟨.str i, ⟨_, rfl⟩, fun _ _ => by simp [Rep]⟩
  | .tup ds, u, h => by
    cases u <;> simp only [repK] at h <;> try (cases h; done)
    rename_i a
    split at h <;> try (cases h; done)
    rename_i t dd its n sl e
    simp only [Bool.and_eq_true, decide_eq_true_eq, beq_iff_eq] at h
    obtain ⟨⟨rfl, h2⟩, h3⟩ := h
    obtain ⟨vs, r, q⟩ := repsK_ok ds its.toList h3
    refine ⟨.ref a, rfl, fun H B => ?_⟩
    simp only [Rep]
    exact ⟨a, vs, rfl, .inr ⟨_, its, n, e, rfl, rfl, h2, r⟩, q H B⟩
  | .frl ds, u, h => by
    cases u <;> simp only [repK] at h <;> try (cases h; done)
    rename_i a
    split at h <;> try (cases h; done)
    rename_i t its n sl e
    simp only [Bool.and_eq_true, decide_eq_true_eq, beq_iff_eq] at h
    obtain ⟨⟨rfl, h2⟩, h3⟩ := h
    obtain ⟨vs, r, q⟩ := repsK_ok ds its.toList h3
    refine ⟨.ref a, rfl, fun H B => ?_⟩
    simp only [Rep]
    exact ⟨a, vs, rfl, .inr ⟨_, its, n, e, rfl, rfl, rfl, h2, r⟩, q H B⟩
  | .lst ds, u, h => by
    cases u <;> simp only [repK] at h <;> cases h
theorem repsK_ok {K : PySem.W.Frag} : ∀ (ds : List D) (us : List Value), repsK K ds us = true → ∃ vs, Vals vs us ∧ ∀ H B, Reps K H B ds vs
  | [], [], _ => ⟨[], .nil, fun _ _ => by simp [Reps]⟩
  | [], _ :: _, h => by simp [repsK] at h
  | _ :: _, [], h => by simp [repsK] at h
  | d :: ds, u :: us, h => by
    simp only [repsK, Bool.and_eq_true] at h
    obtain ⟨v, r, q⟩ := repK_ok d u h.1
    obtain ⟨vs, rs, qs⟩ := repsK_ok ds us h.2
    refine ⟨v :: vs, .cons r rs, fun H B => ?_⟩
    simp only [Reps]
    exact ⟨v, vs, rfl, q H B, qs H B⟩
end
/-- a plain tuple -/
def plainT (K : PySem.W.Frag) : D → Value → Bool
  | .tup _, .ref a => match K.lookup a with
    | some ⟨_, none, _, _⟩ => true
    | _ => false
  | _, _ => true
def conK (K : PySem.W.Frag) (p : Str × D) : Bool := match PySem.W.nsIn K mainGlobals p.1 with
  | some (some u) => repK K p.2 u && plainT K p.2 u
  | _ => false
theorem conK_ok {K : PySem.W.Frag} {h : Heap} {mg : Str → Option Value} (X : K.In h) (G : h.Ns mainGlobals mg) {p : Str × D} (c : conK K p = true) : ConOk ⟨K, mg⟩ p.1 p.2 := by
  unfold conK at c
  split at c <;> try (cases c; done)
  rename_i u e
  simp only [Bool.and_eq_true] at c
  have hm := PySem.W.mg_of X G e
  obtain ⟨v, r, q⟩ := repK_ok p.2 u c.1
  refine ⟨v, fun X pos hmg hg hd => pe_glob hg (by rw [hmg]; exact hm) r hd, q, fun ds ed => ?_⟩
  obtain ⟨x, d⟩ := p
  simp only at ed c
  subst ed
  have q := q (fun _ => none) (fun _ => False)
  simp only [Rep] at q
  obtain ⟨a, vs, rfl, hq, _⟩ := q
  rcases hq with (hq | ⟨_, hq⟩) | ⟨o, its, n, hk, hc, _⟩
  · cases hq
  · cases hq
  · cases r
    refine ⟨a, o, rfl, hk, hc, ?_⟩
    have c2 := c.2
    simp only [plainT, hk] at c2
    split at c2
    · rename_i e; cases e; rfl
    · cases c2

/-! ### dicts of the module -/
def valsK (K : PySem.W.Frag) (a : Addr) (kvs : List (Str × D)) : Bool := kvs.all fun q => match PySem.W.nsIn K a q.1 with
  | some (some u) => repK K q.2 u
  | _ => false
theorem lookup_in {α β : Type} [BEq α] [LawfulBEq α] : ∀ {l : List (α × β)} {x : α} {y : β}, l.lookup x = some y → (x, y) ∈ l
  | [], _, _, h => by cases h
  | (a, b) :: l, x, y, h => by
    unfold List.lookup at h
    split at h
    · rename_i e
      cases h
      rw [beq_iff_eq.mp e]
      exact List.mem_cons_self
    · exact List.mem_cons_of_mem _ (lookup_in h)
theorem lookup_no {β : Type} : ∀ {l : List (Str × β)} {x : Str}, l.lookup x = none → x ∉ l.map (·.1)
  | [], _, _ => by simp
  | (a, b) :: l, x, h => by
    unfold List.lookup at h
    split at h
    · cases h
    · rename_i e
      rw [List.map_cons, List.mem_cons]
      exact fun z => z.elim (fun z => by subst z; simp at e) (lookup_no h)
theorem keys_no {P : Params} {z : Str} : ∀ {l : List DictEntry} {ks : List Str}, l.map He.keyOf = He.keysIn P ks → z ∉ ks → l.find? (·.key.isStr z) = none ∧ l.any (·.refKey) = false
  | [], _, _, _ => ⟨rfl, rfl⟩
  | e :: r, [], h, _ => by cases h
  | e :: r, k :: ks, h, hz => by
    have h1 : He.keyOf e :: r.map He.keyOf = some (k, PyData.keyHash P k) :: He.keysIn P ks := h
    injection h1 with h2 h3
    obtain ⟨i1, i2⟩ := keys_no h3 fun q => hz (List.mem_cons_of_mem _ q)
    unfold He.keyOf at h2
    split at h2
    · rename_i x t q
      have h4 := (Prod.mk.inj (Option.some.inj h2)).1
      have hk : (x == z) = false := by
        rw [h4]
        exact beq_eq_false_iff_ne.mpr fun e => hz (by rw [← e]; exact List.mem_cons_self)
      have e1 : e.key.isStr z = false := by rw [q]; exact hk
      have e2 : e.refKey = false := by unfold DictEntry.refKey; rw [q]
      exact ⟨by rw [List.find?_cons, e1]; exact i1, by rw [List.any_cons, e2, i2]; rfl⟩
    · cases h2
theorem dicK_ok {K : PySem.W.Frag} {mg : Str → Option Value} {w : World} {x : Str} {a : Addr} {kvs : List (Str × D)} (hm : mg x = some (.ref a)) (hd : He.dicW K a = some (He.keysIn w.params (kvs.map (·.1)))) (hv : valsK K a kvs = true) : DicOk ⟨K, mg⟩ w x kvs := by
  obtain ⟨es, n, D⟩ := He.dicW_ok hd
  have hk : es.toList.map He.keyOf = He.keysIn w.params (kvs.map (·.1)) := by
    unfold He.dicW at hd
    rw [D.at_] at hd
    simpa [D.low] using hd
  refine ⟨a, es, n, hm, D, fun z => ⟨fun d e => ?_, fun e => ?_⟩⟩
  · have h2 := List.all_eq_true.mp hv (z, d) (lookup_in e)
    split at h2
    · rename_i u e3
      obtain ⟨v, r, q⟩ := repK_ok d u h2
      exact ⟨u, v, e3, r, q⟩
    · cases h2
  · obtain ⟨h1, h2⟩ := keys_no hk (lookup_no e)
    unfold PySem.W.nsIn
    rw [D.at_]
    show (match es.toList.find? (·.key.isStr z) with | some e => some (some e.val) | none => if es.toList.any (·.refKey) then none else some none) = some none
    rw [h1, h2]
    rfl

/-! ### the hook -/
def Df.def_ (d : Df) : He.DefD := ⟨(d.x, none), d.x, d.qual, defArgs d.st, defBody d.st, defScope d.st, [], []⟩
abbrev Dcs : Type := List (Str × List (Str × D))
def faOf (ds : List Df) (fr : List Str) (dcs : Dcs) : List He.Fa := ds.map (fun d => .glo d.x) ++ (fr.map .free ++ dcs.map fun p => .glo p.1)
abbrev AlG : Type := He.AlD × Bool × List (Option (List (Option (Str × Int))))
def obsG (fa : List He.Fa) (fn : List He.DefD) (cs : List (Str × D)) (dcs : Dcs) (K : PySem.W.Frag) : AlG := (He.obsD fa fn K, cs.all (conK K) && dcs.all (fun p => valsK K (He.ga K p.1) p.2), dcs.map fun p => He.dicW K (He.ga K p.1))
def valG (fn : List He.DefD) (dcs : Dcs) (w : World) : AlG := (He.valD fn, true, dcs.map fun p => some (He.keysIn w.params (p.2.map (·.1))))
def obsGG (n : Nat) (fa : List He.Fa) (fn : List He.DefD) (cs : List (Str × D)) (dcs : Dcs) (g : Addr → Option Obj) : AlG := obsG fa fn cs dcs (He.frG g (He.asD g n))
structure SaysG (fa : List He.Fa) (fn : List He.DefD) (cs : List (Str × D)) (dcs : Dcs) (w : World) (K : PySem.W.Frag) : Prop where
  d : He.SaysD fa fn K
  c : cs.all (conK K) = true
  v : dcs.all (fun p => valsK K (He.ga K p.1) p.2) = true
  t : dcs.map (fun p => He.dicW K (He.ga K p.1)) = dcs.map fun p => some (He.keysIn w.params (p.2.map (·.1)))
theorem says_of {fa : List He.Fa} {fn : List He.DefD} {cs : List (Str × D)} {dcs : Dcs} {w : World} {K : PySem.W.Frag} (e : obsG fa fn cs dcs K = valG fn dcs w) : SaysG fa fn cs dcs w K := by
  have e1 := congrArg (fun z : AlG => z.2.1) e
  have e1 : (cs.all (conK K) && dcs.all (fun p => valsK K (He.ga K p.1) p.2)) = true := e1
  rw [Bool.and_eq_true] at e1
  exact ⟨congrArg Prod.fst e, e1.1, e1.2, congrArg (fun z : AlG => z.2.2) e⟩
theorem SaysG.dic {fa : List He.Fa} {fn : List He.DefD} {cs : List (Str × D)} {dcs : Dcs} {w : World} {K : PySem.W.Frag} (c : SaysG fa fn cs dcs w K) {p : Str × List (Str × D)} (h : p ∈ dcs) : He.dicW K (He.ga K p.1) = some (He.keysIn w.params (p.2.map (·.1))) := by
  obtain ⟨i, hi, rfl⟩ := List.getElem_of_mem h
  have e2 : (dcs.map (fun p => He.dicW K (He.ga K p.1)))[i]? = (dcs.map fun p => some (He.keysIn w.params (p.2.map (·.1))))[i]? := by rw [c.t]
  rw [List.getElem?_map, List.getElem?_map, List.getElem?_eq_getElem hi] at e2
  exact Option.some.inj e2
def hookG (n : Nat) (fa : List He.Fa) (fn : List He.DefD) (cs : List (Str × D)) (dcs : Dcs) : PySem.W.Hook where
  α := AlG
  obs := fun s => obsGG n fa fn cs dcs s.heap.get?
  val := fun w => valG fn dcs w
  says := fun w h => ∃ K : PySem.W.Frag, K.In h ∧ SaysG fa fn cs dcs w K
  of := fun _ _ e => ⟨_, He.frG_in, says_of e⟩
  keeps := fun _ _ _ ⟨K, hK, c⟩ k => ⟨K, PySem.W.Frag.In.keeps hK k, c⟩
theorem obsGG_eq {n : Nat} {fa : List He.Fa} {fn : List He.DefD} {cs : List (Str × D)} {dcs : Dcs} {g : Addr → Option Obj} {s : Shared} (h : ∀ a, g a = s.heap.get? a) : obsGG n fa fn cs dcs g = (hookG n fa fn cs dcs).obs s := by
  have e : g = s.heap.get? := funext h
  rw [e] <;> rfl
theorem fact_in {fa : List He.Fa} {fn : List He.DefD} {K : PySem.W.Frag} (c : He.SaysD fa fn K) {f : He.Fa} (h : f ∈ fa) : f.ok K = true := by
  have c1 := (He.ba (show ((fa.all fun f => f.ok K) && fn.all fun d => d.ok K) = true from congrArg (fun z : He.AlD => z.1) c)).1
  exact List.all_eq_true.mp c1 f h

/-! ### the end -/
theorem walk_G {l : PySem.W.OpenLaw} {n k : Nat} {q : Program} {loose : List Str} {XP : (Str → Option Value) → Heap → Prop} {YP : World → Heap → Prop} {d : DefRec} {x : Str}
    (hn : l.most = some n) (hn2 : n ≤ sizeLine) (hdf : d.params.defaults = []) (hr : Room k callerA)
    (F : ∀ (w : World) (mg : Str → Option Value) (fa : Addr) (h : Heap), YP w h → h.Ns mainGlobals mg → mg d.name = some (.ref fa) →
      ∃ (K : PySem.W.Frag) (fd : FuncData) (sp : Sp), K.In h ∧ (∀ (s : Shared) (u : Value), BindsTo s fd ⟨[u], []⟩ [(x, u)]) ∧
        (∀ (H : Hp) (a : Addr) (ns : List Int), ns.length ≤ n → Only H → SqL K H a (ns.map V.int) → sp [.ref a] H (fun v _ => v = .bl true) fun _ _ _ => False) ∧
        ∀ base : Heap, K.In base → base.Ns mainGlobals mg → FnOk l.prog w K mg base (L2.CX l.prog w) k fa fd [x] sp) :
    PySem.W.WalkO q loose XP YP l.row.toRowW d [] (fun f vs => PySem.call f vs) := by
  refine Att.attach_call hn hdf fun w s₀ s₁ mg mb fa o pm cd doc a vs ns G Y ho hd hcd hmg hobj hints hlen hg => ?_
  obtain ⟨K, fd, sp, KX, hb, hsp, hF⟩ := F w mg fa _ Y G.T.g hmg
  exact law_call KX G.T.g G.T.b G.T.builtins G.T.nolimit hg hobj hints (Nat.le_trans hlen hn2) hr hF hb (fun H hO hS => hsp H a ns hlen hO hS) fun H e s' z => by
    obtain ⟨_, _, _, _, _, _, _, _, _, _, _, _, h⟩ := z
    exact h
def BindOk (d : Df) : Prop := ∀ (kV doc pm : Value) (an : Option Addr) (cdv ct : Value) (us : List Value), us.length = d.ps.length → bindArgs (PySem.W.fnOf d.x d.qual (defArgs d.st) (defBody d.st) (defScope d.st) .none kV doc pm an cdv ct) ⟨us, []⟩ = pure (d.ps.zip us)
def conOf (cs : List (Str × D)) (x : Str) : Option D := cs.lookup x
def dicsOf (dcs : Dcs) (x : Str) : Option (List (Str × D)) := dcs.lookup x
def freeOf (fr : List Str) (x : Str) : Bool := fr.contains x
/-- a law: by what the evaluator answers to each script -/
theorem law_G {l : PySem.W.OpenLaw} {n k : Nat} {q : Program} {loose : List Str} {XP : (Str → Option Value) → Heap → Prop} {d : DefRec} {ds : List Df} {fr : List Str} {cs : List (Str × D)} {dcs : Dcs} {a b wf ix : Nat} {dl : Df}
    (hn : l.most = some n) (hn2 : n ≤ sizeLine) (hdf : d.params.defaults = []) (hr : Room k callerA) (hx : d.name = dl.x) (hl : ds[ix]? = some dl) (hps : dl.ps = [("script" : Str)]) (hsc : ∀ d ∈ ds, FnScope d.N d.ps (defScope d.st)) (hb : ∀ d ∈ ds, BindOk d)
    (plain : ∀ ns : List Int, ns.length ≤ n → callN (tabOf (conOf cs) (freeOf fr) (dicsOf dcs) a b ds) wf k ix [.fz (.frl (ns.map .int))] = .rt false (.bl true) []) :
    PySem.W.WalkO q loose XP (fun w h => ∃ K : PySem.W.Frag, K.In h ∧ SaysG (faOf ds fr dcs) (ds.map Df.def_) cs dcs w K) l.row.toRowW d [] (fun f vs => PySem.call f vs) := by
  refine walk_G (n := n) (k := k) (x := "script") hn hn2 hdf hr fun w mg fa h ⟨K, KX, c⟩ G hmg => ?_
  have hd : ∀ d ∈ ds, ∃ fd, FunD K d.x d.qual (defArgs d.st) (defBody d.st) (defScope d.st) [] [] (He.ga K d.x) fd := fun d hd => by
    obtain ⟨i, hi, e⟩ := List.getElem_of_mem hd
    obtain ⟨fd, F⟩ := c.d.def_ i (d := d.def_) (by rw [List.getElem?_map, List.getElem?_eq_getElem hi, e]; rfl)
    exact ⟨fd, F⟩
  have hglo : ∀ d ∈ ds, mg d.x = some (.ref (He.ga K d.x)) := fun d hd => He.glo_ok KX G (fact_in c.d (List.mem_append_left _ (List.mem_map.mpr ⟨d, hd, rfl⟩)))
  have hfd : ∃ fdd : Nat → FuncData, ∀ (i : Nat) (d : Df), ds[i]? = some d → FunD K d.x d.qual (defArgs d.st) (defBody d.st) (defScope d.st) [] [] (He.ga K d.x) (fdd i) := by
    have : ∀ i : Nat, ∃ fd, ∀ d : Df, ds[i]? = some d → FunD K d.x d.qual (defArgs d.st) (defBody d.st) (defScope d.st) [] [] (He.ga K d.x) fd := fun i => by
      cases e : ds[i]? with
      | none => exact ⟨(hd dl (List.mem_of_getElem? hl)).choose, fun d h => by cases h⟩
      | some d =>
        obtain ⟨fd, F⟩ := hd d (List.mem_of_getElem? e)
        exact ⟨fd, fun d' h => by cases h; exact F⟩
    exact ⟨fun i => (this i).choose, fun i => (this i).choose_spec⟩
  obtain ⟨fdd, hfd⟩ := hfd
  let ad : Nat → Addr := fun i => match ds[i]? with
    | some d => He.ga K d.x
    | none => 0
  have had : ∀ (i : Nat) (d : Df), ds[i]? = some d → ad i = He.ga K d.x := fun i d h => by simp only [ad, h]
  have ok : ∀ (i : Nat) (d : Df), ds[i]? = some d → DfOk K mg d (ad i) (fdd i) := fun i d h => by
    have hm := List.mem_of_getElem? h
    rw [had i d h]
    exact ⟨hfd i d h, hsc d hm, hglo d hm, FunD.bindsN (hfd i d h) (hb d hm)⟩
  have efa : fa = ad ix := by
    have e1 := hglo dl (List.mem_of_getElem? hl)
    have h2 : mg dl.x = some (.ref fa) := by rw [← hx]; exact hmg
    rw [had ix dl hl]
    exact Value.ref.inj (Option.some.inj (h2.symm.trans e1))
  rw [efa]
  refine ⟨K, fdd ix, spOf ⟨K, mg⟩ (callN (tabOf (conOf cs) (freeOf fr) (dicsOf dcs) a b ds) wf k) ix, KX, fun s u => ?_, fun H p ns hlen hO hS => ?_, fun base hKb hGb => ?_⟩
  · have q := FunD.bindsA (ps := dl.ps) (hfd ix dl hl) (hb dl (List.mem_of_getElem? hl)) s [u] (by rw [hps]; rfl)
    rw [hps] at q
    exact q
  · have hF : SqF K H p (ns.map V.int) := by
      rcases hS with (h | ⟨o, h⟩) | h
      · rcases hO p with e | ⟨o, xs, e⟩ <;> (rw [e] at h; cases h)
      · exact .inl ⟨o, h⟩
      · exact .inr h
    have hR : ∀ ns : List Int, Reps K H (fun _ => False) (ns.map .int) (ns.map V.int) := fun ns => by
      induction ns with
      | nil => simp [Reps]
      | cons i ns ih => simp only [List.map_cons, Reps, Rep]; exact ⟨_, _, rfl, rfl, ih⟩
    refine ⟨fun _ => False, [.fz (.frl (ns.map .int))], ⟨rfl, fun i s o e1 e2 => ?_, fun i j b z => ?_⟩, ?_⟩
    · cases i with
      | zero =>
        cases e1; cases e2
        refine ⟨_, rfl, ?_⟩
        simp only [Rep]
        exact ⟨p, _, rfl, hF, hR ns⟩
      | succ i => simp at e1
    · obtain ⟨⟨d, h⟩, _⟩ := z
      cases i with
      | zero => rcases h with h | h <;> cases h
      | succ i => simp at h
    · rw [plain ns hlen]
      intro v H' B' _ _ q
      have q : Rep K H' B' (.bl true) v := q
      simpa only [Rep] using q
  · have q := defs_ok (P := l.prog) (w := w) (G := ⟨K, mg⟩) (base := base) (con := conOf cs) (free := freeOf fr) (dic := dicsOf dcs) (ds := ds) (ad := ad) (fdd := fdd) (n := a) (m := b) (wf := wf)
      (fun x d e => conK_ok hKb hGb (List.all_eq_true.mp c.c (x, d) (lookup_in e)))
      (fun x kvs e => dicK_ok (He.glo_ok KX G (fact_in c.d (List.mem_append_right _ (List.mem_append_right _ (List.mem_map.mpr ⟨(x, kvs), lookup_in e, rfl⟩))))) (c.dic (lookup_in e)) (List.all_eq_true.mp c.v (x, kvs) (lookup_in e))) (fun x e => He.free_ok KX G (fact_in c.d (List.mem_append_right _ (List.mem_append_left _ (List.mem_map.mpr ⟨x, by simpa [freeOf] using e, rfl⟩))))) ok k ix dl hl
    rw [hps] at q
    exact q
end G
end

section
set_option Elab.async false
set_option linter.all false
set_option maxRecDepth 100000
set_option maxHeartbeats 4000000
namespace K21
open PySem PySem.Spec PyProof.Rows L2 G
def top (i : Nat) : Stmt := PySem.Challenge.pw_gatesound_k21_circuits_that_feed_themsel.main.body.getD i (.Pass ⟨0, 0, 0, 0⟩)
/-- is_integer -/
def d0 : Df := ⟨"is_integer", "is_integer", top 4, ["value", "low", "high"], ["value", "low", "high"], [false, false, false]⟩
/-- is_row -/
def d1 : Df := ⟨"is_row", "is_row", top 5, ["value", "low", "high"], ["value", "low", "high", "one"], [false, false, false]⟩
/-- is_gate -/
def d2 : Df := ⟨"is_gate", "is_gate", top 12, ["value", "number"], ["value", "number"], [false, false]⟩
/-- is_circuit -/
def d3 : Df := ⟨"is_circuit", "is_circuit", top 13, ["value"], ["value", "inputs", "starts", "gates", "nexts", "outputs", "first", "many", "k", "gate"], [false]⟩
/-- check_circuit -/
def d4 : Df := ⟨"check_circuit", "check_circuit", top 14, ["circuit"], ["circuit"], [false]⟩
/-- value_of -/
def d5 : Df := ⟨"value_of", "value_of", top 15, ["gate", "bits"], ["gate", "bits", "word"], [false, false]⟩
/-- values -/
def d6 : Df := ⟨"values", "values", top 16, ["circuit", "state", "letter"], ["circuit", "state", "letter", "bits", "gate"], [false, false, false]⟩
/-- step -/
def d7 : Df := ⟨"step", "step", top 17, ["circuit", "state", "letter"], ["circuit", "state", "letter", "bits", "k"], [false, false, false]⟩
/-- run -/
def d8 : Df := ⟨"run", "run", top 18, ["circuit", "word"], ["circuit", "word", "state", "found", "letter", "outputs"], [false, false]⟩
/-- all_rows -/
def d9 : Df := ⟨"all_rows", "all_rows", top 19, ["many"], ["many", "found", "_", "row", "bit"], [false]⟩
/-- checked -/
def d10 : Df := ⟨"checked", "checked", top 21, ["circuit"], ["circuit"], [false]⟩
/-- made_bits -/
def d11 : Df := ⟨"made_bits", "made_bits", top 23, ["taps", "seed", "many"], ["taps", "seed", "many", "bits", "told", "k", "tap"], [false, false, false]⟩
/-- least_feedback -/
def d12 : Df := ⟨"least_feedback", "least_feedback", top 24, ["bits"], ["bits", "many", "taps"], [false]⟩
/-- seed_of -/
def d13 : Df := ⟨"seed_of", "seed_of", top 25, ["bits", "many"], ["bits", "many"], [false, false]⟩
/-- feedback_circuit -/
def d14 : Df := ⟨"feedback_circuit", "feedback_circuit", top 26, ["taps", "seed"], ["taps", "seed", "many", "used", "gates", "told", "k", "nexts"], [false, false]⟩
/-- _law_draw -/
def d15 : Df := ⟨"_law_draw", "_law_draw", top 28, ["script"], ["script", "seed", "cell"], [false]⟩
/-- _law_take -/
def d16 : Df := ⟨"_law_take", "_law_take", top 29, ["draw", "many"], ["draw", "many", "found"], [true, false]⟩
/-- law -/
def d17 : Df := ⟨"law", "law", top 30, ["script"], ["script", "draw", "many", "taps", "seed", "circuit", "used", "due", "length", "bits", "fewest", "first", "k", "gate", "bit"], [false]⟩
def ds : List Df := [d0, d1, d2, d3, d4, d5, d6, d7, d8, d9, d10, d11, d12, d13, d14, d15, d16, d17]
def fr : List Str := ["range", "len", "enumerate", "tuple", "list", "isinstance", "int", "bool", "str", "abs", "max", "all", "sorted"]
def cs : List (Str × D) := [("MAX_INPUTS", .int (6)), ("MAX_REGISTERS", .int (5)), ("MAX_GATES", .int (48)), ("MAX_OUTPUTS", .int (6))]
def dcs : Dcs := [("SIGNALS_OF", [("not", .int (1)), ("and", .int (2)), ("or", .int (2)), ("xor", .int (2)), ("pick", .int (3))])]
theorem sc0 : FnScope d0.N d0.ps (defScope d0.st) := ⟨rfl, rfl, rfl, by decide +kernel, by kernel_rfl, by decide +kernel, by decide +kernel⟩
theorem bk0 : BindOk d0 := fun _ _ _ _ _ _ us hl => match us, hl with | [_, _, _], _ => rfl
theorem sc1 : FnScope d1.N d1.ps (defScope d1.st) := ⟨rfl, rfl, rfl, by decide +kernel, by kernel_rfl, by decide +kernel, by decide +kernel⟩
theorem bk1 : BindOk d1 := fun _ _ _ _ _ _ us hl => match us, hl with | [_, _, _], _ => rfl
theorem sc2 : FnScope d2.N d2.ps (defScope d2.st) := ⟨rfl, rfl, rfl, by decide +kernel, by kernel_rfl, by decide +kernel, by decide +kernel⟩
theorem bk2 : BindOk d2 := fun _ _ _ _ _ _ us hl => match us, hl with | [_, _], _ => rfl
theorem sc3 : FnScope d3.N d3.ps (defScope d3.st) := ⟨rfl, rfl, rfl, by decide +kernel, by kernel_rfl, by decide +kernel, by decide +kernel⟩
theorem bk3 : BindOk d3 := fun _ _ _ _ _ _ us hl => match us, hl with | [_], _ => rfl
theorem sc4 : FnScope d4.N d4.ps (defScope d4.st) := ⟨rfl, rfl, rfl, by decide +kernel, by kernel_rfl, by decide +kernel, by decide +kernel⟩
theorem bk4 : BindOk d4 := fun _ _ _ _ _ _ us hl => match us, hl with | [_], _ => rfl
theorem sc5 : FnScope d5.N d5.ps (defScope d5.st) := ⟨rfl, rfl, rfl, by decide +kernel, by kernel_rfl, by decide +kernel, by decide +kernel⟩
theorem bk5 : BindOk d5 := fun _ _ _ _ _ _ us hl => match us, hl with | [_, _], _ => rfl
theorem sc6 : FnScope d6.N d6.ps (defScope d6.st) := ⟨rfl, rfl, rfl, by decide +kernel, by kernel_rfl, by decide +kernel, by decide +kernel⟩
theorem bk6 : BindOk d6 := fun _ _ _ _ _ _ us hl => match us, hl with | [_, _, _], _ => rfl
theorem sc7 : FnScope d7.N d7.ps (defScope d7.st) := ⟨rfl, rfl, rfl, by decide +kernel, by kernel_rfl, by decide +kernel, by decide +kernel⟩
theorem bk7 : BindOk d7 := fun _ _ _ _ _ _ us hl => match us, hl with | [_, _, _], _ => rfl
theorem sc8 : FnScope d8.N d8.ps (defScope d8.st) := ⟨rfl, rfl, rfl, by decide +kernel, by kernel_rfl, by decide +kernel, by decide +kernel⟩
theorem bk8 : BindOk d8 := fun _ _ _ _ _ _ us hl => match us, hl with | [_, _], _ => rfl
theorem sc9 : FnScope d9.N d9.ps (defScope d9.st) := ⟨rfl, rfl, rfl, by decide +kernel, by kernel_rfl, by decide +kernel, by decide +kernel⟩
theorem bk9 : BindOk d9 := fun _ _ _ _ _ _ us hl => match us, hl with | [_], _ => rfl
theorem sc10 : FnScope d10.N d10.ps (defScope d10.st) := ⟨rfl, rfl, rfl, by decide +kernel, by kernel_rfl, by decide +kernel, by decide +kernel⟩
theorem bk10 : BindOk d10 := fun _ _ _ _ _ _ us hl => match us, hl with | [_], _ => rfl
theorem sc11 : FnScope d11.N d11.ps (defScope d11.st) := ⟨rfl, rfl, rfl, by decide +kernel, by kernel_rfl, by decide +kernel, by decide +kernel⟩
theorem bk11 : BindOk d11 := fun _ _ _ _ _ _ us hl => match us, hl with | [_, _, _], _ => rfl
theorem sc12 : FnScope d12.N d12.ps (defScope d12.st) := ⟨rfl, rfl, rfl, by decide +kernel, by kernel_rfl, by decide +kernel, by decide +kernel⟩
theorem bk12 : BindOk d12 := fun _ _ _ _ _ _ us hl => match us, hl with | [_], _ => rfl
theorem sc13 : FnScope d13.N d13.ps (defScope d13.st) := ⟨rfl, rfl, rfl, by decide +kernel, by kernel_rfl, by decide +kernel, by decide +kernel⟩
theorem bk13 : BindOk d13 := fun _ _ _ _ _ _ us hl => match us, hl with | [_, _], _ => rfl
theorem sc14 : FnScope d14.N d14.ps (defScope d14.st) := ⟨rfl, rfl, rfl, by decide +kernel, by kernel_rfl, by decide +kernel, by decide +kernel⟩
theorem bk14 : BindOk d14 := fun _ _ _ _ _ _ us hl => match us, hl with | [_, _], _ => rfl
theorem sc15 : FnScope d15.N d15.ps (defScope d15.st) := ⟨rfl, rfl, rfl, by decide +kernel, by kernel_rfl, by decide +kernel, by decide +kernel⟩
theorem bk15 : BindOk d15 := fun _ _ _ _ _ _ us hl => match us, hl with | [_], _ => rfl
theorem sc16 : FnScope d16.N d16.ps (defScope d16.st) := ⟨rfl, rfl, rfl, by decide +kernel, by kernel_rfl, by decide +kernel, by decide +kernel⟩
theorem bk16 : BindOk d16 := fun _ _ _ _ _ _ us hl => match us, hl with | [_, _], _ => rfl
theorem sc17 : FnScope d17.N d17.ps (defScope d17.st) := ⟨rfl, rfl, rfl, by decide +kernel, by kernel_rfl, by decide +kernel, by decide +kernel⟩
theorem bk17 : BindOk d17 := fun _ _ _ _ _ _ us hl => match us, hl with | [_], _ => rfl
theorem scs : ∀ d ∈ ds, FnScope d.N d.ps (defScope d.st) := by
  intro d hd
  simp only [ds, List.mem_cons, List.not_mem_nil, or_false] at hd
  rcases hd with rfl | rfl | rfl | rfl | rfl | rfl | rfl | rfl | rfl | rfl | rfl | rfl | rfl | rfl | rfl | rfl | rfl | rfl
  · exact sc0
  · exact sc1
  · exact sc2
  · exact sc3
  · exact sc4
  · exact sc5
  · exact sc6
  · exact sc7
  · exact sc8
  · exact sc9
  · exact sc10
  · exact sc11
  · exact sc12
  · exact sc13
  · exact sc14
  · exact sc15
  · exact sc16
  · exact sc17
theorem bks : ∀ d ∈ ds, BindOk d := by
  intro d hd
  simp only [ds, List.mem_cons, List.not_mem_nil, or_false] at hd
  rcases hd with rfl | rfl | rfl | rfl | rfl | rfl | rfl | rfl | rfl | rfl | rfl | rfl | rfl | rfl | rfl | rfl | rfl | rfl
  · exact bk0
  · exact bk1
  · exact bk2
  · exact bk3
  · exact bk4
  · exact bk5
  · exact bk6
  · exact bk7
  · exact bk8
  · exact bk9
  · exact bk10
  · exact bk11
  · exact bk12
  · exact bk13
  · exact bk14
  · exact bk15
  · exact bk16
  · exact bk17
abbrev R : PySem.W.OpenRow := PySem.W.OpenLaw.row PySem.Challenge.rw_gatesound_k21_circuits_that_feed_themsel
abbrev hk : PySem.W.Hook := hookG 4 (faOf ds fr dcs) (ds.map Df.def_) cs dcs
def ob (s : PySem.W.SharedT) : AlG := obsGG 4 (faOf ds fr dcs) (ds.map Df.def_) cs dcs (HandSHeadRun.getT s)
theorem ob_eq (s : PySem.W.SharedT) : ob s = hk.obs s.abs := obsGG_eq (HandSHeadRun.getT_eq s)
def loose : List Str := (["GateError", "NotAllowed", "is_integer", "is_row", "MAX_INPUTS", "MAX_REGISTERS", "MAX_GATES", "MAX_OUTPUTS", "SIGNALS_OF", "is_gate", "is_circuit", "check_circuit", "value_of", "values", "step", "run", "all_rows", "checked", "made_bits", "least_feedback"] : List Str) ++ (["seed_of", "feedback_circuit", "_law_draw", "_law_take"] : List Str)
theorem run (w : World) : HandSHeadRun.RunEq R (PySem.W.view R.prog [30]) hk ob 2060 loose w := by
  refine PySem.W.byRow2 "special-get-raises" (P := fun w => HandSHeadRun.RunEq R (PySem.W.view R.prog [30]) hk ob 2060 loose w) (fun w => ?_) (fun w => ?_) w
  · intro os
    kernel_rfl
  · intro os
    kernel_rfl
def Plain : Prop := ∀ ns : List Int, ns.length ≤ 63 → callN (tabOf (conOf cs) (freeOf fr) (dicsOf dcs) 40 40 ds) 100000 30 17 [.fz (.frl (ns.map .int))] = .rt false (.bl true) []
end K21
open PySem PySem.W PySem.Calls PyProof.Rows
theorem K21.holds (plain : K21.Plain) : PySem.Challenge.rw_gatesound_k21_circuits_that_feed_themsel.Holds := by
  w_on; o_law
  refine HandSHeadRun.head_any (r := OpenLaw.row PySem.Challenge.rw_gatesound_k21_circuits_that_feed_themsel) (q := view (OpenLaw.row PySem.Challenge.rw_gatesound_k21_circuits_that_feed_themsel).prog [30]) (H := K21.hk) (ob := K21.ob) (M := 2060) (loose := K21.loose) (d := HandSHeadRun.topDef (OpenLaw.row PySem.Challenge.rw_gatesound_k21_circuits_that_feed_themsel).prog 30) (kwd := []) K21.ob_eq
    (by kernel_rfl) (fun s => by kernel_rfl) K21.run (by kernel_rfl) (by kernel_rfl) (by kernel_rfl) (by rfl) (by first | assumption | decide +kernel) (by decide +kernel) ⟨rfl, rfl, rfl, rfl, rfl, by decide +kernel⟩ ?hw ?hc
  case hw => w_witness2
  case hc => exact G.law_G (l := PySem.Challenge.rw_gatesound_k21_circuits_that_feed_themsel) (n := 63) (k := 30) (wf := 100000) (ix := 17) (dl := K21.d17) rfl (by decide) (by kernel_rfl) ⟨rfl, by decide, by decide⟩ (by kernel_rfl) rfl rfl K21.scs K21.bks plain
end

section
set_option Elab.async false
set_option linter.all false
set_option maxRecDepth 100000
set_option maxHeartbeats 4000000
/-! P1: the draws of a law, in plain Lean. -/
namespace G
open PySem PySem.Spec PyProof.Rows L2

/-! ### loops -/
theorem forN_ind {f : D → Ev → SR} {ds : List D} (P : Nat → Ev → Prop) (h : ∀ i d ρ, ds[i]? = some d → P i ρ → ∃ ρ', (f d ρ = .nx ρ' ∨ f d ρ = .ct ρ') ∧ P (i + 1) ρ') : ∀ {ρ : Ev}, P 0 ρ → ∃ ρ', forN f ds ρ = .nx ρ' ∧ P ds.length ρ' := by
  suffices H : ∀ (es : List D) (n : Nat), (∀ i d ρ, es[i]? = some d → P (n + i) ρ → ∃ ρ', (f d ρ = .nx ρ' ∨ f d ρ = .ct ρ') ∧ P (n + i + 1) ρ') → ∀ {ρ : Ev}, P n ρ → ∃ ρ', forN f es ρ = .nx ρ' ∧ P (n + es.length) ρ' by
    intro ρ h0
    obtain ⟨ρ', e, q⟩ := H ds 0 (fun i d ρ hd hp => by
      rw [Nat.zero_add] at hp ⊢
      exact h i d ρ hd hp) h0
    exact ⟨ρ', e, by simpa using q⟩
  intro es
  induction es with
  | nil => exact fun n _ ρ h0 => ⟨ρ, rfl, h0⟩
  | cons d es ih =>
    intro n hs ρ h0
    obtain ⟨ρ1, e1, q1⟩ := hs 0 d ρ rfl h0
    obtain ⟨ρ2, e2, q2⟩ := ih (n + 1) (fun i d ρ hd hp => by
      have q := hs (i + 1) d ρ (by simpa using hd) (by rw [show n + (i + 1) = n + 1 + i by omega]; exact hp)
      have e : n + (i + 1) + 1 = n + 1 + i + 1 := by omega
      rw [e] at q
      exact q) q1
    refine ⟨ρ2, ?_, ?_⟩
    · simp only [forN]
      rcases e1 with e1 | e1 <;> (rw [e1]; exact e2)
    · rw [List.length_cons, Nat.add_comm es.length 1, ← Nat.add_assoc]
      exact q2
theorem loopC_ind {vs : List Nat} {f : D → Ev → Res (List D)} {ds : List D} (P : Nat → List D → Ev → Prop) (h : ∀ i d acc ρ, ds[i]? = some d → P i acc ρ → ∃ xs ρ', f d ρ = .ok xs ρ' ∧ P (i + 1) (acc ++ xs) (wipeE ρ' vs)) : ∀ {ρ : Ev}, P 0 [] ρ → ∃ out ρ', loopC vs f ds ρ = .ok out ρ' ∧ P ds.length out ρ' := by
  suffices H : ∀ (es : List D) (n : Nat), (∀ i d acc ρ, es[i]? = some d → P (n + i) acc ρ → ∃ xs ρ', f d ρ = .ok xs ρ' ∧ P (n + i + 1) (acc ++ xs) (wipeE ρ' vs)) → ∀ {acc : List D} {ρ : Ev}, P n acc ρ → ∃ out ρ', loopC vs f es ρ = .ok out ρ' ∧ P (n + es.length) (acc ++ out) ρ' by
    intro ρ h0
    obtain ⟨out, ρ', e, q⟩ := H ds 0 (fun i d acc ρ hd hp => by
      rw [Nat.zero_add] at hp ⊢
      exact h i d acc ρ hd hp) h0
    exact ⟨out, ρ', e, by simpa using q⟩
  intro es
  induction es with
  | nil => exact fun n _ acc ρ h0 => ⟨[], ρ, rfl, by simpa using h0⟩
  | cons d es ih =>
    intro n hs acc ρ h0
    obtain ⟨xs, ρ1, e1, q1⟩ := hs 0 d acc ρ rfl h0
    obtain ⟨out, ρ2, e2, q2⟩ := ih (n + 1) (fun i d acc ρ hd hp => by
      have q := hs (i + 1) d acc ρ (by simpa using hd) (by rw [show n + (i + 1) = n + 1 + i by omega]; exact hp)
      have e : n + (i + 1) + 1 = n + 1 + i + 1 := by omega
      rw [e] at q
      exact q) q1
    refine ⟨xs ++ out, ρ2, ?_, ?_⟩
    · simp only [loopC, e1, Res.bind, e2]
    · rw [List.length_cons, Nat.add_comm es.length 1, ← Nat.add_assoc, ← List.append_assoc]
      exact q2
/-- a comprehension that changes nothing -/
theorem loopC_map {vs : List Nat} {f : D → Ev → Res (List D)} {ρ : Ev} (g : D → List D) : ∀ {ds : List D}, (∀ d ∈ ds, ∃ ρ', f d ρ = .ok (g d) ρ' ∧ wipeE ρ' vs = ρ) → loopC vs f ds ρ = .ok (ds.flatMap g) ρ
  | [], _ => rfl
  | d :: ds, h => by
    obtain ⟨ρ', e1, e2⟩ := h d List.mem_cons_self
    simp only [loopC, e1, Res.bind, e2, loopC_map g (fun d' hd => h d' (List.mem_cons_of_mem _ hd)), List.flatMap_cons]

theorem loopC_map1 {vs : List Nat} {f : D → Ev → Res (List D)} {ρ : Ev} (g : D → D) : ∀ {ds : List D}, (∀ d ∈ ds, ∃ ρ', f d ρ = .ok [g d] ρ' ∧ wipeE ρ' vs = ρ) → loopC vs f ds ρ = .ok (ds.map g) ρ
  | [], _ => rfl
  | d :: ds, h => by
    obtain ⟨ρ', e1, e2⟩ := h d List.mem_cons_self
    simp only [loopC, e1, Res.bind, e2, loopC_map1 g (fun d' hd => h d' (List.mem_cons_of_mem _ hd)), List.map_cons]
    rfl
theorem ss_step {F : Fn} {wf : Nat} {s : S} {r : Ss} {ρ ρ' : Ev} (h : evS F wf s ρ = .nx ρ') : evSs F wf (.cons s r) ρ = evSs F wf r ρ' := by
  simp only [evSs, h, SR.seq]
theorem ss_ret {F : Fn} {wf : Nat} {s : S} {r : Ss} {ρ ρ' : Ev} {o : Bool} {d : D} (h : evS F wf s ρ = .rt o d ρ') : evSs F wf (.cons s r) ρ = .rt o d ρ' := by
  simp only [evSs, h, SR.seq]
theorem ss_last {F : Fn} {wf : Nat} {s : S} {ρ ρ' : Ev} (h : evS F wf s ρ = .nx ρ') : evSs F wf (.cons s .nil) ρ = .nx ρ' := by
  simp only [evSs, h, SR.seq]
theorem for_ind {F : Fn} {wf : Nat} {t : Tg} {it : It} {b : Ss} {ρ ρ1 : Ev} {p : List D × List RV} (hi : evI F it ρ = .ok p ρ1) (P : Nat → Ev → Prop) (h0 : P 0 (lock ρ1 p.2))
    (hs : ∀ i d ρ, p.1[i]? = some d → P i ρ → ∃ ρ' ρ'', asgT ρ t (.val d) = some ρ' ∧ evSs F wf b ρ' = .nx ρ'' ∧ P (i + 1) ρ'') : ∃ ρ', P p.1.length ρ' ∧ evS F wf (.for t it b) ρ = .nx (unlock ρ1 ρ' p.2) := by
  obtain ⟨ρ', e, q⟩ := forN_ind (f := fun d ρ => (ofS (asgT ρ t (.val d))).seq (evSs F wf b)) P (fun i d ρ hd hp => by
    obtain ⟨ρ2, ρ3, e1, e2, q⟩ := hs i d ρ hd hp
    exact ⟨ρ3, .inl (by simp only [e1, ofS, SR.seq, e2]), q⟩) h0
  exact ⟨ρ', q, by simp only [evS, hi, Res.sr, e, SR.unl]⟩
theorem callN_eq {T : List Fd} {wf k f : Nat} {d : Fd} {args : List Sl} (hT : T[f]? = some d) (ha : args.all noOw = true) (hl : args.length = d.a) : callN T wf (k + 1) f args = outOf args (evSs (callN T wf k) wf d.ss (args ++ List.replicate (d.n - args.length) .un)) := by
  rw [callN, hT]
  show (if (args.all noOw && decide (args.length = d.a)) = true then _ else _) = _
  rw [if_pos (by rw [ha, hl]; simp)]
theorem ev_tuple {F : Fn} {e : E} {ρ ρ' : Ev} {ds : List D} (h : ev F e ρ = .ok (.own (.lst ds)) ρ') : ev F (.prim .tuple (.cons e .nil)) ρ = .ok (.val (.tup ds)) ρ' := by
  rw [ev, evBs, h]
  rfl
theorem asg_ev {F : Fn} {wf : Nat} {i : Nat} {e : E} {d : D} {ρ ρ1 ρ' : Ev} (h : ev F e ρ = .ok (.val d) ρ1) (hs : setS ρ1 i (.fz d) = some ρ') : evS F wf (.asg (.nm i) e) ρ = .nx ρ' := by
  rw [evS, h]
  show ofS (setS ρ1 i (.fz d)) = _
  rw [hs]
  rfl
theorem asg_own {F : Fn} {wf : Nat} {i : Nat} {e : E} {d : D} {ρ ρ1 ρ' : Ev} (h : ev F e ρ = .ok (.own d) ρ1) (hs : setS ρ1 i (.ow d) = some ρ') : evS F wf (.asg (.nm i) e) ρ = .nx ρ' := by
  rw [evS, h]
  show ofS (setS ρ1 i (.ow d)) = _
  rw [hs]
  rfl
/-- a turn of a comprehension -/
theorem comp_ev {F : Fn} {vs : List Nat} {t : Tg} {it : It} {c : E} {q : Q} {ρ ρ1 ρ2 : Ev} {p : List D × List RV} {out : List D} (hi : evI F it ρ = .ok p ρ1) (hp : (vs.all fun v => plainSl ρ1[v]?) = true)
    (hl : loopC vs (turnF F t c (evQ F q)) p.1 (wipeE (lock ρ1 p.2) vs) = .ok out ρ2) (hz : out.length ≤ sizeLine) : ev F (.comp vs t it c q) ρ = .ok (.own (.lst out)) (unlock ρ1 (back ρ1 ρ2 vs) p.2) := by
  simp only [ev]
  rw [hi]
  show (if (vs.all fun v => plainSl ρ1[v]?) = true then (match loopC vs (turnF F t c (evQ F q)) p.1 (wipeE (lock ρ1 p.2) vs) with
    | .ok ds ρ₂ => if ds.length ≤ sizeLine then Res.ok (RV.own (.lst ds)) (unlock ρ1 (back ρ1 ρ₂ vs) p.2) else .no
    | _ => .no) else .no) = _
  rw [if_pos hp, hl]
  show (if out.length ≤ sizeLine then _ else _) = _
  rw [if_pos hz]
/-! ### the draws -/
structure Dr where
  cells : List Int
  p : Int
  v : Int
  seed : Int
def Dr.d (r : Dr) : D := .lst [.lst (r.cells.map .int), .int r.p, .int r.v, .int r.seed]
structure DrOk (r : Dr) : Prop where
  p : -1 ≤ r.p
  v : 0 ≤ r.v
  seed : 0 ≤ r.seed
  cells : ∀ c ∈ r.cells, 0 ≤ c
def takeF (r : Dr) (m : Int) : Int × Dr :=
  if r.v = 0 then
    let v1 := if r.p + 1 < r.cells.length then r.cells.getD (r.p + 1).toNat 0 else 0
    let s1 := if v1 = 0 then (r.seed * 48271 + 11).fmod 2147483647 else r.seed
    let v2 := if v1 = 0 then s1 else v1
    (v2.fmod m, ⟨r.cells, r.p + 1, v2.fdiv m, s1⟩)
  else (r.v.fmod m, ⟨r.cells, r.p, r.v.fdiv m, r.seed⟩)
def takeSs : Ss := (.cons (.ite (.bin .eq (.idx (.var 0) (.con (.int 2))) (.con (.int 0))) (.cons (.setx 0 (.con (.int 1)) (.bin .add (.idx (.var 0) (.con (.int 1))) (.con (.int 1)))) (.cons (.ite (.bin .lt (.idx (.var 0) (.con (.int 1))) (.prim .len (.cons (.idx (.var 0) (.con (.int 0))) .nil))) (.cons (.setx 0 (.con (.int 2)) (.idx (.idx (.var 0) (.con (.int 0))) (.idx (.var 0) (.con (.int 1))))) .nil) .nil) (.cons (.ite (.bin .eq (.idx (.var 0) (.con (.int 2))) (.con (.int 0))) (.cons (.setx 0 (.con (.int 3)) (.bin .mod (.prim .int (.cons (.bin .add (.bin .mul (.idx (.var 0) (.con (.int 3))) (.con (.int 48271))) (.con (.int 11))) .nil)) (.con (.int 2147483647)))) (.cons (.setx 0 (.con (.int 2)) (.idx (.var 0) (.con (.int 3)))) .nil)) .nil) .nil))) .nil) (.cons (.asg (.nm 2) (.bin .mod (.prim .int (.cons (.idx (.var 0) (.con (.int 2))) .nil)) (.var 1))) (.cons (.setx 0 (.con (.int 2)) (.bin .fdiv (.idx (.var 0) (.con (.int 2))) (.var 1))) (.cons (.ret (.var 2)) .nil))))
theorem fmod_lt {a m : Int} (hm : 0 < m) : 0 ≤ a.fmod m ∧ a.fmod m < m := by
  rw [Int.fmod_eq_emod_of_nonneg _ (Int.le_of_lt hm)]
  exact ⟨Int.emod_nonneg _ (by omega), Int.emod_lt_of_pos _ hm⟩
theorem takeF_ok {r : Dr} {m : Int} (h : DrOk r) (hm : 0 < m) : DrOk (takeF r m).2 ∧ 0 ≤ (takeF r m).1 ∧ (takeF r m).1 < m := by
  have hp := h.p
  have hv := h.v
  have hs := h.seed
  have hc : 0 ≤ (if r.p + 1 < r.cells.length then r.cells.getD (r.p + 1).toNat 0 else 0) := by
    split
    · rw [List.getD_eq_getElem?_getD]
      cases e : r.cells[(r.p + 1).toNat]? with
      | none => simp
      | some c => exact h.cells c (List.mem_of_getElem? e)
    · exact Int.le_refl _
  have hf : 0 ≤ (r.seed * 48271 + 11).fmod 2147483647 := (fmod_lt (by decide)).1
  unfold takeF
  simp only
  generalize (if r.p + 1 < r.cells.length then r.cells.getD (r.p + 1).toNat 0 else 0) = v1 at hc ⊢
  generalize (r.seed * 48271 + 11).fmod 2147483647 = s1 at hf ⊢
  by_cases h0 : r.v = 0
  · rw [if_pos h0]
    by_cases h1 : v1 = 0
    · simp only [h1, if_true]
      exact ⟨⟨by show -1 ≤ r.p + 1; omega, Int.fdiv_nonneg hf (Int.le_of_lt hm), hf, h.cells⟩, fmod_lt hm⟩
    · simp only [h1, if_false]
      exact ⟨⟨by show -1 ≤ r.p + 1; omega, Int.fdiv_nonneg hc (Int.le_of_lt hm), hs, h.cells⟩, fmod_lt hm⟩
  · rw [if_neg h0]
    exact ⟨⟨hp, Int.fdiv_nonneg hv (Int.le_of_lt hm), hs, h.cells⟩, fmod_lt hm⟩
theorem take_fn {T : List Fd} {wf k i : Nat} (hT : T[i]? = some ⟨3, 2, takeSs⟩) {r : Dr} (h : DrOk r) {m : Int} (hm : 0 < m) (hm2 : m < 1073741824) : callN T wf (k + 1) i [.io r.d, .fz (.int m)] = .rt false (.int (takeF r m).1) [(takeF r m).2.d] := by
  have hm0 : m ≠ 0 := by omega
  have hma : m.natAbs < 1073741824 := by omega
  obtain ⟨cs, p, v, s⟩ := r
  have hp : -1 ≤ p := h.p
  have inm : inInt 48271 = true := by decide
  have hp0 : 0 ≤ p + 1 := by omega
  simp only [callN, hT]
  by_cases h0 : v = 0
  · subst h0
    by_cases h1 : p + 1 < (cs.length : Int)
    · have hl : (p + 1).toNat < cs.length := by omega
      by_cases h2 : cs[(p + 1).toNat] = 0
      · simp [evSs, evS, G.ev, evTs, evBs, evCs, evPs, evI, evQ, Res.bind, Res.sr, SR.seq, ofO, ofS, force, Sl.get, idx, atI, ixN, bop, RV.new, D.sh, D.shs, D.ok, D.eqv, D.eqvs, truthOf, D.truth, G.take, setS, setL, getL, ownL, reown, asgT, G.prim, forces, isInts, G.elems, retR, outOf, iosOf, noOw, fzAt, takeSs, Dr.d, takeF, hm0, hma, inm, hp0, h1, h2, hl]
      · simp [evSs, evS, G.ev, evTs, evBs, evCs, evPs, evI, evQ, Res.bind, Res.sr, SR.seq, ofO, ofS, force, Sl.get, idx, atI, ixN, bop, RV.new, D.sh, D.shs, D.ok, D.eqv, D.eqvs, truthOf, D.truth, G.take, setS, setL, getL, ownL, reown, asgT, G.prim, forces, isInts, G.elems, retR, outOf, iosOf, noOw, fzAt, takeSs, Dr.d, takeF, hm0, hma, inm, hp0, h1, h2, hl]
    · simp [evSs, evS, G.ev, evTs, evBs, evCs, evPs, evI, evQ, Res.bind, Res.sr, SR.seq, ofO, ofS, force, Sl.get, idx, atI, ixN, bop, RV.new, D.sh, D.shs, D.ok, D.eqv, D.eqvs, truthOf, D.truth, G.take, setS, setL, getL, ownL, reown, asgT, G.prim, forces, isInts, G.elems, retR, outOf, iosOf, noOw, fzAt, takeSs, Dr.d, takeF, hm0, hma, inm, hp0, h1]
  · simp [evSs, evS, G.ev, evTs, evBs, evCs, evPs, evI, evQ, Res.bind, Res.sr, SR.seq, ofO, ofS, force, Sl.get, idx, atI, ixN, bop, RV.new, D.sh, D.shs, D.ok, D.eqv, D.eqvs, truthOf, D.truth, G.take, setS, setL, getL, ownL, reown, asgT, G.prim, forces, isInts, G.elems, retR, outOf, iosOf, noOw, fzAt, takeSs, Dr.d, takeF, hm0, hma, inm, hp0, h0]
end G
end

section
set_option Elab.async false
set_option linter.all false
set_option maxRecDepth 100000
set_option maxHeartbeats 4000000
/-! P2: the draw, takes in a row. -/
namespace G
open PySem PySem.Spec PyProof.Rows L2

def Sl.pln : Sl → Bool
  | .un => true
  | .fz _ => true
  | _ => false
def Sl.nio : Sl → Bool
  | .io _ => false
  | _ => true
theorem plainSl_some (x : Sl) : plainSl (some x) = x.pln := by cases x <;> rfl
theorem Sl.pln_nio {x : Sl} (h : x.pln = true) : x.nio = true := by cases x <;> first | rfl | cases h
theorem pln_un : Sl.un.pln = true := rfl
theorem pln_fz (d : D) : (Sl.fz d).pln = true := rfl
theorem setS_nio {ρ : Ev} {i : Nat} {s x : Sl} (h : ρ[i]? = some x) (hx : x.nio = true) : setS ρ i s = some (ρ.set i s) := by
  unfold setS
  rw [h]
  cases x <;> first | rfl | cases hx
theorem sizeLine_big {n : Nat} (h : n ≤ 1000) : n ≤ sizeLine := by rw [sizeLine_eq]; omega
theorem takes_loop {vs : List Nat} {f : D → Ev → Res (List D)} {m : Int} (hm : 0 < m) (mk : Dr → Ev) : ∀ {ds : List D}, (∀ d ∈ ds, ∀ r, DrOk r → ∃ ρ', f d (mk r) = .ok [.int (takeF r m).1] ρ' ∧ wipeE ρ' vs = mk (takeF r m).2) →
    ∀ r, DrOk r → ∃ (xs : List Int) (r' : Dr), loopC vs f ds (mk r) = .ok (xs.map .int) (mk r') ∧ DrOk r' ∧ xs.length = ds.length ∧ ∀ x ∈ xs, 0 ≤ x ∧ x < m
  | [], _, r, hr => ⟨[], r, rfl, hr, rfl, by simp⟩
  | d :: ds, hf, r, hr => by
    obtain ⟨ρ', e1, e2⟩ := hf d List.mem_cons_self r hr
    obtain ⟨h1, h2, h3⟩ := takeF_ok hr hm
    obtain ⟨xs, r', e3, h4, h5, h6⟩ := takes_loop hm mk (fun d' hd => hf d' (List.mem_cons_of_mem _ hd)) _ h1
    refine ⟨(takeF r m).1 :: xs, r', ?_, h4, by simp [h5], fun x hx => ?_⟩
    · simp only [loopC, e1, Res.bind, e2, e3]
      rfl
    · rcases List.mem_cons.mp hx with rfl | hx
      · exact ⟨h2, h3⟩
      · exact h6 x hx

def drawB : Ss := (.cons (.asg (.nm 1) (.bin .mod (.prim .int (.cons (.bin .add (.bin .add (.bin .mul (.var 1) (.con (.int 48271))) (.bin .mod (.prim .abs (.cons (.prim .int (.cons (.var 2) .nil)) .nil)) (.con (.int 65521)))) (.con (.int 1))) .nil)) (.con (.int 2147483647)))) .nil)
def drawC : E := (.comp [2] (.nm 2) (.val (.var 0)) (.con (.bl true)) (.yld (.prim .abs (.cons (.prim .int (.cons (.var 2) .nil)) .nil))))
def drawSs : Ss := (.cons (.asg (.nm 1) (.con (.int 7))) (.cons (.for (.nm 2) (.val (.var 0)) drawB) (.cons (.ret (.lst (.cons drawC (.cons (.un .neg (.con (.int 1))) (.cons (.con (.int 0)) (.cons (.var 1) .nil)))))) .nil)))
def seedF (s c : Int) : Int := (s * 48271 + (if c < 0 then -c else c).fmod 65521 + 1).fmod 2147483647
theorem draw_body {F : Fn} {wf : Nat} {s c : Int} {x : Sl} {y : D} (hx : x.pln = true) : ∃ ρ', asgT [.fz y, .fz (.int s), x] (.nm 2) (.val (.int c)) = some ρ' ∧ evSs F wf drawB ρ' = .nx [.fz y, .fz (.int (seedF s c)), .fz (.int c)] := by
  have inm : inInt 48271 = true := by decide
  refine ⟨_, setS_nio rfl (Sl.pln_nio hx), ?_⟩
  simp [evSs, evS, G.ev, evTs, evBs, evCs, evPs, evI, evQ, Res.bind, Res.sr, SR.seq, ofO, ofS, force, Sl.get, idx, atI, ixN, bop, uop, RV.new, D.sh, D.shs, D.ok, D.eqv, D.eqvs, truthOf, D.truth, G.take, setL, getL, ownL, reown, asgT, G.prim, forces, isInts, G.elems, G.items, itemsR, walkB, retR, outOf, iosOf, noOw, fzAt, plainSl_some, pln_un, pln_fz, G.lock, G.unlock, G.back, wipeE, SR.unl, guard, drawB, setS, inm, ofS, seedF]
theorem draw_fn {T : List Fd} {wf k i : Nat} (hT : T[i]? = some ⟨3, 1, drawSs⟩) {ns : List Int} (hn : ns.length ≤ 1000) : ∃ r : Dr, DrOk r ∧ callN T wf (k + 1) i [.fz (.frl (ns.map .int))] = .rt true r.d [] := by
  obtain ⟨ρ1, ⟨s, x, rfl, hx, hs⟩, e1⟩ := for_ind (F := callN T wf k) (wf := wf) (t := .nm 2) (it := .val (.var 0)) (b := drawB) (ρ := [.fz (.frl (ns.map .int)), .fz (.int 7), .un]) (p := (ns.map .int, [.slot 0])) (ρ1 := [.fz (.frl (ns.map .int)), .fz (.int 7), .un])
    (by simp [evSs, evS, G.ev, evTs, evBs, evCs, evPs, evI, evQ, Res.bind, Res.sr, SR.seq, ofO, ofS, force, Sl.get, idx, atI, ixN, bop, uop, RV.new, D.sh, D.shs, D.ok, D.eqv, D.eqvs, truthOf, D.truth, G.take, setL, getL, ownL, reown, asgT, G.prim, forces, isInts, G.elems, G.items, itemsR, walkB, retR, outOf, iosOf, noOw, fzAt, plainSl_some, pln_un, pln_fz, G.lock, G.unlock, G.back, wipeE, SR.unl, guard]) (fun _ ρ => ∃ (s : Int) (x : Sl), ρ = [.fz (.frl (ns.map .int)), .fz (.int s), x] ∧ x.pln = true ∧ 0 ≤ s) ⟨7, .un, by simp [evSs, evS, G.ev, evTs, evBs, evCs, evPs, evI, evQ, Res.bind, Res.sr, SR.seq, ofO, ofS, force, Sl.get, idx, atI, ixN, bop, uop, RV.new, D.sh, D.shs, D.ok, D.eqv, D.eqvs, truthOf, D.truth, G.take, setL, getL, ownL, reown, asgT, G.prim, forces, isInts, G.elems, G.items, itemsR, walkB, retR, outOf, iosOf, noOw, fzAt, plainSl_some, pln_un, pln_fz, G.lock, G.unlock, G.back, wipeE, SR.unl, guard], rfl, by decide⟩
    (fun i d ρ hd ⟨s, x, e, hx, hs⟩ => by
      rw [List.getElem?_map] at hd
      obtain ⟨c, _, rfl⟩ := Option.map_eq_some_iff.mp hd
      subst e
      obtain ⟨ρ', h1, h2⟩ := draw_body (F := callN T wf k) (wf := wf) (y := .frl (ns.map .int)) (s := s) (c := c) hx
      exact ⟨ρ', _, h1, h2, _, _, rfl, rfl, (fmod_lt (by decide)).1⟩)
  have e2 : ev (callN T wf k) drawC [.fz (.frl (ns.map .int)), .fz (.int s), x] = .ok (.own (.lst ((ns.map fun c => if c < 0 then -c else c).map .int))) [.fz (.frl (ns.map .int)), .fz (.int s), x] := by
    have hl := loopC_map1 (vs := [2]) (f := turnF (callN T wf k) (.nm 2) (.con (.bl true)) (evQ (callN T wf k) (.yld (.prim .abs (.cons (.prim .int (.cons (.var 2) .nil)) .nil))))) (ρ := [.fz (.frl (ns.map .int)), .fz (.int s), .un])
      (fun d => match d with | .int c => .int (if c < 0 then -c else c) | _ => .non) (ds := ns.map .int) (fun d hd => by
        obtain ⟨c, _, rfl⟩ := List.mem_map.mp hd
        exact ⟨[.fz (.frl (ns.map .int)), .fz (.int s), .fz (.int c)], by simp [evSs, evS, G.ev, evTs, evBs, evCs, evPs, evI, evQ, Res.bind, Res.sr, SR.seq, ofO, ofS, force, Sl.get, idx, atI, ixN, bop, uop, RV.new, D.sh, D.shs, D.ok, D.eqv, D.eqvs, truthOf, D.truth, G.take, setL, getL, ownL, reown, asgT, G.prim, forces, isInts, G.elems, G.items, itemsR, walkB, retR, outOf, iosOf, noOw, fzAt, plainSl_some, pln_un, pln_fz, G.lock, G.unlock, G.back, wipeE, SR.unl, guard, turnF, setS], by simp [evSs, evS, G.ev, evTs, evBs, evCs, evPs, evI, evQ, Res.bind, Res.sr, SR.seq, ofO, ofS, force, Sl.get, idx, atI, ixN, bop, uop, RV.new, D.sh, D.shs, D.ok, D.eqv, D.eqvs, truthOf, D.truth, G.take, setL, getL, ownL, reown, asgT, G.prim, forces, isInts, G.elems, G.items, itemsR, walkB, retR, outOf, iosOf, noOw, fzAt, plainSl_some, pln_un, pln_fz, G.lock, G.unlock, G.back, wipeE, SR.unl, guard]⟩)
    have e := comp_ev (F := callN T wf k) (vs := [2]) (t := .nm 2) (it := .val (.var 0)) (c := .con (.bl true)) (q := .yld (.prim .abs (.cons (.prim .int (.cons (.var 2) .nil)) .nil))) (ρ := [.fz (.frl (ns.map .int)), .fz (.int s), x]) (ρ1 := [.fz (.frl (ns.map .int)), .fz (.int s), x]) (p := (ns.map .int, [.slot 0]))
      (by simp [evSs, evS, G.ev, evTs, evBs, evCs, evPs, evI, evQ, Res.bind, Res.sr, SR.seq, ofO, ofS, force, Sl.get, idx, atI, ixN, bop, uop, RV.new, D.sh, D.shs, D.ok, D.eqv, D.eqvs, truthOf, D.truth, G.take, setL, getL, ownL, reown, asgT, G.prim, forces, isInts, G.elems, G.items, itemsR, walkB, retR, outOf, iosOf, noOw, fzAt, plainSl_some, pln_un, pln_fz, G.lock, G.unlock, G.back, wipeE, SR.unl, guard]) (by simp [evSs, evS, G.ev, evTs, evBs, evCs, evPs, evI, evQ, Res.bind, Res.sr, SR.seq, ofO, ofS, force, Sl.get, idx, atI, ixN, bop, uop, RV.new, D.sh, D.shs, D.ok, D.eqv, D.eqvs, truthOf, D.truth, G.take, setL, getL, ownL, reown, asgT, G.prim, forces, isInts, G.elems, G.items, itemsR, walkB, retR, outOf, iosOf, noOw, fzAt, plainSl_some, pln_un, pln_fz, G.lock, G.unlock, G.back, wipeE, SR.unl, guard, hx]) (by simpa [evSs, evS, G.ev, evTs, evBs, evCs, evPs, evI, evQ, Res.bind, Res.sr, SR.seq, ofO, ofS, force, Sl.get, idx, atI, ixN, bop, uop, RV.new, D.sh, D.shs, D.ok, D.eqv, D.eqvs, truthOf, D.truth, G.take, setL, getL, ownL, reown, asgT, G.prim, forces, isInts, G.elems, G.items, itemsR, walkB, retR, outOf, iosOf, noOw, fzAt, plainSl_some, pln_un, pln_fz, G.lock, G.unlock, G.back, wipeE, SR.unl, guard] using hl) (by simpa [evSs, evS, G.ev, evTs, evBs, evCs, evPs, evI, evQ, Res.bind, Res.sr, SR.seq, ofO, ofS, force, Sl.get, idx, atI, ixN, bop, uop, RV.new, D.sh, D.shs, D.ok, D.eqv, D.eqvs, truthOf, D.truth, G.take, setL, getL, ownL, reown, asgT, G.prim, forces, isInts, G.elems, G.items, itemsR, walkB, retR, outOf, iosOf, noOw, fzAt, plainSl_some, pln_un, pln_fz, G.lock, G.unlock, G.back, wipeE, SR.unl, guard] using sizeLine_big hn)
    unfold drawC
    rw [e]
    simp [evSs, evS, G.ev, evTs, evBs, evCs, evPs, evI, evQ, Res.bind, Res.sr, SR.seq, ofO, ofS, force, Sl.get, idx, atI, ixN, bop, uop, RV.new, D.sh, D.shs, D.ok, D.eqv, D.eqvs, truthOf, D.truth, G.take, setL, getL, ownL, reown, asgT, G.prim, forces, isInts, G.elems, G.items, itemsR, walkB, retR, outOf, iosOf, noOw, fzAt, plainSl_some, pln_un, pln_fz, G.lock, G.unlock, G.back, wipeE, SR.unl, guard]
  refine ⟨⟨ns.map fun c => if c < 0 then -c else c, -1, 0, s⟩, ⟨Int.le_refl _, Int.le_refl _, hs, fun c hc => ?_⟩, ?_⟩
  · obtain ⟨d, _, rfl⟩ := List.mem_map.mp hc
    split <;> omega
  · simp only [callN, hT]
    have e3 : evSs (callN T wf k) wf drawSs [.fz (.frl (ns.map .int)), .un, .un] = .rt true (Dr.d ⟨ns.map fun c => if c < 0 then -c else c, -1, 0, s⟩) [.fz (.frl (ns.map .int)), .fz (.int s), x] := by
      unfold drawSs
      rw [ss_step (ρ' := [.fz (.frl (ns.map .int)), .fz (.int 7), .un]) (by simp [evSs, evS, G.ev, evTs, evBs, evCs, evPs, evI, evQ, Res.bind, Res.sr, SR.seq, ofO, ofS, force, Sl.get, idx, atI, ixN, bop, uop, RV.new, D.sh, D.shs, D.ok, D.eqv, D.eqvs, truthOf, D.truth, G.take, setL, getL, ownL, reown, asgT, G.prim, forces, isInts, G.elems, G.items, itemsR, walkB, retR, outOf, iosOf, noOw, fzAt, plainSl_some, pln_un, pln_fz, G.lock, G.unlock, G.back, wipeE, SR.unl, guard, setS, ofS]), ss_step e1]
      refine ss_ret ?_
      simp [evSs, evS, G.ev, evTs, evBs, evCs, evPs, evI, evQ, Res.bind, Res.sr, SR.seq, ofO, ofS, force, Sl.get, idx, atI, ixN, bop, uop, RV.new, D.sh, D.shs, D.ok, D.eqv, D.eqvs, truthOf, D.truth, G.take, setL, getL, ownL, reown, asgT, G.prim, forces, isInts, G.elems, G.items, itemsR, walkB, retR, outOf, iosOf, noOw, fzAt, plainSl_some, pln_un, pln_fz, G.lock, G.unlock, G.back, wipeE, SR.unl, guard, e2, Dr.d]
    simp [evSs, evS, G.ev, evTs, evBs, evCs, evPs, evI, evQ, Res.bind, Res.sr, SR.seq, ofO, ofS, force, Sl.get, idx, atI, ixN, bop, uop, RV.new, D.sh, D.shs, D.ok, D.eqv, D.eqvs, truthOf, D.truth, G.take, setL, getL, ownL, reown, asgT, G.prim, forces, isInts, G.elems, G.items, itemsR, walkB, retR, outOf, iosOf, noOw, fzAt, plainSl_some, pln_un, pln_fz, G.lock, G.unlock, G.back, wipeE, SR.unl, guard, e3]
end G
end

section
set_option Elab.async false
set_option linter.all false
set_option maxRecDepth 100000
set_option maxHeartbeats 4000000
/-! P3: the drawn circuit. -/
namespace G
open PySem PySem.Spec PyProof.Rows L2

inductive Gt where
  | const (b : Int) | not (a : Int) | and (a b : Int) | or (a b : Int) | xor (a b : Int) | pick (a b c : Int)
def Gt.d : Gt → D
  | .const b => .tup [.str "const", .int b]
  | .not a => .tup [.str "not", .int a]
  | .and a b => .tup [.str "and", .int a, .int b]
  | .or a b => .tup [.str "or", .int a, .int b]
  | .xor a b => .tup [.str "xor", .int a, .int b]
  | .pick a b c => .tup [.str "pick", .int a, .int b, .int c]
def Gt.ok (n : Int) : Gt → Prop
  | .const b => b = 0 ∨ b = 1
  | .not a => 0 ≤ a ∧ a < n
  | .and a b => (0 ≤ a ∧ a < n) ∧ 0 ≤ b ∧ b < n
  | .or a b => (0 ≤ a ∧ a < n) ∧ 0 ≤ b ∧ b < n
  | .xor a b => (0 ≤ a ∧ a < n) ∧ 0 ≤ b ∧ b < n
  | .pick a b c => (0 ≤ a ∧ a < n) ∧ (0 ≤ b ∧ b < n) ∧ 0 ≤ c ∧ c < n
def circSig (tk : Nat) : E := (.prim .tuple (.cons (.comp [14] (.nm 14) (.rng (.cons (.con (.int 3)) .nil)) (.con (.bl true)) (.yld (.call tk [true, false] (.cons (.var 0) (.cons (.var 9) .nil))))) .nil))
def circApp (tk : Nat) : S := (.ite (.bin .eq (.var 10) (.con (.int 0))) (.cons (.exp (.mut .append 7 (.cons (.tup (.cons (.con (.str "const")) (.cons (.call tk [true, false] (.cons (.var 0) (.cons (.con (.int 2)) .nil))) .nil))) .nil))) .nil) (.cons (.ite (.bin .lt (.var 10) (.con (.int 3))) (.cons (.exp (.mut .append 7 (.cons (.tup (.cons (.con (.str "not")) (.cons (.idx (.var 11) (.con (.int 0))) .nil))) .nil))) .nil) (.cons (.ite (.bin .lt (.var 10) (.con (.int 9))) (.cons (.exp (.mut .append 7 (.cons (.tup (.cons (.idx (.lst (.cons (.con (.str "and")) (.cons (.con (.str "or")) (.cons (.con (.str "xor")) .nil)))) (.bin .mod (.var 10) (.con (.int 3)))) (.cons (.idx (.var 11) (.con (.int 0))) (.cons (.idx (.var 11) (.con (.int 1))) .nil)))) .nil))) .nil) (.cons (.exp (.mut .append 7 (.cons (.bin .add (.tup (.cons (.con (.str "pick")) .nil)) (.var 11)) .nil))) .nil)) .nil)) .nil))
def circB (tk : Nat) : Ss := (.cons (.asg (.nm 9) (.bin .add (.var 5) (.var 8))) (.cons (.asg (.nm 10) (.ite (.bin .gt (.var 9) (.con (.int 0))) (.call tk [true, false] (.cons (.var 0) (.cons (.con (.int 11)) .nil))) (.con (.int 0)))) (.cons (.asg (.nm 11) (.ite (.bin .gt (.var 9) (.con (.int 0))) (circSig tk) (.tup .nil))) (.cons (circApp tk) .nil))))
def circSs (tk : Nat) : Ss := (.cons (.asg (.nm 5) (.bin .add (.var 1) (.var 2))) (.cons (.asg (.nm 6) (.call tk [true, false] (.cons (.var 0) (.cons (.bin .add (.var 3) (.con (.int 1))) .nil)))) (.cons (.ite (.bin .eq (.var 5) (.con (.int 0))) (.cons (.asg (.nm 6) (.prim .max2 (.cons (.con (.int 1)) (.cons (.var 6) .nil)))) .nil) .nil) (.cons (.asg (.nm 7) (.lst .nil)) (.cons (.for (.nm 8) (.rng (.cons (.var 6) .nil)) (circB tk))
  (.cons (.asg (.nm 9) (.bin .add (.var 5) (.var 6))) (.cons (.asg (.nm 12) (.prim .tuple (.cons (.comp [8] (.nm 8) (.rng (.cons (.var 2) .nil)) (.con (.bl true)) (.yld (.call tk [true, false] (.cons (.var 0) (.cons (.con (.int 2)) .nil))))) .nil))) (.cons (.asg (.nm 13) (.prim .tuple (.cons (.comp [8] (.nm 8) (.rng (.cons (.var 2) .nil)) (.con (.bl true)) (.yld (.call tk [true, false] (.cons (.var 0) (.cons (.var 9) .nil))))) .nil))) (.cons (.ret (.tup (.cons (.var 1) (.cons (.var 12) (.cons (.prim .tuple (.cons (.var 7) .nil)) (.cons (.var 13) (.cons (.prim .tuple (.cons (.comp [8] (.nm 8) (.rng (.cons (.var 4) .nil)) (.con (.bl true)) (.yld (.call tk [true, false] (.cons (.var 0) (.cons (.var 9) .nil))))) .nil)) .nil))))))) .nil)))))))))
section
variable {T : List Fd} {wf k tk : Nat} (hT : T[tk]? = some ⟨3, 2, takeSs⟩)
include hT
theorem app_const {r : Dr} (h : DrOk r) {a1 a2 a3 a4 a5 a6 a8 a9 a11 a12 a13 a14 : Sl} {gs : List D} (hl : gs.length < 1000) :
    evS (callN T wf (k + 1)) wf (circApp tk) [.io r.d, a1, a2, a3, a4, a5, a6, .ow (.lst gs), a8, a9, .fz (.int 0), a11, a12, a13, a14] = .nx [.io (takeF r 2).2.d, a1, a2, a3, a4, a5, a6, .ow (.lst (gs ++ [(Gt.const (takeF r 2).1).d])), a8, a9, .fz (.int 0), a11, a12, a13, a14] := by
  have e := take_fn (wf := wf) (k := k) hT h (m := 2) (by decide) (by decide)
  have hz : gs.length < sizeLine := by rw [sizeLine_eq]; omega
  simp [evSs, evS, G.ev, evTs, evBs, evCs, evPs, evI, evQ, Res.bind, Res.sr, SR.seq, ofO, ofS, force, forces, Sl.get, idx, atI, ixN, bop, uop, RV.new, RV.held, D.sh, D.shs, D.ok, D.eqv, D.eqvs, truthOf, D.truth, G.take, setL, getL, ownL, reown, asgT, G.prim, isInts, G.elems, G.items, itemsR, walkB, retR, outOf, iosOf, noOw, fzAt, plainSl_some, pln_un, pln_fz, G.lock, G.unlock, G.back, wipeE, SR.unl, guard, argsS, argS, apart, slotOf, putBack, G.chk, outR, mutD, rangeOf, inR, setS, circApp, e, hz, Gt.d]
theorem app_sig {r : Dr} {kd x y z : Int} (h0 : 0 < kd) (h1 : kd < 11) {a1 a2 a3 a4 a5 a6 a8 a9 a12 a13 a14 : Sl} {gs : List D} (hl : gs.length < 1000) {n : Int} (hx : 0 ≤ x ∧ x < n) (hy : 0 ≤ y ∧ y < n) (hz : 0 ≤ z ∧ z < n) : ∃ g : Gt, g.ok n ∧
    evS (callN T wf (k + 1)) wf (circApp tk) [.io r.d, a1, a2, a3, a4, a5, a6, .ow (.lst gs), a8, a9, .fz (.int kd), .fz (.tup [.int x, .int y, .int z]), a12, a13, a14] = .nx [.io r.d, a1, a2, a3, a4, a5, a6, .ow (.lst (gs ++ [g.d])), a8, a9, .fz (.int kd), .fz (.tup [.int x, .int y, .int z]), a12, a13, a14] := by
  have hz' : gs.length < sizeLine := by rw [sizeLine_eq]; omega
  have h4 : 4 ≤ sizeLine := sizeLine_big (by decide)
  have hk0 : kd ≠ 0 := by omega
  by_cases c1 : kd < 3
  · exact ⟨.not x, hx, by simp [evSs, evS, G.ev, evTs, evBs, evCs, evPs, evI, evQ, Res.bind, Res.sr, SR.seq, ofO, ofS, force, forces, Sl.get, idx, atI, ixN, bop, uop, RV.new, RV.held, D.sh, D.shs, D.ok, D.eqv, D.eqvs, truthOf, D.truth, G.take, setL, getL, ownL, reown, asgT, G.prim, isInts, G.elems, G.items, itemsR, walkB, retR, outOf, iosOf, noOw, fzAt, plainSl_some, pln_un, pln_fz, G.lock, G.unlock, G.back, wipeE, SR.unl, guard, argsS, argS, apart, slotOf, putBack, G.chk, outR, mutD, rangeOf, inR, setS, circApp, hk0, c1, hz', Gt.d]⟩
  · by_cases c2 : kd < 9
    · have hm : kd.fmod 3 = 0 ∨ kd.fmod 3 = 1 ∨ kd.fmod 3 = 2 := by
        obtain ⟨m1, m2⟩ := fmod_lt (a := kd) (m := 3) (by decide)
        omega
      rcases hm with hm | hm | hm
      · exact ⟨.and x y, ⟨hx, hy⟩, by simp [evSs, evS, G.ev, evTs, evBs, evCs, evPs, evI, evQ, Res.bind, Res.sr, SR.seq, ofO, ofS, force, forces, Sl.get, idx, atI, ixN, bop, uop, RV.new, RV.held, D.sh, D.shs, D.ok, D.eqv, D.eqvs, truthOf, D.truth, G.take, setL, getL, ownL, reown, asgT, G.prim, isInts, G.elems, G.items, itemsR, walkB, retR, outOf, iosOf, noOw, fzAt, plainSl_some, pln_un, pln_fz, G.lock, G.unlock, G.back, wipeE, SR.unl, guard, argsS, argS, apart, slotOf, putBack, G.chk, outR, mutD, rangeOf, inR, setS, circApp, hk0, c1, c2, hm, hz', Gt.d]⟩
      · exact ⟨.or x y, ⟨hx, hy⟩, by simp [evSs, evS, G.ev, evTs, evBs, evCs, evPs, evI, evQ, Res.bind, Res.sr, SR.seq, ofO, ofS, force, forces, Sl.get, idx, atI, ixN, bop, uop, RV.new, RV.held, D.sh, D.shs, D.ok, D.eqv, D.eqvs, truthOf, D.truth, G.take, setL, getL, ownL, reown, asgT, G.prim, isInts, G.elems, G.items, itemsR, walkB, retR, outOf, iosOf, noOw, fzAt, plainSl_some, pln_un, pln_fz, G.lock, G.unlock, G.back, wipeE, SR.unl, guard, argsS, argS, apart, slotOf, putBack, G.chk, outR, mutD, rangeOf, inR, setS, circApp, hk0, c1, c2, hm, hz', Gt.d]⟩
      · exact ⟨.xor x y, ⟨hx, hy⟩, by simp [evSs, evS, G.ev, evTs, evBs, evCs, evPs, evI, evQ, Res.bind, Res.sr, SR.seq, ofO, ofS, force, forces, Sl.get, idx, atI, ixN, bop, uop, RV.new, RV.held, D.sh, D.shs, D.ok, D.eqv, D.eqvs, truthOf, D.truth, G.take, setL, getL, ownL, reown, asgT, G.prim, isInts, G.elems, G.items, itemsR, walkB, retR, outOf, iosOf, noOw, fzAt, plainSl_some, pln_un, pln_fz, G.lock, G.unlock, G.back, wipeE, SR.unl, guard, argsS, argS, apart, slotOf, putBack, G.chk, outR, mutD, rangeOf, inR, setS, circApp, hk0, c1, c2, hm, hz', Gt.d]⟩
    · exact ⟨.pick x y z, ⟨hx, hy, hz⟩, by simp [evSs, evS, G.ev, evTs, evBs, evCs, evPs, evI, evQ, Res.bind, Res.sr, SR.seq, ofO, ofS, force, forces, Sl.get, idx, atI, ixN, bop, uop, RV.new, RV.held, D.sh, D.shs, D.ok, D.eqv, D.eqvs, truthOf, D.truth, G.take, setL, getL, ownL, reown, asgT, G.prim, isInts, G.elems, G.items, itemsR, walkB, retR, outOf, iosOf, noOw, fzAt, plainSl_some, pln_un, pln_fz, G.lock, G.unlock, G.back, wipeE, SR.unl, guard, argsS, argS, apart, slotOf, putBack, G.chk, outR, mutD, rangeOf, inR, setS, circApp, hk0, c1, c2, h4, hz', Gt.d]⟩
/-- three signals -/
theorem sig_ev {r : Dr} (h : DrOk r) {n : Int} (h0 : 0 < n) (h1 : n < 1073741824) {a1 a2 a3 a4 a5 a6 a7 a8 a10 a11 a12 a13 a14 : Sl} (h14 : a14.pln = true) : ∃ (r' : Dr) (x y z : Int), DrOk r' ∧ (0 ≤ x ∧ x < n) ∧ (0 ≤ y ∧ y < n) ∧ (0 ≤ z ∧ z < n) ∧
    ev (callN T wf (k + 1)) (circSig tk) [.io r.d, a1, a2, a3, a4, a5, a6, a7, a8, .fz (.int n), a10, a11, a12, a13, a14] = .ok (.val (.tup [.int x, .int y, .int z])) [.io r'.d, a1, a2, a3, a4, a5, a6, a7, a8, .fz (.int n), a10, a11, a12, a13, a14] := by
  obtain ⟨xs, r', e1, hr, hl, hb⟩ := takes_loop (vs := [14]) (f := turnF (callN T wf (k + 1)) (.nm 14) (.con (.bl true)) (evQ (callN T wf (k + 1)) (.yld (.call tk [true, false] (.cons (.var 0) (.cons (.var 9) .nil)))))) h0 (fun r => [.io r.d, a1, a2, a3, a4, a5, a6, a7, a8, .fz (.int n), a10, a11, a12, a13, .un]) (ds := rangeD 0 3)
    (fun d hd r hr => by
      have e := take_fn (wf := wf) (k := k) hT hr h0 h1
      exact ⟨[.io (takeF r n).2.d, a1, a2, a3, a4, a5, a6, a7, a8, .fz (.int n), a10, a11, a12, a13, .fz d], by simp [evSs, evS, G.ev, evTs, evBs, evCs, evPs, evI, evQ, Res.bind, Res.sr, SR.seq, ofO, ofS, force, forces, Sl.get, idx, atI, ixN, bop, uop, RV.new, RV.held, D.sh, D.shs, D.ok, D.eqv, D.eqvs, truthOf, D.truth, G.take, setL, getL, ownL, reown, asgT, G.prim, isInts, G.elems, G.items, itemsR, walkB, retR, outOf, iosOf, noOw, fzAt, plainSl_some, pln_un, pln_fz, G.lock, G.unlock, G.back, wipeE, SR.unl, guard, argsS, argS, apart, slotOf, putBack, G.chk, outR, mutD, rangeOf, inR, setS, turnF, e], by simp [evSs, evS, G.ev, evTs, evBs, evCs, evPs, evI, evQ, Res.bind, Res.sr, SR.seq, ofO, ofS, force, forces, Sl.get, idx, atI, ixN, bop, uop, RV.new, RV.held, D.sh, D.shs, D.ok, D.eqv, D.eqvs, truthOf, D.truth, G.take, setL, getL, ownL, reown, asgT, G.prim, isInts, G.elems, G.items, itemsR, walkB, retR, outOf, iosOf, noOw, fzAt, plainSl_some, pln_un, pln_fz, G.lock, G.unlock, G.back, wipeE, SR.unl, guard, argsS, argS, apart, slotOf, putBack, G.chk, outR, mutD, rangeOf, inR, setS]⟩) r h
  have e := comp_ev (F := callN T wf (k + 1)) (vs := [14]) (t := .nm 14) (it := .rng (.cons (.con (.int 3)) .nil)) (c := .con (.bl true)) (q := .yld (.call tk [true, false] (.cons (.var 0) (.cons (.var 9) .nil)))) (ρ := [.io r.d, a1, a2, a3, a4, a5, a6, a7, a8, .fz (.int n), a10, a11, a12, a13, a14]) (ρ1 := [.io r.d, a1, a2, a3, a4, a5, a6, a7, a8, .fz (.int n), a10, a11, a12, a13, a14]) (p := (rangeD 0 3, []))
    (by simp [evSs, evS, G.ev, evTs, evBs, evCs, evPs, evI, evQ, Res.bind, Res.sr, SR.seq, ofO, ofS, force, forces, Sl.get, idx, atI, ixN, bop, uop, RV.new, RV.held, D.sh, D.shs, D.ok, D.eqv, D.eqvs, truthOf, D.truth, G.take, setL, getL, ownL, reown, asgT, G.prim, isInts, G.elems, G.items, itemsR, walkB, retR, outOf, iosOf, noOw, fzAt, plainSl_some, pln_un, pln_fz, G.lock, G.unlock, G.back, wipeE, SR.unl, guard, argsS, argS, apart, slotOf, putBack, G.chk, outR, mutD, rangeOf, inR, setS]) (by simp [evSs, evS, G.ev, evTs, evBs, evCs, evPs, evI, evQ, Res.bind, Res.sr, SR.seq, ofO, ofS, force, forces, Sl.get, idx, atI, ixN, bop, uop, RV.new, RV.held, D.sh, D.shs, D.ok, D.eqv, D.eqvs, truthOf, D.truth, G.take, setL, getL, ownL, reown, asgT, G.prim, isInts, G.elems, G.items, itemsR, walkB, retR, outOf, iosOf, noOw, fzAt, plainSl_some, pln_un, pln_fz, G.lock, G.unlock, G.back, wipeE, SR.unl, guard, argsS, argS, apart, slotOf, putBack, G.chk, outR, mutD, rangeOf, inR, setS, h14]) (by simpa [evSs, evS, G.ev, evTs, evBs, evCs, evPs, evI, evQ, Res.bind, Res.sr, SR.seq, ofO, ofS, force, forces, Sl.get, idx, atI, ixN, bop, uop, RV.new, RV.held, D.sh, D.shs, D.ok, D.eqv, D.eqvs, truthOf, D.truth, G.take, setL, getL, ownL, reown, asgT, G.prim, isInts, G.elems, G.items, itemsR, walkB, retR, outOf, iosOf, noOw, fzAt, plainSl_some, pln_un, pln_fz, G.lock, G.unlock, G.back, wipeE, SR.unl, guard, argsS, argS, apart, slotOf, putBack, G.chk, outR, mutD, rangeOf, inR, setS] using e1) (by rw [List.length_map, hl]; exact sizeLine_big (by decide))
  have hl3 : xs.length = 3 := hl
  match xs, hl3, hb, e with
  | [x, y, z], _, hb, e =>
    refine ⟨r', x, y, z, hr, hb x (by simp [evSs, evS, G.ev, evTs, evBs, evCs, evPs, evI, evQ, Res.bind, Res.sr, SR.seq, ofO, ofS, force, forces, Sl.get, idx, atI, ixN, bop, uop, RV.new, RV.held, D.sh, D.shs, D.ok, D.eqv, D.eqvs, truthOf, D.truth, G.take, setL, getL, ownL, reown, asgT, G.prim, isInts, G.elems, G.items, itemsR, walkB, retR, outOf, iosOf, noOw, fzAt, plainSl_some, pln_un, pln_fz, G.lock, G.unlock, G.back, wipeE, SR.unl, guard, argsS, argS, apart, slotOf, putBack, G.chk, outR, mutD, rangeOf, inR, setS]), hb y (by simp [evSs, evS, G.ev, evTs, evBs, evCs, evPs, evI, evQ, Res.bind, Res.sr, SR.seq, ofO, ofS, force, forces, Sl.get, idx, atI, ixN, bop, uop, RV.new, RV.held, D.sh, D.shs, D.ok, D.eqv, D.eqvs, truthOf, D.truth, G.take, setL, getL, ownL, reown, asgT, G.prim, isInts, G.elems, G.items, itemsR, walkB, retR, outOf, iosOf, noOw, fzAt, plainSl_some, pln_un, pln_fz, G.lock, G.unlock, G.back, wipeE, SR.unl, guard, argsS, argS, apart, slotOf, putBack, G.chk, outR, mutD, rangeOf, inR, setS]), hb z (by simp [evSs, evS, G.ev, evTs, evBs, evCs, evPs, evI, evQ, Res.bind, Res.sr, SR.seq, ofO, ofS, force, forces, Sl.get, idx, atI, ixN, bop, uop, RV.new, RV.held, D.sh, D.shs, D.ok, D.eqv, D.eqvs, truthOf, D.truth, G.take, setL, getL, ownL, reown, asgT, G.prim, isInts, G.elems, G.items, itemsR, walkB, retR, outOf, iosOf, noOw, fzAt, plainSl_some, pln_un, pln_fz, G.lock, G.unlock, G.back, wipeE, SR.unl, guard, argsS, argS, apart, slotOf, putBack, G.chk, outR, mutD, rangeOf, inR, setS]), ?_⟩
    exact ev_tuple e
theorem circ_body {r : Dr} (h : DrOk r) {a1 a2 a3 a4 a6 a9 a10 a11 a12 a13 a14 : Sl} {gs : List D} (hl : gs.length < 1000) {f0 kk : Int} (h0 : 0 ≤ f0 + kk) (h1 : f0 + kk < 1000) (p9 : a9.pln = true) (p10 : a10.pln = true) (p11 : a11.pln = true) (p14 : a14.pln = true) :
    ∃ (r' : Dr) (g : Gt) (b10 b11 : Sl), DrOk r' ∧ g.ok (f0 + kk) ∧ b10.pln = true ∧ b11.pln = true ∧
      evSs (callN T wf (k + 1)) wf (circB tk) [.io r.d, a1, a2, a3, a4, .fz (.int f0), a6, .ow (.lst gs), .fz (.int kk), a9, a10, a11, a12, a13, a14] = .nx [.io r'.d, a1, a2, a3, a4, .fz (.int f0), a6, .ow (.lst (gs ++ [g.d])), .fz (.int kk), .fz (.int (f0 + kk)), b10, b11, a12, a13, a14] := by
  have s9 : evS (callN T wf (k + 1)) wf (.asg (.nm 9) (.bin .add (.var 5) (.var 8))) [.io r.d, a1, a2, a3, a4, .fz (.int f0), a6, .ow (.lst gs), .fz (.int kk), a9, a10, a11, a12, a13, a14] = .nx [.io r.d, a1, a2, a3, a4, .fz (.int f0), a6, .ow (.lst gs), .fz (.int kk), .fz (.int (f0 + kk)), a10, a11, a12, a13, a14] := by
    simp [evSs, evS, G.ev, evTs, evBs, evCs, evPs, evI, evQ, Res.bind, Res.sr, SR.seq, ofO, ofS, force, forces, Sl.get, idx, atI, ixN, bop, uop, RV.new, RV.held, D.sh, D.shs, D.ok, D.eqv, D.eqvs, truthOf, D.truth, G.take, setL, getL, ownL, reown, asgT, G.prim, isInts, G.elems, G.items, itemsR, walkB, retR, outOf, iosOf, noOw, fzAt, plainSl_some, pln_un, pln_fz, G.lock, G.unlock, G.back, wipeE, SR.unl, guard, argsS, argS, apart, slotOf, putBack, G.chk, outR, mutD, rangeOf, inR]
    rw [setS_nio rfl (Sl.pln_nio p9)]
    rfl
  unfold circB
  rw [ss_step s9]
  by_cases hp : 0 < f0 + kk
  · have e := take_fn (wf := wf) (k := k) hT h (m := 11) (by decide) (by decide)
    obtain ⟨hr1, k1, k2⟩ := takeF_ok h (m := 11) (by decide)
    have s10 : evS (callN T wf (k + 1)) wf (.asg (.nm 10) (.ite (.bin .gt (.var 9) (.con (.int 0))) (.call tk [true, false] (.cons (.var 0) (.cons (.con (.int 11)) .nil))) (.con (.int 0)))) [.io r.d, a1, a2, a3, a4, .fz (.int f0), a6, .ow (.lst gs), .fz (.int kk), .fz (.int (f0 + kk)), a10, a11, a12, a13, a14] =
        .nx [.io (takeF r 11).2.d, a1, a2, a3, a4, .fz (.int f0), a6, .ow (.lst gs), .fz (.int kk), .fz (.int (f0 + kk)), .fz (.int (takeF r 11).1), a11, a12, a13, a14] := by
      simp [evSs, evS, G.ev, evTs, evBs, evCs, evPs, evI, evQ, Res.bind, Res.sr, SR.seq, ofO, ofS, force, forces, Sl.get, idx, atI, ixN, bop, uop, RV.new, RV.held, D.sh, D.shs, D.ok, D.eqv, D.eqvs, truthOf, D.truth, G.take, setL, getL, ownL, reown, asgT, G.prim, isInts, G.elems, G.items, itemsR, walkB, retR, outOf, iosOf, noOw, fzAt, plainSl_some, pln_un, pln_fz, G.lock, G.unlock, G.back, wipeE, SR.unl, guard, argsS, argS, apart, slotOf, putBack, G.chk, outR, mutD, rangeOf, inR, hp, e]
      rw [setS_nio rfl (Sl.pln_nio p10)]
      rfl
    rw [ss_step s10]
    obtain ⟨r2, x, y, z, hr2, hx, hy, hz, es⟩ := sig_ev (wf := wf) (k := k) hT hr1 hp (by omega) (a1 := a1) (a2 := a2) (a3 := a3) (a4 := a4) (a5 := .fz (.int f0)) (a6 := a6) (a7 := .ow (.lst gs)) (a8 := .fz (.int kk)) (a10 := .fz (.int (takeF r 11).1)) (a11 := a11) (a12 := a12) (a13 := a13) p14
    have s11 : evS (callN T wf (k + 1)) wf (.asg (.nm 11) (.ite (.bin .gt (.var 9) (.con (.int 0))) (circSig tk) (.tup .nil))) [.io (takeF r 11).2.d, a1, a2, a3, a4, .fz (.int f0), a6, .ow (.lst gs), .fz (.int kk), .fz (.int (f0 + kk)), .fz (.int (takeF r 11).1), a11, a12, a13, a14] =
        .nx [.io r2.d, a1, a2, a3, a4, .fz (.int f0), a6, .ow (.lst gs), .fz (.int kk), .fz (.int (f0 + kk)), .fz (.int (takeF r 11).1), .fz (.tup [.int x, .int y, .int z]), a12, a13, a14] := by
      simp [evSs, evS, G.ev, evTs, evBs, evCs, evPs, evI, evQ, Res.bind, Res.sr, SR.seq, ofO, ofS, force, forces, Sl.get, idx, atI, ixN, bop, uop, RV.new, RV.held, D.sh, D.shs, D.ok, D.eqv, D.eqvs, truthOf, D.truth, G.take, setL, getL, ownL, reown, asgT, G.prim, isInts, G.elems, G.items, itemsR, walkB, retR, outOf, iosOf, noOw, fzAt, plainSl_some, pln_un, pln_fz, G.lock, G.unlock, G.back, wipeE, SR.unl, guard, argsS, argS, apart, slotOf, putBack, G.chk, outR, mutD, rangeOf, inR, hp, es]
      rw [setS_nio rfl (Sl.pln_nio p11)]
      rfl
    rw [ss_step s11]
    by_cases hk : (takeF r 11).1 = 0
    · obtain ⟨hr3, b1, b2⟩ := takeF_ok hr2 (m := 2) (by decide)
      rw [hk]
      refine ⟨_, .const (takeF r2 2).1, .fz (.int 0), _, hr3, ?_, rfl, rfl, ss_last (app_const hT hr2 hl)⟩
      show _ = 0 ∨ _ = 1
      omega
    · obtain ⟨g, hg, eg⟩ := app_sig (wf := wf) (k := k) hT (r := r2) (kd := (takeF r 11).1) (by omega) k2 hl hx hy hz (a1 := a1) (a2 := a2) (a3 := a3) (a4 := a4) (a5 := .fz (.int f0)) (a6 := a6) (a8 := .fz (.int kk)) (a9 := .fz (.int (f0 + kk))) (a12 := a12) (a13 := a13) (a14 := a14)
      exact ⟨r2, g, _, _, hr2, hg, rfl, rfl, ss_last eg⟩
  · have s10 : evS (callN T wf (k + 1)) wf (.asg (.nm 10) (.ite (.bin .gt (.var 9) (.con (.int 0))) (.call tk [true, false] (.cons (.var 0) (.cons (.con (.int 11)) .nil))) (.con (.int 0)))) [.io r.d, a1, a2, a3, a4, .fz (.int f0), a6, .ow (.lst gs), .fz (.int kk), .fz (.int (f0 + kk)), a10, a11, a12, a13, a14] =
        .nx [.io r.d, a1, a2, a3, a4, .fz (.int f0), a6, .ow (.lst gs), .fz (.int kk), .fz (.int (f0 + kk)), .fz (.int 0), a11, a12, a13, a14] := by
      simp [evSs, evS, G.ev, evTs, evBs, evCs, evPs, evI, evQ, Res.bind, Res.sr, SR.seq, ofO, ofS, force, forces, Sl.get, idx, atI, ixN, bop, uop, RV.new, RV.held, D.sh, D.shs, D.ok, D.eqv, D.eqvs, truthOf, D.truth, G.take, setL, getL, ownL, reown, asgT, G.prim, isInts, G.elems, G.items, itemsR, walkB, retR, outOf, iosOf, noOw, fzAt, plainSl_some, pln_un, pln_fz, G.lock, G.unlock, G.back, wipeE, SR.unl, guard, argsS, argS, apart, slotOf, putBack, G.chk, outR, mutD, rangeOf, inR, hp]
      rw [setS_nio rfl (Sl.pln_nio p10)]
      rfl
    rw [ss_step s10]
    have s11 : evS (callN T wf (k + 1)) wf (.asg (.nm 11) (.ite (.bin .gt (.var 9) (.con (.int 0))) (circSig tk) (.tup .nil))) [.io r.d, a1, a2, a3, a4, .fz (.int f0), a6, .ow (.lst gs), .fz (.int kk), .fz (.int (f0 + kk)), .fz (.int 0), a11, a12, a13, a14] =
        .nx [.io r.d, a1, a2, a3, a4, .fz (.int f0), a6, .ow (.lst gs), .fz (.int kk), .fz (.int (f0 + kk)), .fz (.int 0), .fz (.tup []), a12, a13, a14] := by
      simp [evSs, evS, G.ev, evTs, evBs, evCs, evPs, evI, evQ, Res.bind, Res.sr, SR.seq, ofO, ofS, force, forces, Sl.get, idx, atI, ixN, bop, uop, RV.new, RV.held, D.sh, D.shs, D.ok, D.eqv, D.eqvs, truthOf, D.truth, G.take, setL, getL, ownL, reown, asgT, G.prim, isInts, G.elems, G.items, itemsR, walkB, retR, outOf, iosOf, noOw, fzAt, plainSl_some, pln_un, pln_fz, G.lock, G.unlock, G.back, wipeE, SR.unl, guard, argsS, argS, apart, slotOf, putBack, G.chk, outR, mutD, rangeOf, inR, hp]
      rw [setS_nio rfl (Sl.pln_nio p11)]
      rfl
    rw [ss_step s11]
    obtain ⟨hr3, b1, b2⟩ := takeF_ok h (m := 2) (by decide)
    refine ⟨_, .const (takeF r 2).1, .fz (.int 0), _, hr3, ?_, rfl, rfl, ss_last (app_const hT h hl)⟩
    show _ = 0 ∨ _ = 1
    omega
/-- gates that look back -/
def GatesOk (f0 : Int) (gs : List Gt) : Prop := ∀ (i : Nat) g, gs[i]? = some g → g.ok (f0 + (i : Int))
omit hT in
theorem GatesOk.snoc {f0 : Int} {gs : List Gt} {g : Gt} (h : GatesOk f0 gs) (hg : g.ok (f0 + (gs.length : Int))) : GatesOk f0 (gs ++ [g]) := fun i g' e => by
  by_cases hi : i < gs.length
  · rw [List.getElem?_append_left hi] at e
    exact h i g' e
  · rw [List.getElem?_append_right (by omega)] at e
    have hi0 : i - gs.length = 0 := by
      cases q : i - gs.length with
      | zero => rfl
      | succ n => rw [q] at e; simp [evSs, evS, G.ev, evTs, evBs, evCs, evPs, evI, evQ, Res.bind, Res.sr, SR.seq, ofO, ofS, force, forces, Sl.get, idx, atI, ixN, bop, uop, RV.new, RV.held, D.sh, D.shs, D.ok, D.eqv, D.eqvs, truthOf, D.truth, G.take, setL, getL, ownL, reown, asgT, G.prim, isInts, G.elems, G.items, itemsR, walkB, retR, outOf, iosOf, noOw, fzAt, plainSl_some, pln_un, pln_fz, G.lock, G.unlock, G.back, wipeE, SR.unl, guard, argsS, argS, apart, slotOf, putBack, G.chk, outR, mutD, rangeOf, inR, setS] at e
    rw [hi0] at e
    have : i = gs.length := by omega
    simp [evSs, evS, G.ev, evTs, evBs, evCs, evPs, evI, evQ, Res.bind, Res.sr, SR.seq, ofO, ofS, force, forces, Sl.get, idx, atI, ixN, bop, uop, RV.new, RV.held, D.sh, D.shs, D.ok, D.eqv, D.eqvs, truthOf, D.truth, G.take, setL, getL, ownL, reown, asgT, G.prim, isInts, G.elems, G.items, itemsR, walkB, retR, outOf, iosOf, noOw, fzAt, plainSl_some, pln_un, pln_fz, G.lock, G.unlock, G.back, wipeE, SR.unl, guard, argsS, argS, apart, slotOf, putBack, G.chk, outR, mutD, rangeOf, inR, setS] at e
    subst e this
    exact hg
/-- a row of takes -/
theorem row_ev {m : Int} (hm : 0 < m) (hm2 : m < 1073741824) {e : E} {it : It} {v : Nat} {items : List D} {mk : Dr → Sl → Ev} {r : Dr} (h : DrOk r) {x : Sl}
    (hi : evI (callN T wf (k + 1)) it (mk r x) = .ok (items, []) (mk r x)) (hp : plainSl (mk r x)[v]? = true) (hw : ∀ r y, wipeE (mk r y) [v] = mk r .un) (ha : ∀ d r, asgT (mk r .un) (.nm v) (.val d) = some (mk r (.fz d))) (hb : ∀ r', back (mk r x) (mk r' .un) [v] = mk r' x)
    (he : ∀ d r, DrOk r → ev (callN T wf (k + 1)) e (mk r (.fz d)) = .ok (.val (.int (takeF r m).1)) (mk (takeF r m).2 (.fz d))) (hz : items.length ≤ 1000) :
    ∃ (xs : List Int) (r' : Dr), DrOk r' ∧ xs.length = items.length ∧ (∀ x ∈ xs, 0 ≤ x ∧ x < m) ∧ ev (callN T wf (k + 1)) (.comp [v] (.nm v) it (.con (.bl true)) (.yld e)) (mk r x) = .ok (.own (.lst (xs.map .int))) (mk r' x) := by
  obtain ⟨xs, r', e1, hr, hl, hb'⟩ := takes_loop (vs := [v]) (f := turnF (callN T wf (k + 1)) (.nm v) (.con (.bl true)) (evQ (callN T wf (k + 1)) (.yld e))) hm (fun r => mk r .un) (ds := items)
    (fun d hd r hr => by
      refine ⟨mk (takeF r m).2 (.fz d), ?_, hw _ _⟩
      unfold turnF
      rw [ha]
      simp [evSs, evS, G.ev, evTs, evBs, evCs, evPs, evI, evQ, Res.bind, Res.sr, SR.seq, ofO, ofS, force, forces, Sl.get, idx, atI, ixN, bop, uop, RV.new, RV.held, D.sh, D.shs, D.ok, D.eqv, D.eqvs, truthOf, D.truth, G.take, setL, getL, ownL, reown, asgT, G.prim, isInts, G.elems, G.items, itemsR, walkB, retR, outOf, iosOf, noOw, fzAt, plainSl_some, pln_un, pln_fz, G.lock, G.unlock, G.back, wipeE, SR.unl, guard, argsS, argS, apart, slotOf, putBack, G.chk, outR, mutD, rangeOf, inR, setS, he d r hr]) r h
  refine ⟨xs, r', hr, hl, hb', ?_⟩
  have e := comp_ev (F := callN T wf (k + 1)) (vs := [v]) (t := .nm v) (it := it) (c := .con (.bl true)) (q := .yld e) (ρ := mk r x) (ρ1 := mk r x) (p := (items, [])) hi (by simpa [evSs, evS, G.ev, evTs, evBs, evCs, evPs, evI, evQ, Res.bind, Res.sr, SR.seq, ofO, ofS, force, forces, Sl.get, idx, atI, ixN, bop, uop, RV.new, RV.held, D.sh, D.shs, D.ok, D.eqv, D.eqvs, truthOf, D.truth, G.take, setL, getL, ownL, reown, asgT, G.prim, isInts, G.elems, G.items, itemsR, walkB, retR, outOf, iosOf, noOw, fzAt, plainSl_some, pln_un, pln_fz, G.lock, G.unlock, G.back, wipeE, SR.unl, guard, argsS, argS, apart, slotOf, putBack, G.chk, outR, mutD, rangeOf, inR, setS] using hp) (by show loopC _ _ _ (wipeE (mk r x) [v]) = _; rw [hw]; exact e1) (by rw [List.length_map, hl]; exact sizeLine_big hz)
  rw [e]
  show Res.ok _ (back (mk r x) (mk r' .un) [v]) = _
  rw [hb]
end
end G
end

section
set_option Elab.async false
set_option linter.all false
set_option maxRecDepth 100000
set_option maxHeartbeats 4000000
/-! P4: the drawn circuit, whole. -/
namespace G
open PySem PySem.Spec PyProof.Rows L2
theorem rangeD_at {lo : Int} {n i : Nat} {d : D} (h : (rangeD lo n)[i]? = some d) : d = .int (lo + (i : Nat)) ∧ i < n := by
  simp only [rangeD, List.getElem?_map] at h
  obtain ⟨j, e, rfl⟩ := Option.map_eq_some_iff.mp h
  obtain ⟨h1, h2⟩ := List.getElem?_eq_some_iff.mp e
  simp [evSs, evS, G.ev, evTs, evBs, evCs, evPs, evI, evQ, Res.bind, Res.sr, SR.seq, ofO, ofS, force, forces, Sl.get, idx, atI, ixN, bop, uop, RV.new, RV.held, D.sh, D.shs, D.ok, D.eqv, D.eqvs, truthOf, D.truth, G.take, setL, getL, ownL, reown, asgT, G.prim, isInts, G.elems, G.items, itemsR, walkB, retR, outOf, iosOf, noOw, fzAt, plainSl_some, pln_un, pln_fz, G.lock, G.unlock, G.back, wipeE, SR.unl, guard, argsS, argS, apart, slotOf, putBack, G.chk, outR, mutD, rangeOf, setS] at h1 h2
  subst h2
  exact ⟨rfl, h1⟩
theorem rangeD_len (lo : Int) (n : Nat) : (rangeD lo n).length = n := by simp [evSs, evS, G.ev, evTs, evBs, evCs, evPs, evI, evQ, Res.bind, Res.sr, SR.seq, ofO, ofS, force, forces, Sl.get, idx, atI, ixN, bop, uop, RV.new, RV.held, D.sh, D.shs, D.ok, D.eqv, D.eqvs, truthOf, D.truth, G.take, setL, getL, ownL, reown, asgT, G.prim, isInts, G.elems, G.items, itemsR, walkB, retR, outOf, iosOf, noOw, fzAt, plainSl_some, pln_un, pln_fz, G.lock, G.unlock, G.back, wipeE, SR.unl, guard, argsS, argS, apart, slotOf, putBack, G.chk, outR, mutD, rangeOf, setS, rangeD]
theorem inR_small {i : Int} (h0 : -1000000 ≤ i) (h1 : i ≤ 1000000) : inR i = true := by
  simp only [inR, Bool.and_eq_true, decide_eq_true_eq]
  omega
structure Circ where
  inp : Int
  st : List Int
  gs : List Gt
  nx : List Int
  ou : List Int
def iT (xs : List Int) : D := .tup (xs.map .int)
def Circ.d (c : Circ) : D := .tup [.int c.inp, iT c.st, .tup (c.gs.map Gt.d), iT c.nx, iT c.ou]
def Circ.many (c : Circ) : Int := c.inp + c.st.length + c.gs.length
structure CircOk (c : Circ) : Prop where
  inp : 0 ≤ c.inp
  st : ∀ b ∈ c.st, 0 ≤ b ∧ b < 2
  gs : GatesOk (c.inp + c.st.length) c.gs
  nl : c.nx.length = c.st.length
  nx : ∀ x ∈ c.nx, 0 ≤ x ∧ x < c.many
  ou : ∀ x ∈ c.ou, 0 ≤ x ∧ x < c.many
section
variable {T : List Fd} {wf k tk ci : Nat} (hT : T[tk]? = some ⟨3, 2, takeSs⟩)
include hT
theorem circ_fn (hC : T[ci]? = some ⟨15, 5, circSs tk⟩) {r : Dr} (h : DrOk r) {inp reg gt ot : Int} (i0 : 0 ≤ inp) (i1 : inp ≤ 100) (r0 : 0 ≤ reg) (r1 : reg ≤ 100) (g0 : 0 ≤ gt) (g1 : gt ≤ 100) (o0 : 0 ≤ ot) (o1 : ot ≤ 100) :
    ∃ (r' : Dr) (c : Circ), DrOk r' ∧ CircOk c ∧ c.inp = inp ∧ (c.st.length : Int) = reg ∧ ((c.gs.length : Int) ≤ gt ∨ c.gs.length = 1) ∧ (c.ou.length : Int) = ot ∧ callN T wf (k + 2) ci [.io r.d, .fz (.int inp), .fz (.int reg), .fz (.int gt), .fz (.int ot)] = .rt false c.d [r'.d] := by
  have e1 := take_fn (wf := wf) (k := k) hT h (m := gt + 1) (by omega) (by omega)
  obtain ⟨hr1, m0, m1⟩ := takeF_ok h (m := gt + 1) (by omega)
  generalize hm0 : (takeF r (gt + 1)).1 = mm at e1 m0 m1
  generalize hr0 : (takeF r (gt + 1)).2 = r1' at e1 hr1
  -- how many gates
  have hmany : ∃ many : Int, 0 ≤ many ∧ many ≤ 101 ∧ 0 < inp + reg + many ∧ (many ≤ gt ∨ many = 1) ∧
      evSs (callN T wf (k + 1)) wf (circSs tk) [.io r.d, .fz (.int inp), .fz (.int reg), .fz (.int gt), .fz (.int ot), .un, .un, .un, .un, .un, .un, .un, .un, .un, .un] =
      evSs (callN T wf (k + 1)) wf (.cons (.asg (.nm 7) (.lst .nil)) (.cons (.for (.nm 8) (.rng (.cons (.var 6) .nil)) (circB tk))
  (.cons (.asg (.nm 9) (.bin .add (.var 5) (.var 6))) (.cons (.asg (.nm 12) (.prim .tuple (.cons (.comp [8] (.nm 8) (.rng (.cons (.var 2) .nil)) (.con (.bl true)) (.yld (.call tk [true, false] (.cons (.var 0) (.cons (.con (.int 2)) .nil))))) .nil))) (.cons (.asg (.nm 13) (.prim .tuple (.cons (.comp [8] (.nm 8) (.rng (.cons (.var 2) .nil)) (.con (.bl true)) (.yld (.call tk [true, false] (.cons (.var 0) (.cons (.var 9) .nil))))) .nil))) (.cons (.ret (.tup (.cons (.var 1) (.cons (.var 12) (.cons (.prim .tuple (.cons (.var 7) .nil)) (.cons (.var 13) (.cons (.prim .tuple (.cons (.comp [8] (.nm 8) (.rng (.cons (.var 4) .nil)) (.con (.bl true)) (.yld (.call tk [true, false] (.cons (.var 0) (.cons (.var 9) .nil))))) .nil)) .nil))))))) .nil))))))
        [.io r1'.d, .fz (.int inp), .fz (.int reg), .fz (.int gt), .fz (.int ot), .fz (.int (inp + reg)), .fz (.int many), .un, .un, .un, .un, .un, .un, .un, .un] := by
    have s5 : evS (callN T wf (k + 1)) wf (.asg (.nm 5) (.bin .add (.var 1) (.var 2))) [.io r.d, .fz (.int inp), .fz (.int reg), .fz (.int gt), .fz (.int ot), .un, .un, .un, .un, .un, .un, .un, .un, .un, .un] = .nx [.io r.d, .fz (.int inp), .fz (.int reg), .fz (.int gt), .fz (.int ot), .fz (.int (inp + reg)), .un, .un, .un, .un, .un, .un, .un, .un, .un] := by
      simp [evSs, evS, G.ev, evTs, evBs, evCs, evPs, evI, evQ, Res.bind, Res.sr, SR.seq, ofO, ofS, force, forces, Sl.get, idx, atI, ixN, bop, uop, RV.new, RV.held, D.sh, D.shs, D.ok, D.eqv, D.eqvs, truthOf, D.truth, G.take, setL, getL, ownL, reown, asgT, G.prim, isInts, G.elems, G.items, itemsR, walkB, retR, outOf, iosOf, noOw, fzAt, plainSl_some, pln_un, pln_fz, G.lock, G.unlock, G.back, wipeE, SR.unl, guard, argsS, argS, apart, slotOf, putBack, G.chk, outR, mutD, rangeOf, setS]
    have s6 : evS (callN T wf (k + 1)) wf (.asg (.nm 6) (.call tk [true, false] (.cons (.var 0) (.cons (.bin .add (.var 3) (.con (.int 1))) .nil)))) [.io r.d, .fz (.int inp), .fz (.int reg), .fz (.int gt), .fz (.int ot), .fz (.int (inp + reg)), .un, .un, .un, .un, .un, .un, .un, .un, .un] = .nx [.io r1'.d, .fz (.int inp), .fz (.int reg), .fz (.int gt), .fz (.int ot), .fz (.int (inp + reg)), .fz (.int mm), .un, .un, .un, .un, .un, .un, .un, .un] := by
      simp [evSs, evS, G.ev, evTs, evBs, evCs, evPs, evI, evQ, Res.bind, Res.sr, SR.seq, ofO, ofS, force, forces, Sl.get, idx, atI, ixN, bop, uop, RV.new, RV.held, D.sh, D.shs, D.ok, D.eqv, D.eqvs, truthOf, D.truth, G.take, setL, getL, ownL, reown, asgT, G.prim, isInts, G.elems, G.items, itemsR, walkB, retR, outOf, iosOf, noOw, fzAt, plainSl_some, pln_un, pln_fz, G.lock, G.unlock, G.back, wipeE, SR.unl, guard, argsS, argS, apart, slotOf, putBack, G.chk, outR, mutD, rangeOf, setS, e1]
    by_cases hz : inp + reg = 0
    · refine ⟨if mm > 1 then mm else 1, by split <;> omega, by split <;> omega, by split <;> omega, by split <;> omega, ?_⟩
      unfold circSs
      rw [ss_step s5, ss_step s6]
      refine ss_step ?_
      simp [evSs, evS, G.ev, evTs, evBs, evCs, evPs, evI, evQ, Res.bind, Res.sr, SR.seq, ofO, ofS, force, forces, Sl.get, idx, atI, ixN, bop, uop, RV.new, RV.held, D.sh, D.shs, D.ok, D.eqv, D.eqvs, truthOf, D.truth, G.take, setL, getL, ownL, reown, asgT, G.prim, isInts, G.elems, G.items, itemsR, walkB, retR, outOf, iosOf, noOw, fzAt, plainSl_some, pln_un, pln_fz, G.lock, G.unlock, G.back, wipeE, SR.unl, guard, argsS, argS, apart, slotOf, putBack, G.chk, outR, mutD, rangeOf, setS, hz]
    · refine ⟨mm, m0, by omega, by omega, .inl (by omega), ?_⟩
      unfold circSs
      rw [ss_step s5, ss_step s6]
      refine ss_step ?_
      simp [evSs, evS, G.ev, evTs, evBs, evCs, evPs, evI, evQ, Res.bind, Res.sr, SR.seq, ofO, ofS, force, forces, Sl.get, idx, atI, ixN, bop, uop, RV.new, RV.held, D.sh, D.shs, D.ok, D.eqv, D.eqvs, truthOf, D.truth, G.take, setL, getL, ownL, reown, asgT, G.prim, isInts, G.elems, G.items, itemsR, walkB, retR, outOf, iosOf, noOw, fzAt, plainSl_some, pln_un, pln_fz, G.lock, G.unlock, G.back, wipeE, SR.unl, guard, argsS, argS, apart, slotOf, putBack, G.chk, outR, mutD, rangeOf, setS, hz]
  obtain ⟨many, n0, n1, np, nb, hst⟩ := hmany
  have s7 : evS (callN T wf (k + 1)) wf (.asg (.nm 7) (.lst .nil)) [.io r1'.d, .fz (.int inp), .fz (.int reg), .fz (.int gt), .fz (.int ot), .fz (.int (inp + reg)), .fz (.int many), .un, .un, .un, .un, .un, .un, .un, .un] = .nx [.io r1'.d, .fz (.int inp), .fz (.int reg), .fz (.int gt), .fz (.int ot), .fz (.int (inp + reg)), .fz (.int many), .ow (.lst []), .un, .un, .un, .un, .un, .un, .un] := by
    simp [evSs, evS, G.ev, evTs, evBs, evCs, evPs, evI, evQ, Res.bind, Res.sr, SR.seq, ofO, ofS, force, forces, Sl.get, idx, atI, ixN, bop, uop, RV.new, RV.held, D.sh, D.shs, D.ok, D.eqv, D.eqvs, truthOf, D.truth, G.take, setL, getL, ownL, reown, asgT, G.prim, isInts, G.elems, G.items, itemsR, walkB, retR, outOf, iosOf, noOw, fzAt, plainSl_some, pln_un, pln_fz, G.lock, G.unlock, G.back, wipeE, SR.unl, guard, argsS, argS, apart, slotOf, putBack, G.chk, outR, mutD, rangeOf, setS]
  have inm := inR_small (i := many) (by omega) (by omega)
  obtain ⟨ρ', ⟨r2, gs, a8, a9, a10, a11, rfl, hr2, hgl, hgo, p8, p9, p10, p11⟩, ef⟩ := for_ind (F := callN T wf (k + 1)) (wf := wf) (t := .nm 8) (it := .rng (.cons (.var 6) .nil)) (b := circB tk)
    (ρ := [.io r1'.d, .fz (.int inp), .fz (.int reg), .fz (.int gt), .fz (.int ot), .fz (.int (inp + reg)), .fz (.int many), .ow (.lst []), .un, .un, .un, .un, .un, .un, .un])
    (ρ1 := [.io r1'.d, .fz (.int inp), .fz (.int reg), .fz (.int gt), .fz (.int ot), .fz (.int (inp + reg)), .fz (.int many), .ow (.lst []), .un, .un, .un, .un, .un, .un, .un]) (p := (rangeD 0 many.toNat, [])) (by simp [evSs, evS, G.ev, evTs, evBs, evCs, evPs, evI, evQ, Res.bind, Res.sr, SR.seq, ofO, ofS, force, forces, Sl.get, idx, atI, ixN, bop, uop, RV.new, RV.held, D.sh, D.shs, D.ok, D.eqv, D.eqvs, truthOf, D.truth, G.take, setL, getL, ownL, reown, asgT, G.prim, isInts, G.elems, G.items, itemsR, walkB, retR, outOf, iosOf, noOw, fzAt, plainSl_some, pln_un, pln_fz, G.lock, G.unlock, G.back, wipeE, SR.unl, guard, argsS, argS, apart, slotOf, putBack, G.chk, outR, mutD, rangeOf, setS, inm])
    (fun i ρ => ∃ (r : Dr) (gs : List Gt) (a8 a9 a10 a11 : Sl), ρ = [.io r.d, .fz (.int inp), .fz (.int reg), .fz (.int gt), .fz (.int ot), .fz (.int (inp + reg)), .fz (.int many), .ow (.lst (gs.map Gt.d)), a8, a9, a10, a11, .un, .un, .un] ∧ DrOk r ∧ gs.length = i ∧ GatesOk (inp + reg) gs ∧ a8.pln = true ∧ a9.pln = true ∧ a10.pln = true ∧ a11.pln = true)
    ⟨r1', [], .un, .un, .un, .un, by simp [evSs, evS, G.ev, evTs, evBs, evCs, evPs, evI, evQ, Res.bind, Res.sr, SR.seq, ofO, ofS, force, forces, Sl.get, idx, atI, ixN, bop, uop, RV.new, RV.held, D.sh, D.shs, D.ok, D.eqv, D.eqvs, truthOf, D.truth, G.take, setL, getL, ownL, reown, asgT, G.prim, isInts, G.elems, G.items, itemsR, walkB, retR, outOf, iosOf, noOw, fzAt, plainSl_some, pln_un, pln_fz, G.lock, G.unlock, G.back, wipeE, SR.unl, guard, argsS, argS, apart, slotOf, putBack, G.chk, outR, mutD, rangeOf, setS], hr1, rfl, fun i g e => by simp [evSs, evS, G.ev, evTs, evBs, evCs, evPs, evI, evQ, Res.bind, Res.sr, SR.seq, ofO, ofS, force, forces, Sl.get, idx, atI, ixN, bop, uop, RV.new, RV.held, D.sh, D.shs, D.ok, D.eqv, D.eqvs, truthOf, D.truth, G.take, setL, getL, ownL, reown, asgT, G.prim, isInts, G.elems, G.items, itemsR, walkB, retR, outOf, iosOf, noOw, fzAt, plainSl_some, pln_un, pln_fz, G.lock, G.unlock, G.back, wipeE, SR.unl, guard, argsS, argS, apart, slotOf, putBack, G.chk, outR, mutD, rangeOf, setS] at e, rfl, rfl, rfl, rfl⟩
    (fun i d ρ hd ⟨r, gs, a8, a9, a10, a11, e, hr, hgl, hgo, p8, p9, p10, p11⟩ => by
      obtain ⟨rfl, hi⟩ := rangeD_at hd
      subst e
      have hi2 : (i : Int) < many := by omega
      obtain ⟨r', g, b10, b11, hr', hg, q10, q11, eb⟩ := circ_body (wf := wf) (k := k) hT hr (a1 := .fz (.int inp)) (a2 := .fz (.int reg)) (a3 := .fz (.int gt)) (a4 := .fz (.int ot)) (a6 := .fz (.int many)) (a12 := .un) (a13 := .un) (gs := gs.map Gt.d) (by rw [List.length_map]; omega) (f0 := inp + reg) (kk := 0 + (i : Nat)) (by omega) (by omega) p9 p10 p11 (a14 := .un) rfl
      refine ⟨_, _, setS_nio rfl (Sl.pln_nio p8), eb, r', gs ++ [g], .fz (.int (0 + (i : Nat))), .fz (.int (inp + reg + (0 + (i : Nat)))), b10, b11, by rw [List.map_append]; rfl, hr', by simp [evSs, evS, G.ev, evTs, evBs, evCs, evPs, evI, evQ, Res.bind, Res.sr, SR.seq, ofO, ofS, force, forces, Sl.get, idx, atI, ixN, bop, uop, RV.new, RV.held, D.sh, D.shs, D.ok, D.eqv, D.eqvs, truthOf, D.truth, G.take, setL, getL, ownL, reown, asgT, G.prim, isInts, G.elems, G.items, itemsR, walkB, retR, outOf, iosOf, noOw, fzAt, plainSl_some, pln_un, pln_fz, G.lock, G.unlock, G.back, wipeE, SR.unl, guard, argsS, argS, apart, slotOf, putBack, G.chk, outR, mutD, rangeOf, setS, hgl], hgo.snoc ?_, rfl, rfl, q10, q11⟩
      rw [hgl]
      rw [Int.zero_add] at hg
      exact hg)
  have hgl : gs.length = many.toNat := by rw [hgl]; exact rangeD_len 0 _
  have hun : unlock [.io r1'.d, .fz (.int inp), .fz (.int reg), .fz (.int gt), .fz (.int ot), .fz (.int (inp + reg)), .fz (.int many), .ow (.lst []), .un, .un, .un, .un, .un, .un, .un] [.io r2.d, .fz (.int inp), .fz (.int reg), .fz (.int gt), .fz (.int ot), .fz (.int (inp + reg)), .fz (.int many), .ow (.lst (gs.map Gt.d)), a8, a9, a10, a11, .un, .un, .un] (rangeD 0 many.toNat, ([] : List RV)).2 = [.io r2.d, .fz (.int inp), .fz (.int reg), .fz (.int gt), .fz (.int ot), .fz (.int (inp + reg)), .fz (.int many), .ow (.lst (gs.map Gt.d)), a8, a9, a10, a11, .un, .un, .un] := rfl
  rw [hun] at ef
  have s9 : evS (callN T wf (k + 1)) wf (.asg (.nm 9) (.bin .add (.var 5) (.var 6))) [.io r2.d, .fz (.int inp), .fz (.int reg), .fz (.int gt), .fz (.int ot), .fz (.int (inp + reg)), .fz (.int many), .ow (.lst (gs.map Gt.d)), a8, a9, a10, a11, .un, .un, .un] = .nx [.io r2.d, .fz (.int inp), .fz (.int reg), .fz (.int gt), .fz (.int ot), .fz (.int (inp + reg)), .fz (.int many), .ow (.lst (gs.map Gt.d)), a8, .fz (.int (inp + reg + many)), a10, a11, .un, .un, .un] :=
    asg_ev (d := .int (inp + reg + many)) (ρ1 := [.io r2.d, .fz (.int inp), .fz (.int reg), .fz (.int gt), .fz (.int ot), .fz (.int (inp + reg)), .fz (.int many), .ow (.lst (gs.map Gt.d)), a8, a9, a10, a11, .un, .un, .un]) (by simp [evSs, evS, G.ev, evTs, evBs, evCs, evPs, evI, evQ, Res.bind, Res.sr, SR.seq, ofO, ofS, force, forces, Sl.get, idx, atI, ixN, bop, uop, RV.new, RV.held, D.sh, D.shs, D.ok, D.eqv, D.eqvs, truthOf, D.truth, G.take, setL, getL, ownL, reown, asgT, G.prim, isInts, G.elems, G.items, itemsR, walkB, retR, outOf, iosOf, noOw, fzAt, plainSl_some, pln_un, pln_fz, G.lock, G.unlock, G.back, wipeE, SR.unl, guard, argsS, argS, apart, slotOf, putBack, G.chk, outR, mutD, rangeOf, setS]) (setS_nio rfl (Sl.pln_nio p9))
  have inr := inR_small (i := reg) (by omega) (by omega)
  have ino := inR_small (i := ot) (by omega) (by omega)
  -- starts
  obtain ⟨st, r3, hr3, hsl, hsb, es⟩ := row_ev (wf := wf) (k := k) hT (m := 2) (by decide) (by decide) (e := .call tk [true, false] (.cons (.var 0) (.cons (.con (.int 2)) .nil))) (it := .rng (.cons (.var 2) .nil)) (v := 8) (items := rangeD 0 reg.toNat)
    (mk := fun r x => [.io r.d, .fz (.int inp), .fz (.int reg), .fz (.int gt), .fz (.int ot), .fz (.int (inp + reg)), .fz (.int many), .ow (.lst (gs.map Gt.d)), x, .fz (.int (inp + reg + many)), a10, a11, .un, .un, .un]) hr2 (x := a8) (by simp [evSs, evS, G.ev, evTs, evBs, evCs, evPs, evI, evQ, Res.bind, Res.sr, SR.seq, ofO, ofS, force, forces, Sl.get, idx, atI, ixN, bop, uop, RV.new, RV.held, D.sh, D.shs, D.ok, D.eqv, D.eqvs, truthOf, D.truth, G.take, setL, getL, ownL, reown, asgT, G.prim, isInts, G.elems, G.items, itemsR, walkB, retR, outOf, iosOf, noOw, fzAt, plainSl_some, pln_un, pln_fz, G.lock, G.unlock, G.back, wipeE, SR.unl, guard, argsS, argS, apart, slotOf, putBack, G.chk, outR, mutD, rangeOf, setS, inr]) (by simp [evSs, evS, G.ev, evTs, evBs, evCs, evPs, evI, evQ, Res.bind, Res.sr, SR.seq, ofO, ofS, force, forces, Sl.get, idx, atI, ixN, bop, uop, RV.new, RV.held, D.sh, D.shs, D.ok, D.eqv, D.eqvs, truthOf, D.truth, G.take, setL, getL, ownL, reown, asgT, G.prim, isInts, G.elems, G.items, itemsR, walkB, retR, outOf, iosOf, noOw, fzAt, plainSl_some, pln_un, pln_fz, G.lock, G.unlock, G.back, wipeE, SR.unl, guard, argsS, argS, apart, slotOf, putBack, G.chk, outR, mutD, rangeOf, setS, p8]) (fun r y => by simp [evSs, evS, G.ev, evTs, evBs, evCs, evPs, evI, evQ, Res.bind, Res.sr, SR.seq, ofO, ofS, force, forces, Sl.get, idx, atI, ixN, bop, uop, RV.new, RV.held, D.sh, D.shs, D.ok, D.eqv, D.eqvs, truthOf, D.truth, G.take, setL, getL, ownL, reown, asgT, G.prim, isInts, G.elems, G.items, itemsR, walkB, retR, outOf, iosOf, noOw, fzAt, plainSl_some, pln_un, pln_fz, G.lock, G.unlock, G.back, wipeE, SR.unl, guard, argsS, argS, apart, slotOf, putBack, G.chk, outR, mutD, rangeOf, setS]) (fun d r => by simp [evSs, evS, G.ev, evTs, evBs, evCs, evPs, evI, evQ, Res.bind, Res.sr, SR.seq, ofO, ofS, force, forces, Sl.get, idx, atI, ixN, bop, uop, RV.new, RV.held, D.sh, D.shs, D.ok, D.eqv, D.eqvs, truthOf, D.truth, G.take, setL, getL, ownL, reown, asgT, G.prim, isInts, G.elems, G.items, itemsR, walkB, retR, outOf, iosOf, noOw, fzAt, plainSl_some, pln_un, pln_fz, G.lock, G.unlock, G.back, wipeE, SR.unl, guard, argsS, argS, apart, slotOf, putBack, G.chk, outR, mutD, rangeOf, setS]) (fun r' => by simp [evSs, evS, G.ev, evTs, evBs, evCs, evPs, evI, evQ, Res.bind, Res.sr, SR.seq, ofO, ofS, force, forces, Sl.get, idx, atI, ixN, bop, uop, RV.new, RV.held, D.sh, D.shs, D.ok, D.eqv, D.eqvs, truthOf, D.truth, G.take, setL, getL, ownL, reown, asgT, G.prim, isInts, G.elems, G.items, itemsR, walkB, retR, outOf, iosOf, noOw, fzAt, plainSl_some, pln_un, pln_fz, G.lock, G.unlock, G.back, wipeE, SR.unl, guard, argsS, argS, apart, slotOf, putBack, G.chk, outR, mutD, rangeOf, setS])
    (fun d r hr => by have e := take_fn (wf := wf) (k := k) hT hr (m := 2) (by decide) (by decide); simp [evSs, evS, G.ev, evTs, evBs, evCs, evPs, evI, evQ, Res.bind, Res.sr, SR.seq, ofO, ofS, force, forces, Sl.get, idx, atI, ixN, bop, uop, RV.new, RV.held, D.sh, D.shs, D.ok, D.eqv, D.eqvs, truthOf, D.truth, G.take, setL, getL, ownL, reown, asgT, G.prim, isInts, G.elems, G.items, itemsR, walkB, retR, outOf, iosOf, noOw, fzAt, plainSl_some, pln_un, pln_fz, G.lock, G.unlock, G.back, wipeE, SR.unl, guard, argsS, argS, apart, slotOf, putBack, G.chk, outR, mutD, rangeOf, setS, e]) (by rw [rangeD_len]; omega)
  have s12 : evS (callN T wf (k + 1)) wf (.asg (.nm 12) (.prim .tuple (.cons (.comp [8] (.nm 8) (.rng (.cons (.var 2) .nil)) (.con (.bl true)) (.yld (.call tk [true, false] (.cons (.var 0) (.cons (.con (.int 2)) .nil))))) .nil))) [.io r2.d, .fz (.int inp), .fz (.int reg), .fz (.int gt), .fz (.int ot), .fz (.int (inp + reg)), .fz (.int many), .ow (.lst (gs.map Gt.d)), a8, .fz (.int (inp + reg + many)), a10, a11, .un, .un, .un] =
      .nx [.io r3.d, .fz (.int inp), .fz (.int reg), .fz (.int gt), .fz (.int ot), .fz (.int (inp + reg)), .fz (.int many), .ow (.lst (gs.map Gt.d)), a8, .fz (.int (inp + reg + many)), a10, a11, .fz (iT st), .un, .un] :=
    asg_ev (ev_tuple es) rfl
  -- nexts
  obtain ⟨nx, r4, hr4, hnl, hnb, en⟩ := row_ev (wf := wf) (k := k) hT (m := inp + reg + many) (by omega) (by omega) (e := .call tk [true, false] (.cons (.var 0) (.cons (.var 9) .nil))) (it := .rng (.cons (.var 2) .nil)) (v := 8) (items := rangeD 0 reg.toNat)
    (mk := fun r x => [.io r.d, .fz (.int inp), .fz (.int reg), .fz (.int gt), .fz (.int ot), .fz (.int (inp + reg)), .fz (.int many), .ow (.lst (gs.map Gt.d)), x, .fz (.int (inp + reg + many)), a10, a11, .fz (iT st), .un, .un]) hr3 (x := a8) (by simp [evSs, evS, G.ev, evTs, evBs, evCs, evPs, evI, evQ, Res.bind, Res.sr, SR.seq, ofO, ofS, force, forces, Sl.get, idx, atI, ixN, bop, uop, RV.new, RV.held, D.sh, D.shs, D.ok, D.eqv, D.eqvs, truthOf, D.truth, G.take, setL, getL, ownL, reown, asgT, G.prim, isInts, G.elems, G.items, itemsR, walkB, retR, outOf, iosOf, noOw, fzAt, plainSl_some, pln_un, pln_fz, G.lock, G.unlock, G.back, wipeE, SR.unl, guard, argsS, argS, apart, slotOf, putBack, G.chk, outR, mutD, rangeOf, setS, inr]) (by simp [evSs, evS, G.ev, evTs, evBs, evCs, evPs, evI, evQ, Res.bind, Res.sr, SR.seq, ofO, ofS, force, forces, Sl.get, idx, atI, ixN, bop, uop, RV.new, RV.held, D.sh, D.shs, D.ok, D.eqv, D.eqvs, truthOf, D.truth, G.take, setL, getL, ownL, reown, asgT, G.prim, isInts, G.elems, G.items, itemsR, walkB, retR, outOf, iosOf, noOw, fzAt, plainSl_some, pln_un, pln_fz, G.lock, G.unlock, G.back, wipeE, SR.unl, guard, argsS, argS, apart, slotOf, putBack, G.chk, outR, mutD, rangeOf, setS, p8]) (fun r y => by simp [evSs, evS, G.ev, evTs, evBs, evCs, evPs, evI, evQ, Res.bind, Res.sr, SR.seq, ofO, ofS, force, forces, Sl.get, idx, atI, ixN, bop, uop, RV.new, RV.held, D.sh, D.shs, D.ok, D.eqv, D.eqvs, truthOf, D.truth, G.take, setL, getL, ownL, reown, asgT, G.prim, isInts, G.elems, G.items, itemsR, walkB, retR, outOf, iosOf, noOw, fzAt, plainSl_some, pln_un, pln_fz, G.lock, G.unlock, G.back, wipeE, SR.unl, guard, argsS, argS, apart, slotOf, putBack, G.chk, outR, mutD, rangeOf, setS]) (fun d r => by simp [evSs, evS, G.ev, evTs, evBs, evCs, evPs, evI, evQ, Res.bind, Res.sr, SR.seq, ofO, ofS, force, forces, Sl.get, idx, atI, ixN, bop, uop, RV.new, RV.held, D.sh, D.shs, D.ok, D.eqv, D.eqvs, truthOf, D.truth, G.take, setL, getL, ownL, reown, asgT, G.prim, isInts, G.elems, G.items, itemsR, walkB, retR, outOf, iosOf, noOw, fzAt, plainSl_some, pln_un, pln_fz, G.lock, G.unlock, G.back, wipeE, SR.unl, guard, argsS, argS, apart, slotOf, putBack, G.chk, outR, mutD, rangeOf, setS]) (fun r' => by simp [evSs, evS, G.ev, evTs, evBs, evCs, evPs, evI, evQ, Res.bind, Res.sr, SR.seq, ofO, ofS, force, forces, Sl.get, idx, atI, ixN, bop, uop, RV.new, RV.held, D.sh, D.shs, D.ok, D.eqv, D.eqvs, truthOf, D.truth, G.take, setL, getL, ownL, reown, asgT, G.prim, isInts, G.elems, G.items, itemsR, walkB, retR, outOf, iosOf, noOw, fzAt, plainSl_some, pln_un, pln_fz, G.lock, G.unlock, G.back, wipeE, SR.unl, guard, argsS, argS, apart, slotOf, putBack, G.chk, outR, mutD, rangeOf, setS])
    (fun d r hr => by have e := take_fn (wf := wf) (k := k) hT hr (m := inp + reg + many) (by omega) (by omega); simp [evSs, evS, G.ev, evTs, evBs, evCs, evPs, evI, evQ, Res.bind, Res.sr, SR.seq, ofO, ofS, force, forces, Sl.get, idx, atI, ixN, bop, uop, RV.new, RV.held, D.sh, D.shs, D.ok, D.eqv, D.eqvs, truthOf, D.truth, G.take, setL, getL, ownL, reown, asgT, G.prim, isInts, G.elems, G.items, itemsR, walkB, retR, outOf, iosOf, noOw, fzAt, plainSl_some, pln_un, pln_fz, G.lock, G.unlock, G.back, wipeE, SR.unl, guard, argsS, argS, apart, slotOf, putBack, G.chk, outR, mutD, rangeOf, setS, e]) (by rw [rangeD_len]; omega)
  have s13 : evS (callN T wf (k + 1)) wf (.asg (.nm 13) (.prim .tuple (.cons (.comp [8] (.nm 8) (.rng (.cons (.var 2) .nil)) (.con (.bl true)) (.yld (.call tk [true, false] (.cons (.var 0) (.cons (.var 9) .nil))))) .nil))) [.io r3.d, .fz (.int inp), .fz (.int reg), .fz (.int gt), .fz (.int ot), .fz (.int (inp + reg)), .fz (.int many), .ow (.lst (gs.map Gt.d)), a8, .fz (.int (inp + reg + many)), a10, a11, .fz (iT st), .un, .un] =
      .nx [.io r4.d, .fz (.int inp), .fz (.int reg), .fz (.int gt), .fz (.int ot), .fz (.int (inp + reg)), .fz (.int many), .ow (.lst (gs.map Gt.d)), a8, .fz (.int (inp + reg + many)), a10, a11, .fz (iT st), .fz (iT nx), .un] :=
    asg_ev (ev_tuple en) rfl
  -- outputs
  obtain ⟨ou, r5, hr5, hol, hob, eo⟩ := row_ev (wf := wf) (k := k) hT (m := inp + reg + many) (by omega) (by omega) (e := .call tk [true, false] (.cons (.var 0) (.cons (.var 9) .nil))) (it := .rng (.cons (.var 4) .nil)) (v := 8) (items := rangeD 0 ot.toNat)
    (mk := fun r x => [.io r.d, .fz (.int inp), .fz (.int reg), .fz (.int gt), .fz (.int ot), .fz (.int (inp + reg)), .fz (.int many), .ow (.lst (gs.map Gt.d)), x, .fz (.int (inp + reg + many)), a10, a11, .fz (iT st), .fz (iT nx), .un]) hr4 (x := a8) (by simp [evSs, evS, G.ev, evTs, evBs, evCs, evPs, evI, evQ, Res.bind, Res.sr, SR.seq, ofO, ofS, force, forces, Sl.get, idx, atI, ixN, bop, uop, RV.new, RV.held, D.sh, D.shs, D.ok, D.eqv, D.eqvs, truthOf, D.truth, G.take, setL, getL, ownL, reown, asgT, G.prim, isInts, G.elems, G.items, itemsR, walkB, retR, outOf, iosOf, noOw, fzAt, plainSl_some, pln_un, pln_fz, G.lock, G.unlock, G.back, wipeE, SR.unl, guard, argsS, argS, apart, slotOf, putBack, G.chk, outR, mutD, rangeOf, setS, ino]) (by simp [evSs, evS, G.ev, evTs, evBs, evCs, evPs, evI, evQ, Res.bind, Res.sr, SR.seq, ofO, ofS, force, forces, Sl.get, idx, atI, ixN, bop, uop, RV.new, RV.held, D.sh, D.shs, D.ok, D.eqv, D.eqvs, truthOf, D.truth, G.take, setL, getL, ownL, reown, asgT, G.prim, isInts, G.elems, G.items, itemsR, walkB, retR, outOf, iosOf, noOw, fzAt, plainSl_some, pln_un, pln_fz, G.lock, G.unlock, G.back, wipeE, SR.unl, guard, argsS, argS, apart, slotOf, putBack, G.chk, outR, mutD, rangeOf, setS, p8]) (fun r y => by simp [evSs, evS, G.ev, evTs, evBs, evCs, evPs, evI, evQ, Res.bind, Res.sr, SR.seq, ofO, ofS, force, forces, Sl.get, idx, atI, ixN, bop, uop, RV.new, RV.held, D.sh, D.shs, D.ok, D.eqv, D.eqvs, truthOf, D.truth, G.take, setL, getL, ownL, reown, asgT, G.prim, isInts, G.elems, G.items, itemsR, walkB, retR, outOf, iosOf, noOw, fzAt, plainSl_some, pln_un, pln_fz, G.lock, G.unlock, G.back, wipeE, SR.unl, guard, argsS, argS, apart, slotOf, putBack, G.chk, outR, mutD, rangeOf, setS]) (fun d r => by simp [evSs, evS, G.ev, evTs, evBs, evCs, evPs, evI, evQ, Res.bind, Res.sr, SR.seq, ofO, ofS, force, forces, Sl.get, idx, atI, ixN, bop, uop, RV.new, RV.held, D.sh, D.shs, D.ok, D.eqv, D.eqvs, truthOf, D.truth, G.take, setL, getL, ownL, reown, asgT, G.prim, isInts, G.elems, G.items, itemsR, walkB, retR, outOf, iosOf, noOw, fzAt, plainSl_some, pln_un, pln_fz, G.lock, G.unlock, G.back, wipeE, SR.unl, guard, argsS, argS, apart, slotOf, putBack, G.chk, outR, mutD, rangeOf, setS]) (fun r' => by simp [evSs, evS, G.ev, evTs, evBs, evCs, evPs, evI, evQ, Res.bind, Res.sr, SR.seq, ofO, ofS, force, forces, Sl.get, idx, atI, ixN, bop, uop, RV.new, RV.held, D.sh, D.shs, D.ok, D.eqv, D.eqvs, truthOf, D.truth, G.take, setL, getL, ownL, reown, asgT, G.prim, isInts, G.elems, G.items, itemsR, walkB, retR, outOf, iosOf, noOw, fzAt, plainSl_some, pln_un, pln_fz, G.lock, G.unlock, G.back, wipeE, SR.unl, guard, argsS, argS, apart, slotOf, putBack, G.chk, outR, mutD, rangeOf, setS])
    (fun d r hr => by have e := take_fn (wf := wf) (k := k) hT hr (m := inp + reg + many) (by omega) (by omega); simp [evSs, evS, G.ev, evTs, evBs, evCs, evPs, evI, evQ, Res.bind, Res.sr, SR.seq, ofO, ofS, force, forces, Sl.get, idx, atI, ixN, bop, uop, RV.new, RV.held, D.sh, D.shs, D.ok, D.eqv, D.eqvs, truthOf, D.truth, G.take, setL, getL, ownL, reown, asgT, G.prim, isInts, G.elems, G.items, itemsR, walkB, retR, outOf, iosOf, noOw, fzAt, plainSl_some, pln_un, pln_fz, G.lock, G.unlock, G.back, wipeE, SR.unl, guard, argsS, argS, apart, slotOf, putBack, G.chk, outR, mutD, rangeOf, setS, e]) (by rw [rangeD_len]; omega)
  rw [rangeD_len] at hsl hnl hol
  have hglI : (gs.length : Int) = many := by omega
  have hslI : (st.length : Int) = reg := by omega
  refine ⟨r5, ⟨inp, st, gs, nx, ou⟩, hr5, ⟨i0, hsb, ?_, ?_, fun x hx => ?_, fun x hx => ?_⟩, rfl, hslI, ?_, ?_, ?_⟩
  · show GatesOk (inp + (st.length : Int)) gs
    rw [hslI]; exact hgo
  · show nx.length = st.length
    rw [hnl, hsl]
  · show 0 ≤ x ∧ x < inp + (st.length : Int) + (gs.length : Int)
    rw [hslI, hglI]; exact hnb x hx
  · show 0 ≤ x ∧ x < inp + (st.length : Int) + (gs.length : Int)
    rw [hslI, hglI]; exact hob x hx
  · show (gs.length : Int) ≤ gt ∨ gs.length = 1
    omega
  · show (ou.length : Int) = ot
    omega
  · have sR : evS (callN T wf (k + 1)) wf (.ret (.tup (.cons (.var 1) (.cons (.var 12) (.cons (.prim .tuple (.cons (.var 7) .nil)) (.cons (.var 13) (.cons (.prim .tuple (.cons (.comp [8] (.nm 8) (.rng (.cons (.var 4) .nil)) (.con (.bl true)) (.yld (.call tk [true, false] (.cons (.var 0) (.cons (.var 9) .nil))))) .nil)) .nil))))))) [.io r4.d, .fz (.int inp), .fz (.int reg), .fz (.int gt), .fz (.int ot), .fz (.int (inp + reg)), .fz (.int many), .ow (.lst (gs.map Gt.d)), a8, .fz (.int (inp + reg + many)), a10, a11, .fz (iT st), .fz (iT nx), .un] =
        .rt false (Circ.d ⟨inp, st, gs, nx, ou⟩) [.io r5.d, .fz (.int inp), .fz (.int reg), .fz (.int gt), .fz (.int ot), .fz (.int (inp + reg)), .fz (.int many), .ow (.lst (gs.map Gt.d)), a8, .fz (.int (inp + reg + many)), a10, a11, .fz (iT st), .fz (iT nx), .un] := by
      have eo' := ev_tuple eo
      generalize (E.prim .tuple (.cons (.comp [8] (.nm 8) (.rng (.cons (.var 4) .nil)) (.con (.bl true)) (.yld (.call tk [true, false] (.cons (.var 0) (.cons (.var 9) .nil))))) .nil)) = xe at eo' ⊢
      simp [evSs, evS, G.ev, evTs, evBs, evCs, evPs, evI, evQ, Res.bind, Res.sr, SR.seq, ofO, ofS, force, forces, Sl.get, idx, atI, ixN, bop, uop, RV.new, RV.held, D.sh, D.shs, D.ok, D.eqv, D.eqvs, truthOf, D.truth, G.take, setL, getL, ownL, reown, asgT, G.prim, isInts, G.elems, G.items, itemsR, walkB, retR, outOf, iosOf, noOw, fzAt, plainSl_some, pln_un, pln_fz, G.lock, G.unlock, G.back, wipeE, SR.unl, guard, argsS, argS, apart, slotOf, putBack, G.chk, outR, mutD, rangeOf, setS, eo', Circ.d]
      rfl
    have all : evSs (callN T wf (k + 1)) wf (circSs tk) [.io r.d, .fz (.int inp), .fz (.int reg), .fz (.int gt), .fz (.int ot), .un, .un, .un, .un, .un, .un, .un, .un, .un, .un] = .rt false (Circ.d ⟨inp, st, gs, nx, ou⟩) [.io r5.d, .fz (.int inp), .fz (.int reg), .fz (.int gt), .fz (.int ot), .fz (.int (inp + reg)), .fz (.int many), .ow (.lst (gs.map Gt.d)), a8, .fz (.int (inp + reg + many)), a10, a11, .fz (iT st), .fz (iT nx), .un] := by
      rw [hst, ss_step s7, ss_step ef, ss_step s9, ss_step s12, ss_step s13, ss_ret sR]
    rw [callN_eq hC rfl rfl]
    show outOf _ (evSs (callN T wf (k + 1)) wf (circSs tk) [.io r.d, .fz (.int inp), .fz (.int reg), .fz (.int gt), .fz (.int ot), .un, .un, .un, .un, .un, .un, .un, .un, .un, .un]) = _
    rw [all]
    rfl
end
end G
end

section
set_option Elab.async false
set_option linter.all false
set_option maxRecDepth 100000
set_option maxHeartbeats 4000000
/-! P5: values of signals. -/
namespace G
open PySem PySem.Spec PyProof.Rows L2
def bv (bits : List Int) (a : Int) : Int := bits.getD a.toNat 0
def Bits (bits : List Int) : Prop := ∀ b ∈ bits, b = 0 ∨ b = 1
theorem atI_ints {bits : List Int} {a : Int} (h0 : 0 ≤ a) (h1 : a < bits.length) : atI (bits.map D.int) a = some (.int (bv bits a)) := by
  have h : a.toNat < bits.length := by omega
  simp [evSs, evS, G.ev, evTs, evBs, evCs, evPs, evI, evQ, Res.bind, Res.sr, SR.seq, ofO, ofS, force, forces, Sl.get, ixN, bop, uop, RV.new, RV.held, D.sh, D.shs, D.ok, D.eqv, D.eqvs, truthOf, D.truth, G.take, setL, getL, ownL, reown, asgT, G.prim, isInts, G.elems, G.items, itemsR, walkB, retR, outOf, iosOf, noOw, fzAt, plainSl_some, pln_un, pln_fz, G.lock, G.unlock, G.back, wipeE, SR.unl, guard, argsS, argS, apart, slotOf, putBack, G.chk, outR, mutD, rangeOf, setS, optI, G.slc, atI, ixN, h0, h1, bv, h]
theorem bv_bit {bits : List Int} (hb : Bits bits) {a : Int} (h0 : 0 ≤ a) (h1 : a < bits.length) : bv bits a = 0 ∨ bv bits a = 1 := by
  have h : a.toNat < bits.length := by omega
  unfold bv
  rw [List.getD_eq_getElem?_getD, List.getElem?_eq_getElem h]
  exact hb _ (List.getElem_mem h)
/-- what a gate tells -/
def Gt.val (bits : List Int) : Gt → Int
  | .const b => b
  | .not a => 1 - bv bits a
  | .and a b => bv bits a * bv bits b
  | .or a b => if bv bits a < bv bits b then bv bits b else bv bits a
  | .xor a b => (bv bits a + bv bits b).fmod 2
  | .pick a b c => if bv bits a = 1 then bv bits b else bv bits c
theorem Gt.val_bit {bits : List Int} (hb : Bits bits) {g : Gt} (hg : g.ok bits.length) : g.val bits = 0 ∨ g.val bits = 1 := by
  cases g with
  | const b => exact hg
  | not a =>
    rcases bv_bit hb hg.1 hg.2 with h | h <;> simp [evSs, evS, G.ev, evTs, evBs, evCs, evPs, evI, evQ, Res.bind, Res.sr, SR.seq, ofO, ofS, force, forces, Sl.get, ixN, bop, uop, RV.new, RV.held, D.sh, D.shs, D.ok, D.eqv, D.eqvs, truthOf, D.truth, G.take, setL, getL, ownL, reown, asgT, G.prim, isInts, G.elems, G.items, itemsR, walkB, retR, outOf, iosOf, noOw, fzAt, plainSl_some, pln_un, pln_fz, G.lock, G.unlock, G.back, wipeE, SR.unl, guard, argsS, argS, apart, slotOf, putBack, G.chk, outR, mutD, rangeOf, setS, optI, G.slc, Gt.val, h]
  | and a b =>
    rcases bv_bit hb hg.1.1 hg.1.2 with h | h <;> rcases bv_bit hb hg.2.1 hg.2.2 with h2 | h2 <;> simp [evSs, evS, G.ev, evTs, evBs, evCs, evPs, evI, evQ, Res.bind, Res.sr, SR.seq, ofO, ofS, force, forces, Sl.get, ixN, bop, uop, RV.new, RV.held, D.sh, D.shs, D.ok, D.eqv, D.eqvs, truthOf, D.truth, G.take, setL, getL, ownL, reown, asgT, G.prim, isInts, G.elems, G.items, itemsR, walkB, retR, outOf, iosOf, noOw, fzAt, plainSl_some, pln_un, pln_fz, G.lock, G.unlock, G.back, wipeE, SR.unl, guard, argsS, argS, apart, slotOf, putBack, G.chk, outR, mutD, rangeOf, setS, optI, G.slc, Gt.val, h, h2]
  | or a b =>
    rcases bv_bit hb hg.1.1 hg.1.2 with h | h <;> rcases bv_bit hb hg.2.1 hg.2.2 with h2 | h2 <;> simp [evSs, evS, G.ev, evTs, evBs, evCs, evPs, evI, evQ, Res.bind, Res.sr, SR.seq, ofO, ofS, force, forces, Sl.get, ixN, bop, uop, RV.new, RV.held, D.sh, D.shs, D.ok, D.eqv, D.eqvs, truthOf, D.truth, G.take, setL, getL, ownL, reown, asgT, G.prim, isInts, G.elems, G.items, itemsR, walkB, retR, outOf, iosOf, noOw, fzAt, plainSl_some, pln_un, pln_fz, G.lock, G.unlock, G.back, wipeE, SR.unl, guard, argsS, argS, apart, slotOf, putBack, G.chk, outR, mutD, rangeOf, setS, optI, G.slc, Gt.val, h, h2]
  | xor a b =>
    rcases bv_bit hb hg.1.1 hg.1.2 with h | h <;> rcases bv_bit hb hg.2.1 hg.2.2 with h2 | h2 <;> simp [evSs, evS, G.ev, evTs, evBs, evCs, evPs, evI, evQ, Res.bind, Res.sr, SR.seq, ofO, ofS, force, forces, Sl.get, ixN, bop, uop, RV.new, RV.held, D.sh, D.shs, D.ok, D.eqv, D.eqvs, truthOf, D.truth, G.take, setL, getL, ownL, reown, asgT, G.prim, isInts, G.elems, G.items, itemsR, walkB, retR, outOf, iosOf, noOw, fzAt, plainSl_some, pln_un, pln_fz, G.lock, G.unlock, G.back, wipeE, SR.unl, guard, argsS, argS, apart, slotOf, putBack, G.chk, outR, mutD, rangeOf, setS, optI, G.slc, Gt.val, h, h2] <;> decide
  | pick a b c =>
    simp only [Gt.val]
    split
    · exact bv_bit hb hg.2.1.1 hg.2.1.2
    · exact bv_bit hb hg.2.2.1 hg.2.2.2
/-- bits as a tuple or a list -/
def BitsD (d : D) (bits : List Int) : Prop := d = .tup (bits.map .int) ∨ d = .lst (bits.map .int)
theorem idx_bits {d : D} {bits : List Int} (h : BitsD d bits) {a : Int} (h0 : 0 ≤ a) (h1 : a < bits.length) : idx d (.int a) = some (.int (bv bits a)) := by
  rcases h with rfl | rfl <;> exact atI_ints h0 h1
/-- a slot that may be read -/
def RdS (s : Sl) (d : D) : Prop := s = .fz d ∨ s = .bw d
theorem bitAnd_bit {x y : Int} (hx : x = 0 ∨ x = 1) (hy : y = 0 ∨ y = 1) : Builtin.bitAnd x y = x * y := by
  rcases hx with rfl | rfl <;> rcases hy with rfl | rfl <;> decide +kernel
theorem bitOr_bit {x y : Int} (hx : x = 0 ∨ x = 1) (hy : y = 0 ∨ y = 1) : Builtin.bitOr x y = if x < y then y else x := by
  rcases hx with rfl | rfl <;> rcases hy with rfl | rfl <;> decide +kernel
theorem bitXor_bit {x y : Int} (hx : x = 0 ∨ x = 1) (hy : y = 0 ∨ y = 1) : Builtin.bitXor x y = (x + y).fmod 2 := by
  rcases hx with rfl | rfl <;> rcases hy with rfl | rfl <;> decide +kernel
def valueSs : Ss := (.cons (.asg (.nm 2) (.idx (.var 0) (.con (.int 0)))) (.cons (.ite (.bin .eq (.var 2) (.con (.str "const"))) (.cons (.ret (.idx (.var 0) (.con (.int 1)))) .nil) .nil) (.cons (.ite (.bin .eq (.var 2) (.con (.str "not"))) (.cons (.ret (.bin .sub (.con (.int 1)) (.idx (.var 1) (.idx (.var 0) (.con (.int 1)))))) .nil) .nil) (.cons (.ite (.bin .eq (.var 2) (.con (.str "and"))) (.cons (.ret (.bin .band (.idx (.var 1) (.idx (.var 0) (.con (.int 1)))) (.idx (.var 1) (.idx (.var 0) (.con (.int 2)))))) .nil) .nil) (.cons (.ite (.bin .eq (.var 2) (.con (.str "or"))) (.cons (.ret (.bin .bor (.idx (.var 1) (.idx (.var 0) (.con (.int 1)))) (.idx (.var 1) (.idx (.var 0) (.con (.int 2)))))) .nil) .nil) (.cons (.ite (.bin .eq (.var 2) (.con (.str "xor"))) (.cons (.ret (.bin .bxor (.idx (.var 1) (.idx (.var 0) (.con (.int 1)))) (.idx (.var 1) (.idx (.var 0) (.con (.int 2)))))) .nil) .nil) (.cons (.ret (.ite (.idx (.var 1) (.idx (.var 0) (.con (.int 1)))) (.idx (.var 1) (.idx (.var 0) (.con (.int 2)))) (.idx (.var 1) (.idx (.var 0) (.con (.int 3)))))) .nil)))))))
theorem so_const : PySem.PyData.strOk "const" = true := by decide +kernel
theorem so_not : PySem.PyData.strOk "not" = true := by decide +kernel
theorem so_and : PySem.PyData.strOk "and" = true := by decide +kernel
theorem so_or : PySem.PyData.strOk "or" = true := by decide +kernel
theorem so_xor : PySem.PyData.strOk "xor" = true := by decide +kernel
theorem so_pick : PySem.PyData.strOk "pick" = true := by decide +kernel
theorem q1 : (("not" : Str) == "const") = false := by decide +kernel
theorem q2 : (("and" : Str) == "const") = false := by decide +kernel
theorem q3 : (("or" : Str) == "const") = false := by decide +kernel
theorem q4 : (("xor" : Str) == "const") = false := by decide +kernel
theorem q5 : (("pick" : Str) == "const") = false := by decide +kernel
theorem q6 : (("and" : Str) == "not") = false := by decide +kernel
theorem q7 : (("or" : Str) == "not") = false := by decide +kernel
theorem q8 : (("xor" : Str) == "not") = false := by decide +kernel
theorem q9 : (("pick" : Str) == "not") = false := by decide +kernel
theorem q10 : (("or" : Str) == "and") = false := by decide +kernel
theorem q11 : (("xor" : Str) == "and") = false := by decide +kernel
theorem q12 : (("pick" : Str) == "and") = false := by decide +kernel
theorem q13 : (("xor" : Str) == "or") = false := by decide +kernel
theorem q14 : (("pick" : Str) == "or") = false := by decide +kernel
theorem q15 : (("pick" : Str) == "xor") = false := by decide +kernel
theorem idx_tup {x : List D} {i : Int} : idx (.tup x) (.int i) = atI x i := rfl
theorem at3_0 {α : Type} {x : α} {r : List α} : atI (x :: r) 0 = some x := by
  have h : (0 : Int) < (r.length : Int) + 1 := by omega
  simp [evSs, evS, G.ev, evTs, evBs, evCs, evPs, evI, evQ, Res.bind, Res.sr, SR.seq, ofO, ofS, force, forces, Sl.get, ixN, bop, uop, RV.new, RV.held, D.sh, D.shs, D.ok, D.eqv, D.eqvs, truthOf, D.truth, G.take, setL, getL, ownL, reown, asgT, G.prim, isInts, G.elems, G.items, itemsR, walkB, retR, outOf, iosOf, noOw, fzAt, plainSl_some, pln_un, pln_fz, G.lock, G.unlock, G.back, wipeE, SR.unl, guard, argsS, argS, apart, slotOf, putBack, G.chk, outR, mutD, rangeOf, setS, optI, G.slc, atI, ixN, h]
theorem at3_1 {α : Type} {x y : α} {r : List α} : atI (x :: y :: r) 1 = some y := by
  have h : (1 : Int) < (r.length : Int) + 1 + 1 := by omega
  simp [evSs, evS, G.ev, evTs, evBs, evCs, evPs, evI, evQ, Res.bind, Res.sr, SR.seq, ofO, ofS, force, forces, Sl.get, ixN, bop, uop, RV.new, RV.held, D.sh, D.shs, D.ok, D.eqv, D.eqvs, truthOf, D.truth, G.take, setL, getL, ownL, reown, asgT, G.prim, isInts, G.elems, G.items, itemsR, walkB, retR, outOf, iosOf, noOw, fzAt, plainSl_some, pln_un, pln_fz, G.lock, G.unlock, G.back, wipeE, SR.unl, guard, argsS, argS, apart, slotOf, putBack, G.chk, outR, mutD, rangeOf, setS, optI, G.slc, atI, ixN, h]
theorem at3_2 {α : Type} {x y z : α} {r : List α} : atI (x :: y :: z :: r) 2 = some z := by
  have h : (2 : Int) < (r.length : Int) + 1 + 1 + 1 := by omega
  simp [evSs, evS, G.ev, evTs, evBs, evCs, evPs, evI, evQ, Res.bind, Res.sr, SR.seq, ofO, ofS, force, forces, Sl.get, ixN, bop, uop, RV.new, RV.held, D.sh, D.shs, D.ok, D.eqv, D.eqvs, truthOf, D.truth, G.take, setL, getL, ownL, reown, asgT, G.prim, isInts, G.elems, G.items, itemsR, walkB, retR, outOf, iosOf, noOw, fzAt, plainSl_some, pln_un, pln_fz, G.lock, G.unlock, G.back, wipeE, SR.unl, guard, argsS, argS, apart, slotOf, putBack, G.chk, outR, mutD, rangeOf, setS, optI, G.slc, atI, ixN, h]
theorem at3_3 {α : Type} {x y z u : α} {r : List α} : atI (x :: y :: z :: u :: r) 3 = some u := by
  have h : (3 : Int) < (r.length : Int) + 1 + 1 + 1 + 1 := by omega
  simp [evSs, evS, G.ev, evTs, evBs, evCs, evPs, evI, evQ, Res.bind, Res.sr, SR.seq, ofO, ofS, force, forces, Sl.get, ixN, bop, uop, RV.new, RV.held, D.sh, D.shs, D.ok, D.eqv, D.eqvs, truthOf, D.truth, G.take, setL, getL, ownL, reown, asgT, G.prim, isInts, G.elems, G.items, itemsR, walkB, retR, outOf, iosOf, noOw, fzAt, plainSl_some, pln_un, pln_fz, G.lock, G.unlock, G.back, wipeE, SR.unl, guard, argsS, argS, apart, slotOf, putBack, G.chk, outR, mutD, rangeOf, setS, optI, G.slc, atI, ixN, h]
section
variable {T : List Fd} {wf k vi : Nat} (hV : T[vi]? = some ⟨3, 2, valueSs⟩)
include hV
theorem value_fn {g : Gt} {bits : List Int} {d : D} {s : Sl} (hs : RdS s d) (hd : BitsD d bits) (hb : Bits bits) (hg : g.ok bits.length) : callN T wf (k + 1) vi [.fz g.d, s] = .rt false (.int (g.val bits)) [] := by
  have key : evSs (callN T wf k) wf valueSs [.fz g.d, s, .un] = .rt false (.int (g.val bits)) [.fz g.d, s, .fz (match g with | .const _ => .str "const" | .not _ => .str "not" | .and _ _ => .str "and" | .or _ _ => .str "or" | .xor _ _ => .str "xor" | .pick _ _ _ => .str "pick")] := by
    cases g with
    | const b => rcases hs with rfl | rfl <;> simp [evSs, evS, G.ev, evTs, evBs, evCs, evPs, evI, evQ, Res.bind, Res.sr, SR.seq, ofO, ofS, force, forces, Sl.get, ixN, bop, uop, RV.new, RV.held, D.sh, D.shs, D.ok, D.eqv, D.eqvs, truthOf, D.truth, G.take, setL, getL, ownL, reown, asgT, G.prim, isInts, G.elems, G.items, itemsR, walkB, retR, outOf, iosOf, noOw, fzAt, plainSl_some, pln_un, pln_fz, G.lock, G.unlock, G.back, wipeE, SR.unl, guard, argsS, argS, apart, slotOf, putBack, G.chk, outR, mutD, rangeOf, setS, optI, G.slc, at3_0, at3_1, at3_2, at3_3, so_const, so_not, so_and, so_or, so_xor, so_pick, idx_tup, q1, q2, q3, q4, q5, q6, q7, q8, q9, q10, q11, q12, q13, q14, q15, -beq_eq_false_iff_ne, -beq_iff_eq, valueSs, Gt.d, Gt.val]
    | not a =>
      have e1 := idx_bits hd hg.1 hg.2
      rcases hs with rfl | rfl <;> simp [evSs, evS, G.ev, evTs, evBs, evCs, evPs, evI, evQ, Res.bind, Res.sr, SR.seq, ofO, ofS, force, forces, Sl.get, ixN, bop, uop, RV.new, RV.held, D.sh, D.shs, D.ok, D.eqv, D.eqvs, truthOf, D.truth, G.take, setL, getL, ownL, reown, asgT, G.prim, isInts, G.elems, G.items, itemsR, walkB, retR, outOf, iosOf, noOw, fzAt, plainSl_some, pln_un, pln_fz, G.lock, G.unlock, G.back, wipeE, SR.unl, guard, argsS, argS, apart, slotOf, putBack, G.chk, outR, mutD, rangeOf, setS, optI, G.slc, at3_0, at3_1, at3_2, at3_3, so_const, so_not, so_and, so_or, so_xor, so_pick, idx_tup, q1, q2, q3, q4, q5, q6, q7, q8, q9, q10, q11, q12, q13, q14, q15, -beq_eq_false_iff_ne, -beq_iff_eq, valueSs, Gt.d, Gt.val, e1]
    | and a b =>
      have e1 := idx_bits hd hg.1.1 hg.1.2
      have e2 := idx_bits hd hg.2.1 hg.2.2
      have e3 := bitAnd_bit (bv_bit hb hg.1.1 hg.1.2) (bv_bit hb hg.2.1 hg.2.2)
      rcases hs with rfl | rfl <;> simp [evSs, evS, G.ev, evTs, evBs, evCs, evPs, evI, evQ, Res.bind, Res.sr, SR.seq, ofO, ofS, force, forces, Sl.get, ixN, bop, uop, RV.new, RV.held, D.sh, D.shs, D.ok, D.eqv, D.eqvs, truthOf, D.truth, G.take, setL, getL, ownL, reown, asgT, G.prim, isInts, G.elems, G.items, itemsR, walkB, retR, outOf, iosOf, noOw, fzAt, plainSl_some, pln_un, pln_fz, G.lock, G.unlock, G.back, wipeE, SR.unl, guard, argsS, argS, apart, slotOf, putBack, G.chk, outR, mutD, rangeOf, setS, optI, G.slc, at3_0, at3_1, at3_2, at3_3, so_const, so_not, so_and, so_or, so_xor, so_pick, idx_tup, q1, q2, q3, q4, q5, q6, q7, q8, q9, q10, q11, q12, q13, q14, q15, -beq_eq_false_iff_ne, -beq_iff_eq, valueSs, Gt.d, Gt.val, e1, e2, e3]
    | or a b =>
      have e1 := idx_bits hd hg.1.1 hg.1.2
      have e2 := idx_bits hd hg.2.1 hg.2.2
      have e3 := bitOr_bit (bv_bit hb hg.1.1 hg.1.2) (bv_bit hb hg.2.1 hg.2.2)
      rcases hs with rfl | rfl <;> simp [evSs, evS, G.ev, evTs, evBs, evCs, evPs, evI, evQ, Res.bind, Res.sr, SR.seq, ofO, ofS, force, forces, Sl.get, ixN, bop, uop, RV.new, RV.held, D.sh, D.shs, D.ok, D.eqv, D.eqvs, truthOf, D.truth, G.take, setL, getL, ownL, reown, asgT, G.prim, isInts, G.elems, G.items, itemsR, walkB, retR, outOf, iosOf, noOw, fzAt, plainSl_some, pln_un, pln_fz, G.lock, G.unlock, G.back, wipeE, SR.unl, guard, argsS, argS, apart, slotOf, putBack, G.chk, outR, mutD, rangeOf, setS, optI, G.slc, at3_0, at3_1, at3_2, at3_3, so_const, so_not, so_and, so_or, so_xor, so_pick, idx_tup, q1, q2, q3, q4, q5, q6, q7, q8, q9, q10, q11, q12, q13, q14, q15, -beq_eq_false_iff_ne, -beq_iff_eq, valueSs, Gt.d, Gt.val, e1, e2, e3]
    | xor a b =>
      have e1 := idx_bits hd hg.1.1 hg.1.2
      have e2 := idx_bits hd hg.2.1 hg.2.2
      have e3 := bitXor_bit (bv_bit hb hg.1.1 hg.1.2) (bv_bit hb hg.2.1 hg.2.2)
      rcases hs with rfl | rfl <;> simp [evSs, evS, G.ev, evTs, evBs, evCs, evPs, evI, evQ, Res.bind, Res.sr, SR.seq, ofO, ofS, force, forces, Sl.get, ixN, bop, uop, RV.new, RV.held, D.sh, D.shs, D.ok, D.eqv, D.eqvs, truthOf, D.truth, G.take, setL, getL, ownL, reown, asgT, G.prim, isInts, G.elems, G.items, itemsR, walkB, retR, outOf, iosOf, noOw, fzAt, plainSl_some, pln_un, pln_fz, G.lock, G.unlock, G.back, wipeE, SR.unl, guard, argsS, argS, apart, slotOf, putBack, G.chk, outR, mutD, rangeOf, setS, optI, G.slc, at3_0, at3_1, at3_2, at3_3, so_const, so_not, so_and, so_or, so_xor, so_pick, idx_tup, q1, q2, q3, q4, q5, q6, q7, q8, q9, q10, q11, q12, q13, q14, q15, -beq_eq_false_iff_ne, -beq_iff_eq, valueSs, Gt.d, Gt.val, e1, e2, e3]
    | pick a b c =>
      have e1 := idx_bits hd hg.1.1 hg.1.2
      have e2 := idx_bits hd hg.2.1.1 hg.2.1.2
      have e3 := idx_bits hd hg.2.2.1 hg.2.2.2
      rcases bv_bit hb hg.1.1 hg.1.2 with e4 | e4 <;> rw [e4] at e1 <;> rcases hs with rfl | rfl <;> simp [evSs, evS, G.ev, evTs, evBs, evCs, evPs, evI, evQ, Res.bind, Res.sr, SR.seq, ofO, ofS, force, forces, Sl.get, ixN, bop, uop, RV.new, RV.held, D.sh, D.shs, D.ok, D.eqv, D.eqvs, truthOf, D.truth, G.take, setL, getL, ownL, reown, asgT, G.prim, isInts, G.elems, G.items, itemsR, walkB, retR, outOf, iosOf, noOw, fzAt, plainSl_some, pln_un, pln_fz, G.lock, G.unlock, G.back, wipeE, SR.unl, guard, argsS, argS, apart, slotOf, putBack, G.chk, outR, mutD, rangeOf, setS, optI, G.slc, at3_0, at3_1, at3_2, at3_3, so_const, so_not, so_and, so_or, so_xor, so_pick, idx_tup, q1, q2, q3, q4, q5, q6, q7, q8, q9, q10, q11, q12, q13, q14, q15, -beq_eq_false_iff_ne, -beq_iff_eq, valueSs, Gt.d, Gt.val, e1, e2, e3, e4]
  have hno : ([.fz g.d, s] : List Sl).all noOw = true := by rcases hs with rfl | rfl <;> rfl
  rw [callN_eq hV hno rfl]
  show outOf [.fz g.d, s] (evSs (callN T wf k) wf valueSs [.fz g.d, s, .un]) = _
  rw [key]
  rcases hs with rfl | rfl <;> rfl
end
/-- all signals, gate by gate -/
def valsF (gs : List Gt) (bits : List Int) : List Int := gs.foldl (fun bits g => bits ++ [g.val bits]) bits
theorem valsF_snoc (gs : List Gt) (g : Gt) (bits : List Int) : valsF (gs ++ [g]) bits = valsF gs bits ++ [g.val (valsF gs bits)] := by simp [evSs, evS, G.ev, evTs, evBs, evCs, evPs, evI, evQ, Res.bind, Res.sr, SR.seq, ofO, ofS, force, forces, Sl.get, ixN, bop, uop, RV.new, RV.held, D.sh, D.shs, D.ok, D.eqv, D.eqvs, truthOf, D.truth, G.take, setL, getL, ownL, reown, asgT, G.prim, isInts, G.elems, G.items, itemsR, walkB, retR, outOf, iosOf, noOw, fzAt, plainSl_some, pln_un, pln_fz, G.lock, G.unlock, G.back, wipeE, SR.unl, guard, argsS, argS, apart, slotOf, putBack, G.chk, outR, mutD, rangeOf, setS, optI, G.slc, at3_0, at3_1, at3_2, at3_3, so_const, so_not, so_and, so_or, so_xor, so_pick, idx_tup, q1, q2, q3, q4, q5, q6, q7, q8, q9, q10, q11, q12, q13, q14, q15, -beq_eq_false_iff_ne, -beq_iff_eq, valsF]
theorem valsF_len : ∀ (gs : List Gt) (bits : List Int), (valsF gs bits).length = bits.length + gs.length
  | [], bits => by simp [evSs, evS, G.ev, evTs, evBs, evCs, evPs, evI, evQ, Res.bind, Res.sr, SR.seq, ofO, ofS, force, forces, Sl.get, ixN, bop, uop, RV.new, RV.held, D.sh, D.shs, D.ok, D.eqv, D.eqvs, truthOf, D.truth, G.take, setL, getL, ownL, reown, asgT, G.prim, isInts, G.elems, G.items, itemsR, walkB, retR, outOf, iosOf, noOw, fzAt, plainSl_some, pln_un, pln_fz, G.lock, G.unlock, G.back, wipeE, SR.unl, guard, argsS, argS, apart, slotOf, putBack, G.chk, outR, mutD, rangeOf, setS, optI, G.slc, at3_0, at3_1, at3_2, at3_3, so_const, so_not, so_and, so_or, so_xor, so_pick, idx_tup, q1, q2, q3, q4, q5, q6, q7, q8, q9, q10, q11, q12, q13, q14, q15, -beq_eq_false_iff_ne, -beq_iff_eq, valsF]
  | g :: gs, bits => by
    have := valsF_len gs (bits ++ [g.val bits])
    simp only [valsF, List.foldl_cons, List.length_append, List.length_cons, List.length_nil] at this ⊢
    omega
theorem take_snoc {α : Type} {l : List α} {i : Nat} {x : α} (h : l[i]? = some x) : l.take (i + 1) = l.take i ++ [x] := by
  rw [List.take_add_one, h]; rfl
theorem valsF_bits {n : Int} {gs : List Gt} {bits : List Int} (hn : n = bits.length) (hb : Bits bits) (hg : GatesOk n gs) : ∀ i, i ≤ gs.length → Bits (valsF (gs.take i) bits)
  | 0, _ => by simpa [evSs, evS, G.ev, evTs, evBs, evCs, evPs, evI, evQ, Res.bind, Res.sr, SR.seq, ofO, ofS, force, forces, Sl.get, ixN, bop, uop, RV.new, RV.held, D.sh, D.shs, D.ok, D.eqv, D.eqvs, truthOf, D.truth, G.take, setL, getL, ownL, reown, asgT, G.prim, isInts, G.elems, G.items, itemsR, walkB, retR, outOf, iosOf, noOw, fzAt, plainSl_some, pln_un, pln_fz, G.lock, G.unlock, G.back, wipeE, SR.unl, guard, argsS, argS, apart, slotOf, putBack, G.chk, outR, mutD, rangeOf, setS, optI, G.slc, at3_0, at3_1, at3_2, at3_3, so_const, so_not, so_and, so_or, so_xor, so_pick, idx_tup, q1, q2, q3, q4, q5, q6, q7, q8, q9, q10, q11, q12, q13, q14, q15, -beq_eq_false_iff_ne, -beq_iff_eq, valsF] using hb
  | i + 1, h => by
    have hi : i < gs.length := h
    have ih := valsF_bits hn hb hg i (Nat.le_of_lt hi)
    rw [take_snoc (List.getElem?_eq_getElem hi), valsF_snoc]
    intro b hb'
    rcases List.mem_append.mp hb' with hb' | hb'
    · exact ih b hb'
    · have : b = gs[i].val (valsF (gs.take i) bits) := by simpa [evSs, evS, G.ev, evTs, evBs, evCs, evPs, evI, evQ, Res.bind, Res.sr, SR.seq, ofO, ofS, force, forces, Sl.get, ixN, bop, uop, RV.new, RV.held, D.sh, D.shs, D.ok, D.eqv, D.eqvs, truthOf, D.truth, G.take, setL, getL, ownL, reown, asgT, G.prim, isInts, G.elems, G.items, itemsR, walkB, retR, outOf, iosOf, noOw, fzAt, plainSl_some, pln_un, pln_fz, G.lock, G.unlock, G.back, wipeE, SR.unl, guard, argsS, argS, apart, slotOf, putBack, G.chk, outR, mutD, rangeOf, setS, optI, G.slc, at3_0, at3_1, at3_2, at3_3, so_const, so_not, so_and, so_or, so_xor, so_pick, idx_tup, q1, q2, q3, q4, q5, q6, q7, q8, q9, q10, q11, q12, q13, q14, q15, -beq_eq_false_iff_ne, -beq_iff_eq] using hb'
      rw [this]
      refine Gt.val_bit ih ?_
      have := hg i gs[i] (List.getElem?_eq_getElem hi)
      rw [valsF_len, List.length_take, Nat.min_eq_left (Nat.le_of_lt hi)]
      rw [hn] at this
      exact_mod_cast this
def valuesB (vi : Nat) : Ss := (.cons (.exp (.mut .append 3 (.cons (.call vi [false, false] (.cons (.var 4) (.cons (.var 3) .nil))) .nil))) .nil)
def valuesSs (vi : Nat) : Ss := (.cons (.asg (.nm 3) (.bin .add (.prim .list (.cons (.var 2) .nil)) (.prim .list (.cons (.var 1) .nil)))) (.cons (.for (.nm 4) (.val (.idx (.var 0) (.con (.int 2)))) (valuesB vi)) (.cons (.ret (.prim .tuple (.cons (.var 3) .nil))) .nil)))
section
variable {T : List Fd} {wf k vi vs : Nat} (hV : T[vi]? = some ⟨3, 2, valueSs⟩) (hS : T[vs]? = some ⟨5, 3, valuesSs vi⟩)
include hV hS
/-- values(circuit, state, letter) -/
theorem values_fn {x0 x1 x3 x4 : D} {gs : List Gt} {st lt : List Int} (hb : Bits (lt ++ st)) (hg : GatesOk ((lt ++ st).length : Nat) gs) (hz : (lt ++ st).length + gs.length ≤ 1000) :
    callN T wf (k + 2) vs [.fz (.tup [x0, x1, .tup (gs.map Gt.d), x3, x4]), .fz (iT st), .fz (iT lt)] = .rt false (iT (valsF gs (lt ++ st))) [] := by
  have hz0 : (lt ++ st).length ≤ sizeLine := sizeLine_big (by omega)
  have hz1 : lt.length + st.length ≤ sizeLine := by simpa [evSs, evS, G.ev, evTs, evBs, evCs, evPs, evI, evQ, Res.bind, Res.sr, SR.seq, ofO, ofS, force, forces, Sl.get, ixN, bop, uop, RV.new, RV.held, D.sh, D.shs, D.ok, D.eqv, D.eqvs, truthOf, D.truth, G.take, setL, getL, ownL, reown, asgT, G.prim, isInts, G.elems, G.items, itemsR, walkB, retR, outOf, iosOf, noOw, fzAt, plainSl_some, pln_un, pln_fz, G.lock, G.unlock, G.back, wipeE, SR.unl, guard, argsS, argS, apart, slotOf, putBack, G.chk, outR, mutD, rangeOf, setS, optI, G.slc, at3_0, at3_1, at3_2, at3_3, so_const, so_not, so_and, so_or, so_xor, so_pick, idx_tup, q1, q2, q3, q4, q5, q6, q7, q8, q9, q10, q11, q12, q13, q14, q15, -beq_eq_false_iff_ne, -beq_iff_eq] using hz0
  generalize hc : D.tup [x0, x1, .tup (gs.map Gt.d), x3, x4] = c
  have hc2 : idx c (.int 2) = some (.tup (gs.map Gt.d)) := by subst hc; simp [evSs, evS, G.ev, evTs, evBs, evCs, evPs, evI, evQ, Res.bind, Res.sr, SR.seq, ofO, ofS, force, forces, Sl.get, ixN, bop, uop, RV.new, RV.held, D.sh, D.shs, D.ok, D.eqv, D.eqvs, truthOf, D.truth, G.take, setL, getL, ownL, reown, asgT, G.prim, isInts, G.elems, G.items, itemsR, walkB, retR, outOf, iosOf, noOw, fzAt, plainSl_some, pln_un, pln_fz, G.lock, G.unlock, G.back, wipeE, SR.unl, guard, argsS, argS, apart, slotOf, putBack, G.chk, outR, mutD, rangeOf, setS, optI, G.slc, at3_0, at3_1, at3_2, at3_3, so_const, so_not, so_and, so_or, so_xor, so_pick, idx_tup, q1, q2, q3, q4, q5, q6, q7, q8, q9, q10, q11, q12, q13, q14, q15, -beq_eq_false_iff_ne, -beq_iff_eq]
  have s3 : evS (callN T wf (k + 1)) wf (.asg (.nm 3) (.bin .add (.prim .list (.cons (.var 2) .nil)) (.prim .list (.cons (.var 1) .nil)))) [.fz c, .fz (iT st), .fz (iT lt), .un, .un] = .nx [.fz c, .fz (iT st), .fz (iT lt), .ow (.lst ((lt ++ st).map .int)), .un] := by
    simp [evSs, evS, G.ev, evTs, evBs, evCs, evPs, evI, evQ, Res.bind, Res.sr, SR.seq, ofO, ofS, force, forces, Sl.get, ixN, bop, uop, RV.new, RV.held, D.sh, D.shs, D.ok, D.eqv, D.eqvs, truthOf, D.truth, G.take, setL, getL, ownL, reown, asgT, G.prim, isInts, G.elems, G.items, itemsR, walkB, retR, outOf, iosOf, noOw, fzAt, plainSl_some, pln_un, pln_fz, G.lock, G.unlock, G.back, wipeE, SR.unl, guard, argsS, argS, apart, slotOf, putBack, G.chk, outR, mutD, rangeOf, setS, optI, G.slc, at3_0, at3_1, at3_2, at3_3, so_const, so_not, so_and, so_or, so_xor, so_pick, idx_tup, q1, q2, q3, q4, q5, q6, q7, q8, q9, q10, q11, q12, q13, q14, q15, -beq_eq_false_iff_ne, -beq_iff_eq, iT, hz1]
  obtain ⟨ρ', ⟨x4', rfl, _⟩, ef⟩ := for_ind (F := callN T wf (k + 1)) (wf := wf) (t := .nm 4) (it := .val (.idx (.var 0) (.con (.int 2)))) (b := valuesB vi)
    (ρ := [.fz c, .fz (iT st), .fz (iT lt), .ow (.lst ((lt ++ st).map .int)), .un]) (ρ1 := [.fz c, .fz (iT st), .fz (iT lt), .ow (.lst ((lt ++ st).map .int)), .un]) (p := (gs.map Gt.d, [.val (.tup (gs.map Gt.d))])) (by simp [evSs, evS, G.ev, evTs, evBs, evCs, evPs, evI, evQ, Res.bind, Res.sr, SR.seq, ofO, ofS, force, forces, Sl.get, ixN, bop, uop, RV.new, RV.held, D.sh, D.shs, D.ok, D.eqv, D.eqvs, truthOf, D.truth, G.take, setL, getL, ownL, reown, asgT, G.prim, isInts, G.elems, G.items, itemsR, walkB, retR, outOf, iosOf, noOw, fzAt, plainSl_some, pln_un, pln_fz, G.lock, G.unlock, G.back, wipeE, SR.unl, guard, argsS, argS, apart, slotOf, putBack, G.chk, outR, mutD, rangeOf, setS, optI, G.slc, at3_0, at3_1, at3_2, at3_3, so_const, so_not, so_and, so_or, so_xor, so_pick, idx_tup, q1, q2, q3, q4, q5, q6, q7, q8, q9, q10, q11, q12, q13, q14, q15, -beq_eq_false_iff_ne, -beq_iff_eq, hc2])
    (fun i ρ => ∃ x : Sl, ρ = [.fz c, .fz (iT st), .fz (iT lt), .ow (.lst ((valsF (gs.take i) (lt ++ st)).map .int)), x] ∧ x.pln = true)
    ⟨.un, by simp [evSs, evS, G.ev, evTs, evBs, evCs, evPs, evI, evQ, Res.bind, Res.sr, SR.seq, ofO, ofS, force, forces, Sl.get, ixN, bop, uop, RV.new, RV.held, D.sh, D.shs, D.ok, D.eqv, D.eqvs, truthOf, D.truth, G.take, setL, getL, ownL, reown, asgT, G.prim, isInts, G.elems, G.items, itemsR, walkB, retR, outOf, iosOf, noOw, fzAt, plainSl_some, pln_un, pln_fz, G.lock, G.unlock, G.back, wipeE, SR.unl, guard, argsS, argS, apart, slotOf, putBack, G.chk, outR, mutD, rangeOf, setS, optI, G.slc, at3_0, at3_1, at3_2, at3_3, so_const, so_not, so_and, so_or, so_xor, so_pick, idx_tup, q1, q2, q3, q4, q5, q6, q7, q8, q9, q10, q11, q12, q13, q14, q15, -beq_eq_false_iff_ne, -beq_iff_eq, valsF], rfl⟩
    (fun i d ρ hd ⟨x, e, px⟩ => by
      rw [List.getElem?_map] at hd
      obtain ⟨g, hgi, rfl⟩ := Option.map_eq_some_iff.mp hd
      subst e
      have hi : i < gs.length := (List.getElem?_eq_some_iff.mp hgi).1
      have hlen : (valsF (gs.take i) (lt ++ st)).length = (lt ++ st).length + i := by rw [valsF_len, List.length_take, Nat.min_eq_left (Nat.le_of_lt hi)]
      have hok : g.ok (valsF (gs.take i) (lt ++ st)).length := by
        have := hg i g hgi
        rw [hlen]
        exact_mod_cast this
      have ev1 := value_fn (wf := wf) (k := k) hV (s := .bw (.lst ((valsF (gs.take i) (lt ++ st)).map .int))) (.inr rfl) (.inr rfl) (valsF_bits rfl hb hg i (Nat.le_of_lt hi)) hok
      have hz2 : (valsF (gs.take i) (lt ++ st)).length < sizeLine := by rw [hlen, sizeLine_eq]; omega
      refine ⟨_, _, setS_nio rfl (Sl.pln_nio px), ?_, .fz g.d, rfl, rfl⟩
      rw [take_snoc hgi, valsF_snoc]
      generalize valsF (gs.take i) (lt ++ st) = bs at ev1 hz2 ⊢
      simp [evSs, evS, G.ev, evTs, evBs, evCs, evPs, evI, evQ, Res.bind, Res.sr, SR.seq, ofO, ofS, force, forces, Sl.get, ixN, bop, uop, RV.new, RV.held, D.sh, D.shs, D.ok, D.eqv, D.eqvs, truthOf, D.truth, G.take, setL, getL, ownL, reown, asgT, G.prim, isInts, G.elems, G.items, itemsR, walkB, retR, outOf, iosOf, noOw, fzAt, plainSl_some, pln_un, pln_fz, G.lock, G.unlock, G.back, wipeE, SR.unl, guard, argsS, argS, apart, slotOf, putBack, G.chk, outR, mutD, rangeOf, setS, optI, G.slc, at3_0, at3_1, at3_2, at3_3, so_const, so_not, so_and, so_or, so_xor, so_pick, idx_tup, q1, q2, q3, q4, q5, q6, q7, q8, q9, q10, q11, q12, q13, q14, q15, -beq_eq_false_iff_ne, -beq_iff_eq, valuesB, ev1, hz2])
  have hall : valsF (gs.take gs.length) (lt ++ st) = valsF gs (lt ++ st) := by rw [List.take_length]
  rw [callN_eq hS rfl rfl]
  show outOf [.fz c, .fz (iT st), .fz (iT lt)] (evSs (callN T wf (k + 1)) wf (valuesSs vi) [.fz c, .fz (iT st), .fz (iT lt), .un, .un]) = _
  unfold valuesSs
  rw [ss_step s3, ss_step ef]
  simp only [List.length_map, hall]
  simp [evSs, evS, G.ev, evTs, evBs, evCs, evPs, evI, evQ, Res.bind, Res.sr, SR.seq, ofO, ofS, force, forces, Sl.get, ixN, bop, uop, RV.new, RV.held, D.sh, D.shs, D.ok, D.eqv, D.eqvs, truthOf, D.truth, G.take, setL, getL, ownL, reown, asgT, G.prim, isInts, G.elems, G.items, itemsR, walkB, retR, outOf, iosOf, noOw, fzAt, plainSl_some, pln_un, pln_fz, G.lock, G.unlock, G.back, wipeE, SR.unl, guard, argsS, argS, apart, slotOf, putBack, G.chk, outR, mutD, rangeOf, setS, optI, G.slc, at3_0, at3_1, at3_2, at3_3, so_const, so_not, so_and, so_or, so_xor, so_pick, idx_tup, q1, q2, q3, q4, q5, q6, q7, q8, q9, q10, q11, q12, q13, q14, q15, -beq_eq_false_iff_ne, -beq_iff_eq, iT]
end
end G
end

section
set_option Elab.async false
set_option linter.all false
set_option maxRecDepth 100000
set_option maxHeartbeats 4000000
/-! P6: the law's own values of signals. -/
namespace G
open PySem PySem.Spec PyProof.Rows L2
theorem idx_lst {x : List D} {i : Int} : idx (.lst x) (.int i) = atI x i := rfl
theorem cut1_1 {x y : D} : cutD [x, y] (some 1) none = [y] := rfl
theorem cut1_2 {x y z : D} : cutD [x, y, z] (some 1) none = [y, z] := rfl
theorem cut1_3 {x y z u : D} : cutD [x, y, z, u] (some 1) none = [y, z, u] := rfl
def lvB : Ss := (.cons (.asg (.nm 5) (.idx (.var 4) (.con (.int 0)))) (.cons (.ite (.bin .eq (.var 5) (.con (.str "const"))) (.cons (.exp (.mut .append 3 (.cons (.idx (.var 4) (.con (.int 1))) .nil))) .nil) (.cons (.asg (.nm 6) (.comp [7] (.nm 7) (.val (.sli true false (.var 4) (.con (.int 1)) (.con .non))) (.con (.bl true)) (.yld (.idx (.var 3) (.var 7))))) (.cons (.ite (.bin .eq (.var 5) (.con (.str "not"))) (.cons (.exp (.mut .append 3 (.cons (.bin .sub (.con (.int 1)) (.idx (.var 6) (.con (.int 0)))) .nil))) .nil) (.cons (.ite (.bin .eq (.var 5) (.con (.str "and"))) (.cons (.exp (.mut .append 3 (.cons (.bin .mul (.idx (.var 6) (.con (.int 0))) (.idx (.var 6) (.con (.int 1)))) .nil))) .nil) (.cons (.ite (.bin .eq (.var 5) (.con (.str "or"))) (.cons (.exp (.mut .append 3 (.cons (.prim .max1 (.cons (.var 6) .nil)) .nil))) .nil) (.cons (.ite (.bin .eq (.var 5) (.con (.str "xor"))) (.cons (.exp (.mut .append 3 (.cons (.bin .mod (.bin .add (.idx (.var 6) (.con (.int 0))) (.idx (.var 6) (.con (.int 1)))) (.con (.int 2))) .nil))) .nil) (.cons (.exp (.mut .append 3 (.cons (.ite (.bin .eq (.idx (.var 6) (.con (.int 0))) (.con (.int 1))) (.idx (.var 6) (.con (.int 1))) (.idx (.var 6) (.con (.int 2)))) .nil))) .nil)) .nil)) .nil)) .nil)) .nil))) .nil))
def lvSs : Ss := (.cons (.asg (.nm 3) (.bin .add (.prim .list (.cons (.var 2) .nil)) (.prim .list (.cons (.var 1) .nil)))) (.cons (.for (.nm 4) (.val (.idx (.var 0) (.con (.int 2)))) lvB) (.cons (.ret (.var 3)) .nil)))
theorem lv_body {F : Fn} {wf : Nat} {g : Gt} {bits : List Int} {a0 a1 a2 x5 x6 x7 : Sl} (n5 : x5.nio = true) (n6 : x6.nio = true) (p7 : x7.pln = true) (hb : Bits bits) (hg : g.ok bits.length) (hz : bits.length < 1000) :
    ∃ y5 y6 : Sl, y5.nio = true ∧ y6.nio = true ∧ evSs F wf lvB [a0, a1, a2, .ow (.lst (bits.map .int)), .fz g.d, x5, x6, x7] = .nx [a0, a1, a2, .ow (.lst ((bits ++ [g.val bits]).map .int)), .fz g.d, y5, y6, x7] := by
  have hz2 : bits.length < sizeLine := by rw [sizeLine_eq]; omega
  have l1 : 1 ≤ sizeLine := sizeLine_big (by decide)
  have l2 : 2 ≤ sizeLine := sizeLine_big (by decide)
  have l3 : 3 ≤ sizeLine := sizeLine_big (by decide)
  have i0 : inInt 0 = true := by decide
  have i1 : inInt 1 = true := by decide
  have hd : BitsD (.lst (bits.map .int)) bits := .inr rfl
  have s5 : ∀ w, setS [a0, a1, a2, .ow (.lst (bits.map .int)), .fz g.d, x5, x6, x7] 5 (.fz w) = some [a0, a1, a2, .ow (.lst (bits.map .int)), .fz g.d, .fz w, x6, x7] := fun w => setS_nio rfl n5
  have s6 : ∀ w v, setS [a0, a1, a2, .ow (.lst (bits.map .int)), .fz g.d, .fz w, x6, x7] 6 v = some [a0, a1, a2, .ow (.lst (bits.map .int)), .fz g.d, .fz w, v, x7] := fun w v => setS_nio rfl n6
  have s7 : ∀ w v, setS [a0, a1, a2, .ow (.lst (bits.map .int)), .fz g.d, .fz w, x6, .un] 7 v = some [a0, a1, a2, .ow (.lst (bits.map .int)), .fz g.d, .fz w, x6, v] := fun w v => rfl
  generalize hbd : D.lst (bits.map .int) = bd at hd s5 s6 s7
  have own : ownL (some (.ow bd)) = some (bits.map .int) := by subst hbd; rfl
  have mtb : (Sl.ow bd).get = some bd := rfl
  have fin : ∀ z : Int, D.lst (bits.map D.int ++ [D.int z]) = .lst ((bits ++ [z]).map .int) := fun z => by simp [evSs, evS, G.ev, evTs, evBs, evCs, evPs, evI, evQ, Res.bind, Res.sr, SR.seq, ofO, ofS, force, forces, Sl.get, ixN, bop, uop, RV.new, RV.held, D.sh, D.shs, D.ok, D.eqv, D.eqvs, truthOf, D.truth, G.take, setL, getL, ownL, reown, asgT, G.prim, isInts, G.elems, G.items, itemsR, walkB, retR, outOf, iosOf, noOw, fzAt, plainSl_some, pln_un, pln_fz, G.lock, G.unlock, G.back, wipeE, SR.unl, guard, argsS, argS, apart, slotOf, putBack, G.chk, outR, mutD, rangeOf, optI, G.slc, at3_0, at3_1, at3_2, at3_3, so_const, so_not, so_and, so_or, so_xor, so_pick, idx_tup, q1, q2, q3, q4, q5, q6, q7, q8, q9, q10, q11, q12, q13, q14, q15, loopC, idx_lst, cut1_1, cut1_2, cut1_3, -beq_eq_false_iff_ne, -beq_iff_eq]
  cases g with
  | const b =>
    refine ⟨.fz (.str "const"), x6, rfl, n6, ?_⟩
    subst hbd
    simp [evSs, evS, G.ev, evTs, evBs, evCs, evPs, evI, evQ, Res.bind, Res.sr, SR.seq, ofO, ofS, force, forces, Sl.get, ixN, bop, uop, RV.new, RV.held, D.sh, D.shs, D.ok, D.eqv, D.eqvs, truthOf, D.truth, G.take, setL, getL, ownL, reown, asgT, G.prim, isInts, G.elems, G.items, itemsR, walkB, retR, outOf, iosOf, noOw, fzAt, plainSl_some, pln_un, pln_fz, G.lock, G.unlock, G.back, wipeE, SR.unl, guard, argsS, argS, apart, slotOf, putBack, G.chk, outR, mutD, rangeOf, optI, G.slc, at3_0, at3_1, at3_2, at3_3, so_const, so_not, so_and, so_or, so_xor, so_pick, idx_tup, q1, q2, q3, q4, q5, q6, q7, q8, q9, q10, q11, q12, q13, q14, q15, loopC, idx_lst, cut1_1, cut1_2, cut1_3, -beq_eq_false_iff_ne, -beq_iff_eq, lvB, Gt.d, Gt.val, hz2] at s5 ⊢
    simp [evSs, evS, G.ev, evTs, evBs, evCs, evPs, evI, evQ, Res.bind, Res.sr, SR.seq, ofO, ofS, force, forces, Sl.get, ixN, bop, uop, RV.new, RV.held, D.sh, D.shs, D.ok, D.eqv, D.eqvs, truthOf, D.truth, G.take, setL, getL, ownL, reown, asgT, G.prim, isInts, G.elems, G.items, itemsR, walkB, retR, outOf, iosOf, noOw, fzAt, plainSl_some, pln_un, pln_fz, G.lock, G.unlock, G.back, wipeE, SR.unl, guard, argsS, argS, apart, slotOf, putBack, G.chk, outR, mutD, rangeOf, optI, G.slc, at3_0, at3_1, at3_2, at3_3, so_const, so_not, so_and, so_or, so_xor, so_pick, idx_tup, q1, q2, q3, q4, q5, q6, q7, q8, q9, q10, q11, q12, q13, q14, q15, loopC, idx_lst, cut1_1, cut1_2, cut1_3, -beq_eq_false_iff_ne, -beq_iff_eq, s5, hz2]
  | not a =>
    have e1 := idx_bits hd hg.1 hg.2
    have b1 := bv_bit hb hg.1 hg.2
    refine ⟨.fz (.str "not"), .ow (.lst [.int (bv bits a)]), rfl, rfl, ?_⟩
    rcases b1 with h | h <;> rw [h] at e1 <;> simp [evSs, evS, G.ev, evTs, evBs, evCs, evPs, evI, evQ, Res.bind, Res.sr, SR.seq, ofO, ofS, force, forces, Sl.get, ixN, bop, uop, RV.new, RV.held, D.sh, D.shs, D.ok, D.eqv, D.eqvs, truthOf, D.truth, G.take, setL, getL, ownL, reown, asgT, G.prim, isInts, G.elems, G.items, itemsR, walkB, retR, outOf, iosOf, noOw, fzAt, plainSl_some, pln_un, pln_fz, G.lock, G.unlock, G.back, wipeE, SR.unl, guard, argsS, argS, apart, slotOf, putBack, G.chk, outR, mutD, rangeOf, optI, G.slc, at3_0, at3_1, at3_2, at3_3, so_const, so_not, so_and, so_or, so_xor, so_pick, idx_tup, q1, q2, q3, q4, q5, q6, q7, q8, q9, q10, q11, q12, q13, q14, q15, loopC, idx_lst, cut1_1, cut1_2, cut1_3, -beq_eq_false_iff_ne, -beq_iff_eq, lvB, Gt.d, Gt.val] at s5 s6 s7 own ⊢ <;> simp [evSs, evS, G.ev, evTs, evBs, evCs, evPs, evI, evQ, Res.bind, Res.sr, SR.seq, ofO, ofS, force, forces, Sl.get, ixN, bop, uop, RV.new, RV.held, D.sh, D.shs, D.ok, D.eqv, D.eqvs, truthOf, D.truth, G.take, setL, getL, ownL, reown, asgT, G.prim, isInts, G.elems, G.items, itemsR, walkB, retR, outOf, iosOf, noOw, fzAt, plainSl_some, pln_un, pln_fz, G.lock, G.unlock, G.back, wipeE, SR.unl, guard, argsS, argS, apart, slotOf, putBack, G.chk, outR, mutD, rangeOf, optI, G.slc, at3_0, at3_1, at3_2, at3_3, so_const, so_not, so_and, so_or, so_xor, so_pick, idx_tup, q1, q2, q3, q4, q5, q6, q7, q8, q9, q10, q11, q12, q13, q14, q15, loopC, idx_lst, cut1_1, cut1_2, cut1_3, -beq_eq_false_iff_ne, -beq_iff_eq, s5, s6, s7, e1, h, own, hz2, l1, p7]
  | and a b =>
    have e1 := idx_bits hd hg.1.1 hg.1.2
    have e2 := idx_bits hd hg.2.1 hg.2.2
    refine ⟨.fz (.str "and"), .ow (.lst [.int (bv bits a), .int (bv bits b)]), rfl, rfl, ?_⟩
    rcases bv_bit hb hg.1.1 hg.1.2 with h | h <;> rcases bv_bit hb hg.2.1 hg.2.2 with h' | h' <;> rw [h] at e1 <;> rw [h'] at e2 <;> simp [evSs, evS, G.ev, evTs, evBs, evCs, evPs, evI, evQ, Res.bind, Res.sr, SR.seq, ofO, ofS, force, forces, Sl.get, ixN, bop, uop, RV.new, RV.held, D.sh, D.shs, D.ok, D.eqv, D.eqvs, truthOf, D.truth, G.take, setL, getL, ownL, reown, asgT, G.prim, isInts, G.elems, G.items, itemsR, walkB, retR, outOf, iosOf, noOw, fzAt, plainSl_some, pln_un, pln_fz, G.lock, G.unlock, G.back, wipeE, SR.unl, guard, argsS, argS, apart, slotOf, putBack, G.chk, outR, mutD, rangeOf, optI, G.slc, at3_0, at3_1, at3_2, at3_3, so_const, so_not, so_and, so_or, so_xor, so_pick, idx_tup, q1, q2, q3, q4, q5, q6, q7, q8, q9, q10, q11, q12, q13, q14, q15, loopC, idx_lst, cut1_1, cut1_2, cut1_3, -beq_eq_false_iff_ne, -beq_iff_eq, lvB, Gt.d, Gt.val] at s5 s6 s7 own ⊢ <;> simp [evSs, evS, G.ev, evTs, evBs, evCs, evPs, evI, evQ, Res.bind, Res.sr, SR.seq, ofO, ofS, force, forces, Sl.get, ixN, bop, uop, RV.new, RV.held, D.sh, D.shs, D.ok, D.eqv, D.eqvs, truthOf, D.truth, G.take, setL, getL, ownL, reown, asgT, G.prim, isInts, G.elems, G.items, itemsR, walkB, retR, outOf, iosOf, noOw, fzAt, plainSl_some, pln_un, pln_fz, G.lock, G.unlock, G.back, wipeE, SR.unl, guard, argsS, argS, apart, slotOf, putBack, G.chk, outR, mutD, rangeOf, optI, G.slc, at3_0, at3_1, at3_2, at3_3, so_const, so_not, so_and, so_or, so_xor, so_pick, idx_tup, q1, q2, q3, q4, q5, q6, q7, q8, q9, q10, q11, q12, q13, q14, q15, loopC, idx_lst, cut1_1, cut1_2, cut1_3, -beq_eq_false_iff_ne, -beq_iff_eq, s5, s6, s7, e1, e2, h, h', own, hz2, l2, p7, maxI, i0, i1]
  | or a b =>
    have e1 := idx_bits hd hg.1.1 hg.1.2
    have e2 := idx_bits hd hg.2.1 hg.2.2
    refine ⟨.fz (.str "or"), .ow (.lst [.int (bv bits a), .int (bv bits b)]), rfl, rfl, ?_⟩
    rcases bv_bit hb hg.1.1 hg.1.2 with h | h <;> rcases bv_bit hb hg.2.1 hg.2.2 with h' | h' <;> rw [h] at e1 <;> rw [h'] at e2 <;> simp [evSs, evS, G.ev, evTs, evBs, evCs, evPs, evI, evQ, Res.bind, Res.sr, SR.seq, ofO, ofS, force, forces, Sl.get, ixN, bop, uop, RV.new, RV.held, D.sh, D.shs, D.ok, D.eqv, D.eqvs, truthOf, D.truth, G.take, setL, getL, ownL, reown, asgT, G.prim, isInts, G.elems, G.items, itemsR, walkB, retR, outOf, iosOf, noOw, fzAt, plainSl_some, pln_un, pln_fz, G.lock, G.unlock, G.back, wipeE, SR.unl, guard, argsS, argS, apart, slotOf, putBack, G.chk, outR, mutD, rangeOf, optI, G.slc, at3_0, at3_1, at3_2, at3_3, so_const, so_not, so_and, so_or, so_xor, so_pick, idx_tup, q1, q2, q3, q4, q5, q6, q7, q8, q9, q10, q11, q12, q13, q14, q15, loopC, idx_lst, cut1_1, cut1_2, cut1_3, -beq_eq_false_iff_ne, -beq_iff_eq, lvB, Gt.d, Gt.val] at s5 s6 s7 own ⊢ <;> simp [evSs, evS, G.ev, evTs, evBs, evCs, evPs, evI, evQ, Res.bind, Res.sr, SR.seq, ofO, ofS, force, forces, Sl.get, ixN, bop, uop, RV.new, RV.held, D.sh, D.shs, D.ok, D.eqv, D.eqvs, truthOf, D.truth, G.take, setL, getL, ownL, reown, asgT, G.prim, isInts, G.elems, G.items, itemsR, walkB, retR, outOf, iosOf, noOw, fzAt, plainSl_some, pln_un, pln_fz, G.lock, G.unlock, G.back, wipeE, SR.unl, guard, argsS, argS, apart, slotOf, putBack, G.chk, outR, mutD, rangeOf, optI, G.slc, at3_0, at3_1, at3_2, at3_3, so_const, so_not, so_and, so_or, so_xor, so_pick, idx_tup, q1, q2, q3, q4, q5, q6, q7, q8, q9, q10, q11, q12, q13, q14, q15, loopC, idx_lst, cut1_1, cut1_2, cut1_3, -beq_eq_false_iff_ne, -beq_iff_eq, s5, s6, s7, e1, e2, h, h', own, hz2, l2, p7, maxI, i0, i1]
  | xor a b =>
    have e1 := idx_bits hd hg.1.1 hg.1.2
    have e2 := idx_bits hd hg.2.1 hg.2.2
    refine ⟨.fz (.str "xor"), .ow (.lst [.int (bv bits a), .int (bv bits b)]), rfl, rfl, ?_⟩
    rcases bv_bit hb hg.1.1 hg.1.2 with h | h <;> rcases bv_bit hb hg.2.1 hg.2.2 with h' | h' <;> rw [h] at e1 <;> rw [h'] at e2 <;> simp [evSs, evS, G.ev, evTs, evBs, evCs, evPs, evI, evQ, Res.bind, Res.sr, SR.seq, ofO, ofS, force, forces, Sl.get, ixN, bop, uop, RV.new, RV.held, D.sh, D.shs, D.ok, D.eqv, D.eqvs, truthOf, D.truth, G.take, setL, getL, ownL, reown, asgT, G.prim, isInts, G.elems, G.items, itemsR, walkB, retR, outOf, iosOf, noOw, fzAt, plainSl_some, pln_un, pln_fz, G.lock, G.unlock, G.back, wipeE, SR.unl, guard, argsS, argS, apart, slotOf, putBack, G.chk, outR, mutD, rangeOf, optI, G.slc, at3_0, at3_1, at3_2, at3_3, so_const, so_not, so_and, so_or, so_xor, so_pick, idx_tup, q1, q2, q3, q4, q5, q6, q7, q8, q9, q10, q11, q12, q13, q14, q15, loopC, idx_lst, cut1_1, cut1_2, cut1_3, -beq_eq_false_iff_ne, -beq_iff_eq, lvB, Gt.d, Gt.val] at s5 s6 s7 own ⊢ <;> simp [evSs, evS, G.ev, evTs, evBs, evCs, evPs, evI, evQ, Res.bind, Res.sr, SR.seq, ofO, ofS, force, forces, Sl.get, ixN, bop, uop, RV.new, RV.held, D.sh, D.shs, D.ok, D.eqv, D.eqvs, truthOf, D.truth, G.take, setL, getL, ownL, reown, asgT, G.prim, isInts, G.elems, G.items, itemsR, walkB, retR, outOf, iosOf, noOw, fzAt, plainSl_some, pln_un, pln_fz, G.lock, G.unlock, G.back, wipeE, SR.unl, guard, argsS, argS, apart, slotOf, putBack, G.chk, outR, mutD, rangeOf, optI, G.slc, at3_0, at3_1, at3_2, at3_3, so_const, so_not, so_and, so_or, so_xor, so_pick, idx_tup, q1, q2, q3, q4, q5, q6, q7, q8, q9, q10, q11, q12, q13, q14, q15, loopC, idx_lst, cut1_1, cut1_2, cut1_3, -beq_eq_false_iff_ne, -beq_iff_eq, s5, s6, s7, e1, e2, h, h', own, hz2, l2, p7, maxI, i0, i1]
  | pick a b c =>
    have e1 := idx_bits hd hg.1.1 hg.1.2
    have e2 := idx_bits hd hg.2.1.1 hg.2.1.2
    have e3 := idx_bits hd hg.2.2.1 hg.2.2.2
    refine ⟨.fz (.str "pick"), .ow (.lst [.int (bv bits a), .int (bv bits b), .int (bv bits c)]), rfl, rfl, ?_⟩
    rcases bv_bit hb hg.1.1 hg.1.2 with h | h <;> rw [h] at e1 <;> simp [evSs, evS, G.ev, evTs, evBs, evCs, evPs, evI, evQ, Res.bind, Res.sr, SR.seq, ofO, ofS, force, forces, Sl.get, ixN, bop, uop, RV.new, RV.held, D.sh, D.shs, D.ok, D.eqv, D.eqvs, truthOf, D.truth, G.take, setL, getL, ownL, reown, asgT, G.prim, isInts, G.elems, G.items, itemsR, walkB, retR, outOf, iosOf, noOw, fzAt, plainSl_some, pln_un, pln_fz, G.lock, G.unlock, G.back, wipeE, SR.unl, guard, argsS, argS, apart, slotOf, putBack, G.chk, outR, mutD, rangeOf, optI, G.slc, at3_0, at3_1, at3_2, at3_3, so_const, so_not, so_and, so_or, so_xor, so_pick, idx_tup, q1, q2, q3, q4, q5, q6, q7, q8, q9, q10, q11, q12, q13, q14, q15, loopC, idx_lst, cut1_1, cut1_2, cut1_3, -beq_eq_false_iff_ne, -beq_iff_eq, lvB, Gt.d, Gt.val] at s5 s6 s7 own ⊢ <;> simp [evSs, evS, G.ev, evTs, evBs, evCs, evPs, evI, evQ, Res.bind, Res.sr, SR.seq, ofO, ofS, force, forces, Sl.get, ixN, bop, uop, RV.new, RV.held, D.sh, D.shs, D.ok, D.eqv, D.eqvs, truthOf, D.truth, G.take, setL, getL, ownL, reown, asgT, G.prim, isInts, G.elems, G.items, itemsR, walkB, retR, outOf, iosOf, noOw, fzAt, plainSl_some, pln_un, pln_fz, G.lock, G.unlock, G.back, wipeE, SR.unl, guard, argsS, argS, apart, slotOf, putBack, G.chk, outR, mutD, rangeOf, optI, G.slc, at3_0, at3_1, at3_2, at3_3, so_const, so_not, so_and, so_or, so_xor, so_pick, idx_tup, q1, q2, q3, q4, q5, q6, q7, q8, q9, q10, q11, q12, q13, q14, q15, loopC, idx_lst, cut1_1, cut1_2, cut1_3, -beq_eq_false_iff_ne, -beq_iff_eq, s5, s6, s7, e1, e2, e3, h, own, hz2, l3, p7]

section
variable {T : List Fd} {wf k vs : Nat} (hS : T[vs]? = some ⟨8, 3, lvSs⟩)
include hS
/-- _law_values(circuit, state, letter): s the letter -/
theorem lv_fn {x0 x1 x3 x4 : D} {gs : List Gt} {st lt : List Int} {s : Sl} {ld : D} (hs : RdS s ld) (hl : BitsD ld lt) (hb : Bits (lt ++ st)) (hg : GatesOk ((lt ++ st).length : Nat) gs) (hz : (lt ++ st).length + gs.length < 1000) :
    callN T wf (k + 1) vs [.fz (.tup [x0, x1, .tup (gs.map Gt.d), x3, x4]), .fz (iT st), s] = .rt true (.lst ((valsF gs (lt ++ st)).map .int)) [] := by
  have hz0 : (lt ++ st).length ≤ sizeLine := sizeLine_big (by omega)
  have hz1 : lt.length + st.length ≤ sizeLine := by simpa [evSs, evS, G.ev, evTs, evBs, evCs, evPs, evI, evQ, Res.bind, Res.sr, SR.seq, ofO, ofS, force, forces, Sl.get, ixN, bop, uop, RV.new, RV.held, D.sh, D.shs, D.ok, D.eqv, D.eqvs, truthOf, D.truth, G.take, setL, getL, ownL, reown, asgT, G.prim, isInts, G.elems, G.items, itemsR, walkB, retR, outOf, iosOf, noOw, fzAt, plainSl_some, pln_un, pln_fz, G.lock, G.unlock, G.back, wipeE, SR.unl, guard, argsS, argS, apart, slotOf, putBack, G.chk, outR, mutD, rangeOf, optI, G.slc, at3_0, at3_1, at3_2, at3_3, so_const, so_not, so_and, so_or, so_xor, so_pick, idx_tup, q1, q2, q3, q4, q5, q6, q7, q8, q9, q10, q11, q12, q13, q14, q15, loopC, idx_lst, cut1_1, cut1_2, cut1_3, -beq_eq_false_iff_ne, -beq_iff_eq] using hz0
  generalize hc : D.tup [x0, x1, .tup (gs.map Gt.d), x3, x4] = c
  have hc2 : idx c (.int 2) = some (.tup (gs.map Gt.d)) := by subst hc; simp [evSs, evS, G.ev, evTs, evBs, evCs, evPs, evI, evQ, Res.bind, Res.sr, SR.seq, ofO, ofS, force, forces, Sl.get, ixN, bop, uop, RV.new, RV.held, D.sh, D.shs, D.ok, D.eqv, D.eqvs, truthOf, D.truth, G.take, setL, getL, ownL, reown, asgT, G.prim, isInts, G.elems, G.items, itemsR, walkB, retR, outOf, iosOf, noOw, fzAt, plainSl_some, pln_un, pln_fz, G.lock, G.unlock, G.back, wipeE, SR.unl, guard, argsS, argS, apart, slotOf, putBack, G.chk, outR, mutD, rangeOf, optI, G.slc, at3_0, at3_1, at3_2, at3_3, so_const, so_not, so_and, so_or, so_xor, so_pick, idx_tup, q1, q2, q3, q4, q5, q6, q7, q8, q9, q10, q11, q12, q13, q14, q15, loopC, idx_lst, cut1_1, cut1_2, cut1_3, -beq_eq_false_iff_ne, -beq_iff_eq]
  have s3 : evS (callN T wf k) wf (.asg (.nm 3) (.bin .add (.prim .list (.cons (.var 2) .nil)) (.prim .list (.cons (.var 1) .nil)))) [.fz c, .fz (iT st), s, .un, .un, .un, .un, .un] = .nx [.fz c, .fz (iT st), s, .ow (.lst ((lt ++ st).map .int)), .un, .un, .un, .un] := by
    rcases hs with rfl | rfl <;> rcases hl with rfl | rfl <;> simp [evSs, evS, G.ev, evTs, evBs, evCs, evPs, evI, evQ, Res.bind, Res.sr, SR.seq, ofO, ofS, force, forces, Sl.get, ixN, bop, uop, RV.new, RV.held, D.sh, D.shs, D.ok, D.eqv, D.eqvs, truthOf, D.truth, G.take, setL, getL, ownL, reown, asgT, G.prim, isInts, G.elems, G.items, itemsR, walkB, retR, outOf, iosOf, noOw, fzAt, plainSl_some, pln_un, pln_fz, G.lock, G.unlock, G.back, wipeE, SR.unl, guard, argsS, argS, apart, slotOf, putBack, G.chk, outR, mutD, rangeOf, optI, G.slc, at3_0, at3_1, at3_2, at3_3, so_const, so_not, so_and, so_or, so_xor, so_pick, idx_tup, q1, q2, q3, q4, q5, q6, q7, q8, q9, q10, q11, q12, q13, q14, q15, loopC, idx_lst, cut1_1, cut1_2, cut1_3, -beq_eq_false_iff_ne, -beq_iff_eq, iT, hz1, setS]
  obtain ⟨ρ', ⟨x4', x5, x6, rfl, _, _, _⟩, ef⟩ := for_ind (F := callN T wf k) (wf := wf) (t := .nm 4) (it := .val (.idx (.var 0) (.con (.int 2)))) (b := lvB)
    (ρ := [.fz c, .fz (iT st), s, .ow (.lst ((lt ++ st).map .int)), .un, .un, .un, .un]) (ρ1 := [.fz c, .fz (iT st), s, .ow (.lst ((lt ++ st).map .int)), .un, .un, .un, .un]) (p := (gs.map Gt.d, [.val (.tup (gs.map Gt.d))])) (by simp [evSs, evS, G.ev, evTs, evBs, evCs, evPs, evI, evQ, Res.bind, Res.sr, SR.seq, ofO, ofS, force, forces, Sl.get, ixN, bop, uop, RV.new, RV.held, D.sh, D.shs, D.ok, D.eqv, D.eqvs, truthOf, D.truth, G.take, setL, getL, ownL, reown, asgT, G.prim, isInts, G.elems, G.items, itemsR, walkB, retR, outOf, iosOf, noOw, fzAt, plainSl_some, pln_un, pln_fz, G.lock, G.unlock, G.back, wipeE, SR.unl, guard, argsS, argS, apart, slotOf, putBack, G.chk, outR, mutD, rangeOf, optI, G.slc, at3_0, at3_1, at3_2, at3_3, so_const, so_not, so_and, so_or, so_xor, so_pick, idx_tup, q1, q2, q3, q4, q5, q6, q7, q8, q9, q10, q11, q12, q13, q14, q15, loopC, idx_lst, cut1_1, cut1_2, cut1_3, -beq_eq_false_iff_ne, -beq_iff_eq, hc2])
    (fun i ρ => ∃ x x5 x6 : Sl, ρ = [.fz c, .fz (iT st), s, .ow (.lst ((valsF (gs.take i) (lt ++ st)).map .int)), x, x5, x6, .un] ∧ x.nio = true ∧ x5.nio = true ∧ x6.nio = true)
    ⟨.un, .un, .un, by simp [evSs, evS, G.ev, evTs, evBs, evCs, evPs, evI, evQ, Res.bind, Res.sr, SR.seq, ofO, ofS, force, forces, Sl.get, ixN, bop, uop, RV.new, RV.held, D.sh, D.shs, D.ok, D.eqv, D.eqvs, truthOf, D.truth, G.take, setL, getL, ownL, reown, asgT, G.prim, isInts, G.elems, G.items, itemsR, walkB, retR, outOf, iosOf, noOw, fzAt, plainSl_some, pln_un, pln_fz, G.lock, G.unlock, G.back, wipeE, SR.unl, guard, argsS, argS, apart, slotOf, putBack, G.chk, outR, mutD, rangeOf, optI, G.slc, at3_0, at3_1, at3_2, at3_3, so_const, so_not, so_and, so_or, so_xor, so_pick, idx_tup, q1, q2, q3, q4, q5, q6, q7, q8, q9, q10, q11, q12, q13, q14, q15, loopC, idx_lst, cut1_1, cut1_2, cut1_3, -beq_eq_false_iff_ne, -beq_iff_eq, valsF], rfl, rfl, rfl⟩
    (fun i d ρ hd ⟨x, x5, x6, e, px, p5, p6⟩ => by
      rw [List.getElem?_map] at hd
      obtain ⟨g, hgi, rfl⟩ := Option.map_eq_some_iff.mp hd
      subst e
      have hi : i < gs.length := (List.getElem?_eq_some_iff.mp hgi).1
      have hlen : (valsF (gs.take i) (lt ++ st)).length = (lt ++ st).length + i := by rw [valsF_len, List.length_take, Nat.min_eq_left (Nat.le_of_lt hi)]
      have hok : g.ok (valsF (gs.take i) (lt ++ st)).length := by
        have := hg i g hgi
        rw [hlen]
        exact_mod_cast this
      obtain ⟨y5, y6, q5, q6, eb⟩ := lv_body (F := callN T wf k) (wf := wf) (a0 := .fz c) (a1 := .fz (iT st)) (a2 := s) p5 p6 (x7 := .un) rfl (valsF_bits rfl hb hg i (Nat.le_of_lt hi)) hok (by rw [hlen]; omega)
      refine ⟨_, _, setS_nio rfl px, eb, .fz g.d, y5, y6, ?_, rfl, q5, q6⟩
      rw [take_snoc hgi, valsF_snoc])
  have hall : valsF (gs.take gs.length) (lt ++ st) = valsF gs (lt ++ st) := by rw [List.take_length]
  have hno : ([.fz c, .fz (iT st), s] : List Sl).all noOw = true := by rcases hs with rfl | rfl <;> rfl
  rw [callN_eq hS hno rfl]
  show outOf [.fz c, .fz (iT st), s] (evSs (callN T wf k) wf lvSs [.fz c, .fz (iT st), s, .un, .un, .un, .un, .un]) = _
  unfold lvSs
  rw [ss_step s3, ss_step ef]
  simp only [List.length_map, hall]
  rcases hs with rfl | rfl <;> simp [evSs, evS, G.ev, evTs, evBs, evCs, evPs, evI, evQ, Res.bind, Res.sr, SR.seq, ofO, ofS, force, forces, Sl.get, ixN, bop, uop, RV.new, RV.held, D.sh, D.shs, D.ok, D.eqv, D.eqvs, truthOf, D.truth, G.take, setL, getL, ownL, reown, asgT, G.prim, isInts, G.elems, G.items, itemsR, walkB, retR, outOf, iosOf, noOw, fzAt, plainSl_some, pln_un, pln_fz, G.lock, G.unlock, G.back, wipeE, SR.unl, guard, argsS, argS, apart, slotOf, putBack, G.chk, outR, mutD, rangeOf, optI, G.slc, at3_0, at3_1, at3_2, at3_3, so_const, so_not, so_and, so_or, so_xor, so_pick, idx_tup, q1, q2, q3, q4, q5, q6, q7, q8, q9, q10, q11, q12, q13, q14, q15, loopC, idx_lst, cut1_1, cut1_2, cut1_3, -beq_eq_false_iff_ne, -beq_iff_eq]
end
end G
end

section
set_option Elab.async false
set_option linter.all false
set_option maxRecDepth 100000
set_option maxHeartbeats 4000000
/-! P7: comprehensions and tests in general (from k57). -/
namespace G
open PySem PySem.Spec PyProof.Rows L2
theorem ints_is (xs : List Int) : isInts (xs.map .int) = some xs := by
  induction xs with
  | nil => rfl
  | cons x xs ih => simp [evSs, evS, G.ev, evTs, evBs, evCs, evPs, evI, evQ, Res.bind, Res.sr, SR.seq, ofO, ofS, force, forces, Sl.get, ixN, bop, uop, RV.new, RV.held, D.sh, D.shs, D.ok, D.eqv, D.eqvs, truthOf, D.truth, G.take, setL, getL, ownL, reown, asgT, G.prim, isInts, G.elems, G.items, itemsR, walkB, retR, outOf, iosOf, noOw, fzAt, plainSl_some, pln_un, pln_fz, G.lock, G.unlock, G.back, wipeE, SR.unl, G.guard, argsS, argS, apart, slotOf, putBack, G.chk, outR, mutD, rangeOf, optI, G.slc, at3_0, at3_1, at3_2, at3_3, so_const, so_not, so_and, so_or, so_xor, so_pick, idx_tup, q1, q2, q3, q4, q5, q6, q7, q8, q9, q10, q11, q12, q13, q14, q15, idx_lst, cut1_1, cut1_2, cut1_3, -beq_eq_false_iff_ne, -beq_iff_eq, isInts, ih]
theorem setL_ow {ρ : Ev} {i : Nat} {ds : List D} {x : Int} {d : D} (h : ρ[i]? = some (.ow (.lst ds))) (h0 : 0 ≤ x) (h1 : x < ds.length) : setL ρ i (.int x) d = some (ρ.set i (.ow (.lst (ds.set x.toNat d)))) := by
  simp [evSs, evS, G.ev, evTs, evBs, evCs, evPs, evI, evQ, Res.bind, Res.sr, SR.seq, ofO, ofS, force, forces, Sl.get, ixN, bop, uop, RV.new, RV.held, D.sh, D.shs, D.ok, D.eqv, D.eqvs, truthOf, D.truth, G.take, setL, getL, ownL, reown, asgT, G.prim, isInts, G.elems, G.items, itemsR, walkB, retR, outOf, iosOf, noOw, fzAt, plainSl_some, pln_un, pln_fz, G.lock, G.unlock, G.back, wipeE, SR.unl, G.guard, argsS, argS, apart, slotOf, putBack, G.chk, outR, mutD, rangeOf, optI, G.slc, at3_0, at3_1, at3_2, at3_3, so_const, so_not, so_and, so_or, so_xor, so_pick, idx_tup, q1, q2, q3, q4, q5, q6, q7, q8, q9, q10, q11, q12, q13, q14, q15, idx_lst, cut1_1, cut1_2, cut1_3, -beq_eq_false_iff_ne, -beq_iff_eq, h, h0, h1]
theorem setx_ev {F : Fn} {wf i j : Nat} {ρ : Ev} {e : E} {r : RV} {d : D} {ds : List D} {x : Int} (he : ev F e ρ = .ok r ρ) (ht : take ρ r = some (d, ρ)) (hi : ρ[i]? = some (.ow (.lst ds))) (hj : ρ[j]? = some (.fz (.int x))) (h0 : 0 ≤ x) (h1 : x < ds.length) :
    evS F wf (.setx i (.var j) e) ρ = .nx (ρ.set i (.ow (.lst (ds.set x.toNat d)))) := by
  have hs := setL_ow (d := d) hi h0 h1
  rw [evS, he]
  show (ofO (take ρ r) ρ).sr _ = _
  rw [ht]
  show (if (ownL ρ[i]?).isSome = true then (ev F (.var j) ρ).sr fun s ρ => ofS ((force ρ s).bind fun k => setL ρ i k d) else SR.no) = _
  rw [hi]
  show ((ev F (.var j) ρ).sr fun s ρ => ofS ((force ρ s).bind fun k => setL ρ i k d)) = _
  have ej : ev F (.var j) ρ = .ok (.slot j) ρ := by rw [ev, hj]
  rw [ej]
  show ofS ((force ρ (.slot j)).bind fun k => setL ρ i k d) = _
  have ef : force ρ (.slot j) = some (.int x) := by simp [evSs, evS, G.ev, evTs, evBs, evCs, evPs, evI, evQ, Res.bind, Res.sr, SR.seq, ofO, ofS, force, forces, Sl.get, ixN, bop, uop, RV.new, RV.held, D.sh, D.shs, D.ok, D.eqv, D.eqvs, truthOf, D.truth, G.take, setL, getL, ownL, reown, asgT, G.prim, isInts, G.elems, G.items, itemsR, walkB, retR, outOf, iosOf, noOw, fzAt, plainSl_some, pln_un, pln_fz, G.lock, G.unlock, G.back, wipeE, SR.unl, G.guard, argsS, argS, apart, slotOf, putBack, G.chk, outR, mutD, rangeOf, optI, G.slc, at3_0, at3_1, at3_2, at3_3, so_const, so_not, so_and, so_or, so_xor, so_pick, idx_tup, q1, q2, q3, q4, q5, q6, q7, q8, q9, q10, q11, q12, q13, q14, q15, idx_lst, cut1_1, cut1_2, cut1_3, -beq_eq_false_iff_ne, -beq_iff_eq, hj]
  rw [ef, Option.bind_some, hs]
  rfl
def firstE (i : Nat) : E := .bin .add (.idx (.var i) (.con (.int 0))) (.prim .len (.cons (.idx (.var i) (.con (.int 1))) .nil))
def endsE (i : Nat) : E := .bin .add (.idx (.var i) (.con (.int 3))) (.idx (.var i) (.con (.int 4)))
theorem ci0 {c : Circ} : idx c.d (.int 0) = some (.int c.inp) := by simp [evSs, evS, G.ev, evTs, evBs, evCs, evPs, evI, evQ, Res.bind, Res.sr, SR.seq, ofO, ofS, force, forces, Sl.get, ixN, bop, uop, RV.new, RV.held, D.sh, D.shs, D.ok, D.eqv, D.eqvs, truthOf, D.truth, G.take, setL, getL, ownL, reown, asgT, G.prim, isInts, G.elems, G.items, itemsR, walkB, retR, outOf, iosOf, noOw, fzAt, plainSl_some, pln_un, pln_fz, G.lock, G.unlock, G.back, wipeE, SR.unl, G.guard, argsS, argS, apart, slotOf, putBack, G.chk, outR, mutD, rangeOf, optI, G.slc, at3_0, at3_1, at3_2, at3_3, so_const, so_not, so_and, so_or, so_xor, so_pick, idx_tup, q1, q2, q3, q4, q5, q6, q7, q8, q9, q10, q11, q12, q13, q14, q15, idx_lst, cut1_1, cut1_2, cut1_3, -beq_eq_false_iff_ne, -beq_iff_eq, Circ.d]
theorem ci1 {c : Circ} : idx c.d (.int 1) = some (iT c.st) := by simp [evSs, evS, G.ev, evTs, evBs, evCs, evPs, evI, evQ, Res.bind, Res.sr, SR.seq, ofO, ofS, force, forces, Sl.get, ixN, bop, uop, RV.new, RV.held, D.sh, D.shs, D.ok, D.eqv, D.eqvs, truthOf, D.truth, G.take, setL, getL, ownL, reown, asgT, G.prim, isInts, G.elems, G.items, itemsR, walkB, retR, outOf, iosOf, noOw, fzAt, plainSl_some, pln_un, pln_fz, G.lock, G.unlock, G.back, wipeE, SR.unl, G.guard, argsS, argS, apart, slotOf, putBack, G.chk, outR, mutD, rangeOf, optI, G.slc, at3_0, at3_1, at3_2, at3_3, so_const, so_not, so_and, so_or, so_xor, so_pick, idx_tup, q1, q2, q3, q4, q5, q6, q7, q8, q9, q10, q11, q12, q13, q14, q15, idx_lst, cut1_1, cut1_2, cut1_3, -beq_eq_false_iff_ne, -beq_iff_eq, Circ.d]
theorem ci2 {c : Circ} : idx c.d (.int 2) = some (.tup (c.gs.map Gt.d)) := by simp [evSs, evS, G.ev, evTs, evBs, evCs, evPs, evI, evQ, Res.bind, Res.sr, SR.seq, ofO, ofS, force, forces, Sl.get, ixN, bop, uop, RV.new, RV.held, D.sh, D.shs, D.ok, D.eqv, D.eqvs, truthOf, D.truth, G.take, setL, getL, ownL, reown, asgT, G.prim, isInts, G.elems, G.items, itemsR, walkB, retR, outOf, iosOf, noOw, fzAt, plainSl_some, pln_un, pln_fz, G.lock, G.unlock, G.back, wipeE, SR.unl, G.guard, argsS, argS, apart, slotOf, putBack, G.chk, outR, mutD, rangeOf, optI, G.slc, at3_0, at3_1, at3_2, at3_3, so_const, so_not, so_and, so_or, so_xor, so_pick, idx_tup, q1, q2, q3, q4, q5, q6, q7, q8, q9, q10, q11, q12, q13, q14, q15, idx_lst, cut1_1, cut1_2, cut1_3, -beq_eq_false_iff_ne, -beq_iff_eq, Circ.d]
theorem ci3 {c : Circ} : idx c.d (.int 3) = some (iT c.nx) := rfl
theorem ci4 {c : Circ} : idx c.d (.int 4) = some (iT c.ou) := rfl
theorem ev_tupS {F : Fn} {ρ : Ev} {i : Nat} {ds : List D} (h : ρ[i]? = some (.ow (.lst ds))) : ev F (.prim .tuple (.cons (.var i) .nil)) ρ = .ok (.val (.tup ds)) ρ := by
  simp [evSs, evS, G.ev, evTs, evBs, evCs, evPs, evI, evQ, Res.bind, Res.sr, SR.seq, ofO, ofS, force, forces, Sl.get, ixN, bop, uop, RV.new, RV.held, D.sh, D.shs, D.ok, D.eqv, D.eqvs, truthOf, D.truth, G.take, setL, getL, ownL, reown, asgT, G.prim, isInts, G.elems, G.items, itemsR, walkB, retR, outOf, iosOf, noOw, fzAt, plainSl_some, pln_un, pln_fz, G.lock, G.unlock, G.back, wipeE, SR.unl, G.guard, argsS, argS, apart, slotOf, putBack, G.chk, outR, mutD, rangeOf, optI, G.slc, at3_0, at3_1, at3_2, at3_3, so_const, so_not, so_and, so_or, so_xor, so_pick, idx_tup, q1, q2, q3, q4, q5, q6, q7, q8, q9, q10, q11, q12, q13, q14, q15, idx_lst, cut1_1, cut1_2, cut1_3, -beq_eq_false_iff_ne, -beq_iff_eq, h]
theorem bop_mulL {xs : List D} {k : Int} (h1 : -(2 ^ 63) ≤ k) (h2 : k < 2 ^ 63) (h3 : xs.length * k.toNat ≤ sizeLine) : bop .mul (.lst xs) (.int k) = some (.lst (List.replicate k.toNat xs).flatten) := by
  have hb : (decide (-(2 ^ 63) ≤ k) && decide (k < 2 ^ 63) && decide (xs.length * k.toNat ≤ sizeLine)) = true := by
    simp only [Bool.and_eq_true, decide_eq_true_eq]
    exact ⟨⟨h1, h2⟩, h3⟩
  show (if (decide (-(2 ^ 63) ≤ k) && decide (k < 2 ^ 63) && decide (xs.length * k.toNat ≤ sizeLine)) = true then some (D.lst (List.replicate k.toNat xs).flatten) else none) = _
  rw [if_pos hb]
theorem flat_filter {p : D → Bool} {f : D → D} : ∀ xs : List D, xs.flatMap (fun d => if p d = true then [f d] else []) = (xs.filter p).map f
  | [] => rfl
  | d :: xs => by
    rw [List.flatMap_cons, flat_filter xs, List.filter_cons]
    split <;> rfl
theorem set_self {ρ : Ev} {v : Nat} {x : Sl} (h : ρ[v]? = some x) : ρ.set v x = ρ := by
  obtain ⟨hl, rfl⟩ := List.getElem?_eq_some_iff.mp h
  exact List.set_getElem_self hl
theorem gset {ρ : Ev} {v : Nat} {x y : Sl} (h : ρ[v]? = some x) : (ρ.set v y)[v]? = some y := by
  have hl := (List.getElem?_eq_some_iff.mp h).1
  rw [List.getElem?_set_self hl]
/-- one clause, one name -/
theorem comp1 {F : Fn} {v : Nat} {it : G.It} {c e : E} {ρ ρL : Ev} {x : Sl} {rs : List RV} {xs : List D} {p : D → Bool} {f : D → D}
    (hi : evI F it ρ = .ok (xs, rs) ρ) (hL : lock ρ rs = ρL) (hU : unlock ρ ρL rs = ρ) (hx : ρ[v]? = some x) (hx' : ρL[v]? = some x) (px : x.pln = true)
    (hc : ∀ d ∈ xs, ∃ r, ev F c (ρL.set v (.fz d)) = .ok r (ρL.set v (.fz d)) ∧ truthOf (ρL.set v (.fz d)) r = .ok (p d) (ρL.set v (.fz d)))
    (he : ∀ d ∈ xs, p d = true → ∃ r, ev F e (ρL.set v (.fz d)) = .ok r (ρL.set v (.fz d)) ∧ take (ρL.set v (.fz d)) r = some (f d, ρL.set v (.fz d)))
    (hz : xs.length ≤ 1000) : ev F (.comp [v] (.nm v) it c (.yld e)) ρ = .ok (.own (.lst ((xs.filter p).map f))) ρ := by
  have hw : wipeE (lock ρ rs) [v] = ρL.set v .un := by rw [hL]; rfl
  have eL := loopC_map (vs := [v]) (f := turnF F (.nm v) c (evQ F (.yld e))) (ρ := ρL.set v .un) (fun d => if p d = true then [f d] else []) (ds := xs) (fun d hd => by
    refine ⟨ρL.set v (.fz d), ?_, by show (ρL.set v (.fz d)).set v .un = _; rw [List.set_set]⟩
    have ha : asgT (ρL.set v .un) (.nm v) (.val d) = some (ρL.set v (.fz d)) := by
      show setS _ v (.fz d) = _
      rw [setS_nio (gset hx') rfl, List.set_set]
    obtain ⟨r, e1, e2⟩ := hc d hd
    unfold turnF
    rw [ha]
    show ((ev F c (ρL.set v (.fz d))).bind fun r ρ => (truthOf ρ r).bind fun k ρ => G.guard k (evQ F (.yld e) ρ) ρ) = _
    rw [e1]
    show (truthOf (ρL.set v (.fz d)) r).bind _ = _
    rw [e2]
    show G.guard (p d) (evQ F (.yld e) (ρL.set v (.fz d))) (ρL.set v (.fz d)) = _
    cases hp : p d with
    | false => simp [evSs, evS, G.ev, evTs, evBs, evCs, evPs, evI, evQ, Res.bind, Res.sr, SR.seq, ofO, ofS, force, forces, Sl.get, ixN, bop, uop, RV.new, RV.held, D.sh, D.shs, D.ok, D.eqv, D.eqvs, truthOf, D.truth, G.take, setL, getL, ownL, reown, asgT, G.prim, isInts, G.elems, G.items, itemsR, walkB, retR, outOf, iosOf, noOw, fzAt, plainSl_some, pln_un, pln_fz, G.lock, G.unlock, G.back, wipeE, SR.unl, G.guard, argsS, argS, apart, slotOf, putBack, G.chk, outR, mutD, rangeOf, optI, G.slc, at3_0, at3_1, at3_2, at3_3, so_const, so_not, so_and, so_or, so_xor, so_pick, idx_tup, q1, q2, q3, q4, q5, q6, q7, q8, q9, q10, q11, q12, q13, q14, q15, idx_lst, cut1_1, cut1_2, cut1_3, -beq_eq_false_iff_ne, -beq_iff_eq]
    | true =>
      obtain ⟨r', e3, e4⟩ := he d hd hp
      show ((ev F e (ρL.set v (.fz d))).bind fun r ρ => (ofO (take ρ r) ρ).bind fun p _ => Res.ok [p.1] p.2) = _
      rw [e3]
      show ((ofO (take (ρL.set v (.fz d)) r') (ρL.set v (.fz d))).bind fun p _ => Res.ok [p.1] p.2) = _
      rw [e4]
      simp [evSs, evS, G.ev, evTs, evBs, evCs, evPs, evI, evQ, Res.bind, Res.sr, SR.seq, ofO, ofS, force, forces, Sl.get, ixN, bop, uop, RV.new, RV.held, D.sh, D.shs, D.ok, D.eqv, D.eqvs, truthOf, D.truth, G.take, setL, getL, ownL, reown, asgT, G.prim, isInts, G.elems, G.items, itemsR, walkB, retR, outOf, iosOf, noOw, fzAt, plainSl_some, pln_un, pln_fz, G.lock, G.unlock, G.back, wipeE, SR.unl, G.guard, argsS, argS, apart, slotOf, putBack, G.chk, outR, mutD, rangeOf, optI, G.slc, at3_0, at3_1, at3_2, at3_3, so_const, so_not, so_and, so_or, so_xor, so_pick, idx_tup, q1, q2, q3, q4, q5, q6, q7, q8, q9, q10, q11, q12, q13, q14, q15, idx_lst, cut1_1, cut1_2, cut1_3, -beq_eq_false_iff_ne, -beq_iff_eq])
  rw [flat_filter] at eL
  have e1 := comp_ev (F := F) (vs := [v]) (t := .nm v) (it := it) (c := c) (q := .yld e) (ρ := ρ) (ρ1 := ρ) (p := (xs, rs)) hi (by rw [List.all_cons, hx, plainSl_some, px]; rfl) (by rw [hw]; exact eL) (by rw [List.length_map]; exact sizeLine_big (by have := List.length_filter_le p xs; omega))
  rw [e1]
  have hb : back ρ (ρL.set v .un) [v] = ρL := by
    show (ρL.set v .un).set v ((ρ[v]?).getD .un) = _
    rw [hx, List.set_set]
    exact set_self hx'
  show Res.ok _ (unlock ρ (back ρ (ρL.set v .un) [v]) rs) = _
  rw [hb, hU]
/-- one clause, two names -/
theorem comp2 {F : Fn} {i j : Nat} {it : G.It} {c e : E} {ρ ρL : Ev} {x y : Sl} {rs : List RV} {xs : List D} {p : D → Bool} {f : D → D} (hij : i ≠ j)
    (hi : evI F it ρ = .ok (xs, rs) ρ) (hL : lock ρ rs = ρL) (hU : unlock ρ ρL rs = ρ) (hx : ρ[i]? = some x) (hx' : ρL[i]? = some x) (px : x.pln = true) (hy : ρ[j]? = some y) (hy' : ρL[j]? = some y) (py : y.pln = true)
    (ht : ∀ d ∈ xs, ∃ a b, d = .tup [a, b] ∧ (∃ r, ev F c ((ρL.set i (.fz a)).set j (.fz b)) = .ok r ((ρL.set i (.fz a)).set j (.fz b)) ∧ truthOf ((ρL.set i (.fz a)).set j (.fz b)) r = .ok (p d) ((ρL.set i (.fz a)).set j (.fz b))) ∧
      (p d = true → ∃ r, ev F e ((ρL.set i (.fz a)).set j (.fz b)) = .ok r ((ρL.set i (.fz a)).set j (.fz b)) ∧ take ((ρL.set i (.fz a)).set j (.fz b)) r = some (f d, (ρL.set i (.fz a)).set j (.fz b))))
    (hz : xs.length ≤ 1000) : ev F (.comp [i, j] (.tp [i, j]) it c (.yld e)) ρ = .ok (.own (.lst ((xs.filter p).map f))) ρ := by
  have hw : wipeE (lock ρ rs) [i, j] = (ρL.set j .un).set i .un := by rw [hL]; rfl
  have eL := loopC_map (vs := [i, j]) (f := turnF F (.tp [i, j]) c (evQ F (.yld e))) (ρ := (ρL.set j .un).set i .un) (fun d => if p d = true then [f d] else []) (ds := xs) (fun d hd => by
    obtain ⟨a, b, rfl, ⟨r, e1, e2⟩, he⟩ := ht d hd
    refine ⟨(ρL.set i (.fz a)).set j (.fz b), ?_, ?_⟩
    · have ha : asgT ((ρL.set j .un).set i .un) (.tp [i, j]) (.val (.tup [a, b])) = some ((ρL.set i (.fz a)).set j (.fz b)) := by
        show (setS ((ρL.set j .un).set i .un) i (.fz a)).bind (fun ρ => (setS ρ j (.fz b)).bind fun ρ => some ρ) = _
        have g1 : ((ρL.set j .un).set i .un)[i]? = some .un := by
          have : (ρL.set j .un)[i]? = some x := by rw [List.getElem?_set_ne (Ne.symm hij)]; exact hx'
          exact gset this
        rw [setS_nio g1 rfl, List.set_set, Option.bind_some]
        have g2 : ((ρL.set j .un).set i (.fz a))[j]? = some .un := by
          rw [List.getElem?_set_ne hij]
          exact gset hy'
        rw [setS_nio g2 rfl, Option.bind_some, List.set_comm _ _ (Ne.symm hij), List.set_set]
      unfold turnF
      rw [ha]
      show ((ev F c ((ρL.set i (.fz a)).set j (.fz b))).bind fun r ρ => (truthOf ρ r).bind fun k ρ => G.guard k (evQ F (.yld e) ρ) ρ) = _
      rw [e1]
      show (truthOf ((ρL.set i (.fz a)).set j (.fz b)) r).bind _ = _
      rw [e2]
      show G.guard (p (.tup [a, b])) (evQ F (.yld e) ((ρL.set i (.fz a)).set j (.fz b))) ((ρL.set i (.fz a)).set j (.fz b)) = _
      cases hp : p (.tup [a, b]) with
      | false => simp [evSs, evS, G.ev, evTs, evBs, evCs, evPs, evI, evQ, Res.bind, Res.sr, SR.seq, ofO, ofS, force, forces, Sl.get, ixN, bop, uop, RV.new, RV.held, D.sh, D.shs, D.ok, D.eqv, D.eqvs, truthOf, D.truth, G.take, setL, getL, ownL, reown, asgT, G.prim, isInts, G.elems, G.items, itemsR, walkB, retR, outOf, iosOf, noOw, fzAt, plainSl_some, pln_un, pln_fz, G.lock, G.unlock, G.back, wipeE, SR.unl, G.guard, argsS, argS, apart, slotOf, putBack, G.chk, outR, mutD, rangeOf, optI, G.slc, at3_0, at3_1, at3_2, at3_3, so_const, so_not, so_and, so_or, so_xor, so_pick, idx_tup, q1, q2, q3, q4, q5, q6, q7, q8, q9, q10, q11, q12, q13, q14, q15, idx_lst, cut1_1, cut1_2, cut1_3, -beq_eq_false_iff_ne, -beq_iff_eq]
      | true =>
        obtain ⟨r', e3, e4⟩ := he hp
        show ((ev F e ((ρL.set i (.fz a)).set j (.fz b))).bind fun r ρ => (ofO (take ρ r) ρ).bind fun p _ => Res.ok [p.1] p.2) = _
        rw [e3]
        show ((ofO (take ((ρL.set i (.fz a)).set j (.fz b)) r') ((ρL.set i (.fz a)).set j (.fz b))).bind fun p _ => Res.ok [p.1] p.2) = _
        rw [e4]
        simp [evSs, evS, G.ev, evTs, evBs, evCs, evPs, evI, evQ, Res.bind, Res.sr, SR.seq, ofO, ofS, force, forces, Sl.get, ixN, bop, uop, RV.new, RV.held, D.sh, D.shs, D.ok, D.eqv, D.eqvs, truthOf, D.truth, G.take, setL, getL, ownL, reown, asgT, G.prim, isInts, G.elems, G.items, itemsR, walkB, retR, outOf, iosOf, noOw, fzAt, plainSl_some, pln_un, pln_fz, G.lock, G.unlock, G.back, wipeE, SR.unl, G.guard, argsS, argS, apart, slotOf, putBack, G.chk, outR, mutD, rangeOf, optI, G.slc, at3_0, at3_1, at3_2, at3_3, so_const, so_not, so_and, so_or, so_xor, so_pick, idx_tup, q1, q2, q3, q4, q5, q6, q7, q8, q9, q10, q11, q12, q13, q14, q15, idx_lst, cut1_1, cut1_2, cut1_3, -beq_eq_false_iff_ne, -beq_iff_eq]
    · show (((ρL.set i (.fz a)).set j (.fz b)).set j .un).set i .un = _
      rw [List.set_set, List.set_comm _ _ hij, List.set_set])
  rw [flat_filter] at eL
  have e1 := comp_ev (F := F) (vs := [i, j]) (t := .tp [i, j]) (it := it) (c := c) (q := .yld e) (ρ := ρ) (ρ1 := ρ) (p := (xs, rs)) hi (by rw [List.all_cons, List.all_cons, hx, hy, plainSl_some, plainSl_some, px, py]; rfl) (by rw [hw]; exact eL) (by rw [List.length_map]; exact sizeLine_big (by have := List.length_filter_le p xs; omega))
  rw [e1]
  have hb : back ρ ((ρL.set j .un).set i .un) [i, j] = ρL := by
    show (((ρL.set j .un).set i .un).set j ((ρ[j]?).getD .un)).set i ((ρ[i]?).getD .un) = _
    rw [hx, hy, Option.getD_some, Option.getD_some, List.set_comm _ _ hij, List.set_set, List.set_set]
    rw [set_self hy']
    exact set_self hx'
  show Res.ok _ (unlock ρ (back ρ ((ρL.set j .un).set i .un) [i, j]) rs) = _
  rw [hb, hU]
theorem filter_tt (xs : List D) : xs.filter (fun _ => true) = xs := List.filter_eq_self.mpr fun _ _ => rfl
theorem map_dint {xs : List Int} {f : D → D} {g : Int → Int} (h : ∀ x, f (.int x) = .int (g x)) : (xs.map D.int).map f = (xs.map g).map .int := by
  rw [List.map_map, List.map_map]
  exact List.map_congr_left fun x _ => h x
theorem zip_map {xs : List Nat} {f g : Nat → D} : zipD (xs.map f) (xs.map g) = xs.map fun s => D.tup [f s, g s] := by
  induction xs with
  | nil => rfl
  | cons x xs ih => simp only [List.map_cons, zipD, ih]
theorem filter_dint {p : D → Bool} {q : Int → Bool} (h : ∀ x, p (.int x) = q x) : ∀ xs : List Int, (xs.map D.int).filter p = (xs.filter q).map .int
  | [] => rfl
  | x :: xs => by
    rw [List.map_cons, List.filter_cons, List.filter_cons, filter_dint h xs, h x]
    split <;> rfl
theorem and_ev {F : Fn} {ρ : Ev} {a b : E} {p q : Bool} {r r' : RV} (h1 : ev F a ρ = .ok r ρ) (t1 : truthOf ρ r = .ok p ρ) (h2 : p = true → ev F b ρ = .ok r' ρ ∧ truthOf ρ r' = .ok q ρ) (h3 : p = false → q = false) : ∃ r, ev F (.and a b) ρ = .ok r ρ ∧ truthOf ρ r = .ok q ρ := by
  rw [ev, h1]
  show ∃ r0, ((truthOf ρ r).bind fun k ρ => if k = true then ev F b ρ else Res.ok r ρ) = .ok r0 ρ ∧ _
  rw [t1]
  cases p with
  | true => exact ⟨r', h2 rfl⟩
  | false =>
    rw [h3 rfl]
    exact ⟨r, rfl, t1⟩
theorem or_ev {F : Fn} {ρ : Ev} {a b : E} {p q : Bool} {r r' : RV} (h1 : ev F a ρ = .ok r ρ) (t1 : truthOf ρ r = .ok p ρ) (h2 : p = false → ev F b ρ = .ok r' ρ ∧ truthOf ρ r' = .ok q ρ) (h3 : p = true → q = true) : ∃ r, ev F (.or a b) ρ = .ok r ρ ∧ truthOf ρ r = .ok q ρ := by
  rw [ev, h1]
  show ∃ r0, ((truthOf ρ r).bind fun k ρ => if k = true then Res.ok r ρ else ev F b ρ) = .ok r0 ρ ∧ _
  rw [t1]
  cases p with
  | false => exact ⟨r', h2 rfl⟩
  | true =>
    rw [h3 rfl]
    exact ⟨r, rfl, t1⟩
theorem ite_ev {F : Fn} {wf : Nat} {c : E} {A B : Ss} {ρ : Ev} {r : RV} {b : Bool} (h : ev F c ρ = .ok r ρ) (t : truthOf ρ r = .ok b ρ) : evS F wf (.ite c A B) ρ = if b = true then evSs F wf A ρ else evSs F wf B ρ := by
  rw [evS, h]
  show ((truthOf ρ r).sr fun k ρ => if k = true then evSs F wf A ρ else evSs F wf B ρ) = _
  rw [t]
  rfl
theorem eqv_ints (xs : List Int) : D.eqvs (xs.map .int) (xs.map .int) = true := by
  induction xs with
  | nil => rfl
  | cons x xs ih => rw [List.map_cons, D.eqvs, ih, D.eqv]; simp [evSs, evS, G.ev, evTs, evBs, evCs, evPs, evI, evQ, Res.bind, Res.sr, SR.seq, ofO, ofS, force, forces, Sl.get, ixN, bop, uop, RV.new, RV.held, D.sh, D.shs, D.ok, D.eqv, D.eqvs, truthOf, D.truth, G.take, setL, getL, ownL, reown, asgT, G.prim, isInts, G.elems, G.items, itemsR, walkB, retR, outOf, iosOf, noOw, fzAt, plainSl_some, pln_un, pln_fz, G.lock, G.unlock, G.back, wipeE, SR.unl, G.guard, argsS, argS, apart, slotOf, putBack, G.chk, outR, mutD, rangeOf, optI, G.slc, at3_0, at3_1, at3_2, at3_3, so_const, so_not, so_and, so_or, so_xor, so_pick, idx_tup, q1, q2, q3, q4, q5, q6, q7, q8, q9, q10, q11, q12, q13, q14, q15, idx_lst, cut1_1, cut1_2, cut1_3, -beq_eq_false_iff_ne, -beq_iff_eq]
/-- two data that are the same are not unlike -/
theorem ne_ev {F : Fn} {ρ : Ev} {a b : E} {r s : RV} {x : D} (ha : ev F a ρ = .ok r ρ) (hr : force ρ r = some x) (hb : ev F b ρ = .ok s ρ) (hs : force ρ s = some x) (ho : D.sh 60 x = true) (he : D.eqv x x = true) :
    ev F (.bin .ne a b) ρ = .ok (.val (.bl false)) ρ := by
  rw [ev, ha]
  show ((ev F b ρ).bind fun s ρ => ofO (((force ρ r).bind fun x => (force ρ s).bind fun y => bop .ne x y).map RV.new) ρ) = _
  rw [hb]
  show ofO (((force ρ r).bind fun x => (force ρ s).bind fun y => bop .ne x y).map RV.new) ρ = _
  rw [hr, Option.bind_some, hs, Option.bind_some]
  have e : bop .ne x x = some (.bl false) := by
    show (if (D.sh 60 x && D.sh 60 x) = true then some (D.bl (!D.eqv x x)) else none) = _
    rw [ho, he]
    rfl
  rw [e]
  rfl
theorem eq_ev {F : Fn} {ρ : Ev} {a b : E} {r s : RV} {x : D} (ha : ev F a ρ = .ok r ρ) (hr : force ρ r = some x) (hb : ev F b ρ = .ok s ρ) (hs : force ρ s = some x) (ho : D.sh 60 x = true) (he : D.eqv x x = true) :
    ev F (.bin .eq a b) ρ = .ok (.val (.bl true)) ρ := by
  rw [ev, ha]
  show ((ev F b ρ).bind fun s ρ => ofO (((force ρ r).bind fun x => (force ρ s).bind fun y => bop .eq x y).map RV.new) ρ) = _
  rw [hb]
  show ofO (((force ρ r).bind fun x => (force ρ s).bind fun y => bop .eq x y).map RV.new) ρ = _
  rw [hr, Option.bind_some, hs, Option.bind_some]
  have e : bop .eq x x = some (.bl true) := by
    show (if (D.sh 60 x && D.sh 60 x) = true then some (D.bl (D.eqv x x)) else none) = _
    rw [ho, he]
    rfl
  rw [e]
  rfl
theorem evI_var {F : Fn} {ρ : Ev} {i n : Nat} (h : ρ[i]? = some (.fz (.int (n : Nat)))) (hn : n ≤ 1000) : evI F (.rng (.cons (.var i) .nil)) ρ = .ok (rangeD 0 n, []) ρ := by
  have i1 := inR_small (i := (n : Int)) (by omega) (by omega)
  have e0 : rangeOf [D.int (n : Int)] = some (rangeD 0 n) := by
    show (if inR (n : Int) = true then some (rangeD 0 (n : Int).toNat) else none) = _
    rw [if_pos i1, Int.toNat_natCast]
  have e1 : evBs F (.cons (.var i) .nil) ρ = .ok [.slot i] ρ := by simp [evSs, evS, G.ev, evTs, evBs, evCs, evPs, evI, evQ, Res.bind, Res.sr, SR.seq, ofO, ofS, force, forces, Sl.get, ixN, bop, uop, RV.new, RV.held, D.sh, D.shs, D.ok, D.eqv, D.eqvs, truthOf, D.truth, G.take, setL, getL, ownL, reown, asgT, G.prim, isInts, G.elems, G.items, itemsR, walkB, retR, outOf, iosOf, noOw, fzAt, plainSl_some, pln_un, pln_fz, G.lock, G.unlock, G.back, wipeE, SR.unl, G.guard, argsS, argS, apart, slotOf, putBack, G.chk, outR, mutD, rangeOf, optI, G.slc, at3_0, at3_1, at3_2, at3_3, so_const, so_not, so_and, so_or, so_xor, so_pick, idx_tup, q1, q2, q3, q4, q5, q6, q7, q8, q9, q10, q11, q12, q13, q14, q15, idx_lst, cut1_1, cut1_2, cut1_3, -beq_eq_false_iff_ne, -beq_iff_eq, h]
  have e2 : forces ρ [RV.slot i] = some [D.int (n : Int)] := by simp [evSs, evS, G.ev, evTs, evBs, evCs, evPs, evI, evQ, Res.bind, Res.sr, SR.seq, ofO, ofS, force, forces, Sl.get, ixN, bop, uop, RV.new, RV.held, D.sh, D.shs, D.ok, D.eqv, D.eqvs, truthOf, D.truth, G.take, setL, getL, ownL, reown, asgT, G.prim, isInts, G.elems, G.items, itemsR, walkB, retR, outOf, iosOf, noOw, fzAt, plainSl_some, pln_un, pln_fz, G.lock, G.unlock, G.back, wipeE, SR.unl, G.guard, argsS, argS, apart, slotOf, putBack, G.chk, outR, mutD, rangeOf, optI, G.slc, at3_0, at3_1, at3_2, at3_3, so_const, so_not, so_and, so_or, so_xor, so_pick, idx_tup, q1, q2, q3, q4, q5, q6, q7, q8, q9, q10, q11, q12, q13, q14, q15, idx_lst, cut1_1, cut1_2, cut1_3, -beq_eq_false_iff_ne, -beq_iff_eq, h]
  have e3 : ∀ (f : List RV → Ev → Res (List D × List RV)) (rs : List RV) (ρ : Ev), (Res.ok rs ρ).bind f = f rs ρ := fun _ _ _ => rfl
  rw [evI, e1, e3, e2, Option.bind_some, e0, Option.map_some]
  rfl
theorem range_map {n : Nat} {f : D → D} {g : Int → D} (h : ∀ s, f (.int s) = g s) : (rangeD 0 n).map f = (List.range n).map fun (s : Nat) => g (s : Nat) := by
  unfold rangeD
  rw [List.map_map]
  refine List.map_congr_left fun s _ => ?_
  show f (.int (0 + (s : Int))) = _
  rw [Int.zero_add, h]
theorem rangeD_mem {n : Nat} {d : D} (h : d ∈ rangeD 0 n) : ∃ s : Int, d = .int s ∧ 0 ≤ s ∧ s < n := by
  obtain ⟨i, hi⟩ := List.getElem?_of_mem h
  obtain ⟨rfl, hlt⟩ := rangeD_at hi
  exact ⟨_, rfl, by omega, by omega⟩
theorem sh_ints (xs : List Int) : D.shs 59 (xs.map .int) = true := by
  induction xs with
  | nil => rfl
  | cons x xs ih => rw [List.map_cons, D.shs, ih]; rfl
theorem mem_ints (s : Int) (xs : List Int) : memD (.int s) (xs.map .int) = decide (s ∈ xs) := by
  induction xs with
  | nil => rfl
  | cons x xs ih =>
    unfold memD at ih ⊢
    rw [List.map_cons, List.any_cons, ih]
    have e : D.eqv (.int x) (.int s) = decide (s = x) := by
      show (x == s) = _
      by_cases e : s = x
      · subst e; simp [evSs, evS, G.ev, evTs, evBs, evCs, evPs, evI, evQ, Res.bind, Res.sr, SR.seq, ofO, ofS, force, forces, Sl.get, ixN, bop, uop, RV.new, RV.held, D.sh, D.shs, D.ok, D.eqv, D.eqvs, truthOf, D.truth, G.take, setL, getL, ownL, reown, asgT, G.prim, isInts, G.elems, G.items, itemsR, walkB, retR, outOf, iosOf, noOw, fzAt, plainSl_some, pln_un, pln_fz, G.lock, G.unlock, G.back, wipeE, SR.unl, G.guard, argsS, argS, apart, slotOf, putBack, G.chk, outR, mutD, rangeOf, optI, G.slc, at3_0, at3_1, at3_2, at3_3, so_const, so_not, so_and, so_or, so_xor, so_pick, idx_tup, q1, q2, q3, q4, q5, q6, q7, q8, q9, q10, q11, q12, q13, q14, q15, idx_lst, cut1_1, cut1_2, cut1_3, -beq_eq_false_iff_ne, -beq_iff_eq]
      · have h1 : (x == s) = false := beq_eq_false_iff_ne.mpr (Ne.symm e)
        rw [h1, decide_eq_false e]
    rw [e]
    by_cases h1 : s = x <;> by_cases h2 : s ∈ xs <;> simp [evSs, evS, G.ev, evTs, evBs, evCs, evPs, evI, evQ, Res.bind, Res.sr, SR.seq, ofO, ofS, force, forces, Sl.get, ixN, bop, uop, RV.new, RV.held, D.sh, D.shs, D.ok, D.eqv, D.eqvs, truthOf, D.truth, G.take, setL, getL, ownL, reown, asgT, G.prim, isInts, G.elems, G.items, itemsR, walkB, retR, outOf, iosOf, noOw, fzAt, plainSl_some, pln_un, pln_fz, G.lock, G.unlock, G.back, wipeE, SR.unl, G.guard, argsS, argS, apart, slotOf, putBack, G.chk, outR, mutD, rangeOf, optI, G.slc, at3_0, at3_1, at3_2, at3_3, so_const, so_not, so_and, so_or, so_xor, so_pick, idx_tup, q1, q2, q3, q4, q5, q6, q7, q8, q9, q10, q11, q12, q13, q14, q15, idx_lst, cut1_1, cut1_2, cut1_3, -beq_eq_false_iff_ne, -beq_iff_eq, h1, h2]
theorem and_tt {F : Fn} {ρ : Ev} {a b : E} {r : RV} (h1 : ev F a ρ = .ok (.val (.bl true)) ρ) (h2 : ev F b ρ = .ok r ρ) : ev F (.and a b) ρ = .ok r ρ := by
  rw [ev, h1]
  exact h2
theorem ite_no {F : Fn} {wf : Nat} {a b : E} {A : Ss} {ρ : Ev} (h1 : ev F a ρ = .ok (.val (.bl false)) ρ) (h2 : ev F b ρ = .ok (.val (.bl false)) ρ) : evS F wf (.ite (.or a b) A .nil) ρ = .nx ρ := by
  obtain ⟨r0, c1, c2⟩ := or_ev (q := false) h1 rfl (fun _ => ⟨h2, rfl⟩) (fun h => h)
  rw [ite_ev c1 c2, if_neg (by simp [evSs, evS, G.ev, evTs, evBs, evCs, evPs, evI, evQ, Res.bind, Res.sr, SR.seq, ofO, ofS, force, forces, Sl.get, ixN, bop, uop, RV.new, RV.held, D.sh, D.shs, D.ok, D.eqv, D.eqvs, truthOf, D.truth, G.take, setL, getL, ownL, reown, asgT, G.prim, isInts, G.elems, G.items, itemsR, walkB, retR, outOf, iosOf, noOw, fzAt, plainSl_some, pln_un, pln_fz, G.lock, G.unlock, G.back, wipeE, SR.unl, G.guard, argsS, argS, apart, slotOf, putBack, G.chk, outR, mutD, rangeOf, optI, G.slc, at3_0, at3_1, at3_2, at3_3, so_const, so_not, so_and, so_or, so_xor, so_pick, idx_tup, q1, q2, q3, q4, q5, q6, q7, q8, q9, q10, q11, q12, q13, q14, q15, idx_lst, cut1_1, cut1_2, cut1_3, -beq_eq_false_iff_ne, -beq_iff_eq])]
  rfl
theorem shT {l : List D} (h : D.shs 59 l = true) : D.sh 60 (.tup l) = true := h
theorem eqvT {l : List D} (h : D.eqvs l l = true) : D.eqv (.tup l) (.tup l) = true := by rw [D.eqv]; exact h
end G
end

section
set_option Elab.async false
set_option linter.all false
set_option maxRecDepth 100000
set_option maxHeartbeats 4000000
/-! P8: comprehensions of two clauses. -/
namespace G
open PySem PySem.Spec PyProof.Rows L2
theorem comp_fr {F : Fn} {v w : Nat} {it it1 : G.It} {e : E} {ρ ρL : Ev} {x y : Sl} {rs : List RV} {xs : List D} {g : D → List D} {rs1 : D → List RV} {f : D → D → D} (hvw : v ≠ w)
    (hi : evI F it ρ = .ok (xs, rs) ρ) (hL : lock ρ rs = ρL) (hU : unlock ρ ρL rs = ρ) (hx : ρ[v]? = some x) (hx' : ρL[v]? = some x) (px : x.pln = true) (hy : ρ[w]? = some y) (hy' : ρL[w]? = some y) (py : y.pln = true)
    (h1 : ∀ d ∈ xs, evI F it1 ((ρL.set w .un).set v (.fz d)) = .ok (g d, rs1 d) ((ρL.set w .un).set v (.fz d)) ∧ lock ((ρL.set w .un).set v (.fz d)) (rs1 d) = (ρL.set w .un).set v (.fz d) ∧ (∀ ρ', unlock ((ρL.set w .un).set v (.fz d)) ρ' (rs1 d) = ρ'))
    (he : ∀ d ∈ xs, ∀ b ∈ g d, ∃ r, ev F e ((ρL.set v (.fz d)).set w (.fz b)) = .ok r ((ρL.set v (.fz d)).set w (.fz b)) ∧ take ((ρL.set v (.fz d)).set w (.fz b)) r = some (f d b, (ρL.set v (.fz d)).set w (.fz b)))
    (hz : (xs.flatMap fun d => (g d).map (f d)).length ≤ 1000) : ev F (.comp [v, w] (.nm v) it (.con (.bl true)) (.fr [w] (.nm w) it1 (.con (.bl true)) e)) ρ = .ok (.own (.lst (xs.flatMap fun d => (g d).map (f d)))) ρ := by
  have hw : wipeE (lock ρ rs) [v, w] = (ρL.set w .un).set v .un := by rw [hL]; rfl
  have gv : ((ρL.set w .un))[v]? = some x := by rw [List.getElem?_set_ne (Ne.symm hvw)]; exact hx'
  have eL := loopC_map (vs := [v, w]) (f := turnF F (.nm v) (.con (.bl true)) (evQ F (.fr [w] (.nm w) it1 (.con (.bl true)) e))) (ρ := (ρL.set w .un).set v .un) (fun d => (g d).map (f d)) (ds := xs) (fun d hd => by
    obtain ⟨i1, i2, i3⟩ := h1 d hd
    have hE : ((ρL.set w .un).set v (.fz d))[w]? = some .un := by
      rw [List.getElem?_set_ne hvw]
      exact gset hy'
    refine ⟨(ρL.set w .un).set v (.fz d), ?_, ?_⟩
    · have ha : asgT ((ρL.set w .un).set v .un) (.nm v) (.val d) = some ((ρL.set w .un).set v (.fz d)) := by
        show setS _ v (.fz d) = _
        rw [setS_nio (gset gv) rfl, List.set_set]
      unfold turnF
      rw [ha]
      show evQ F (.fr [w] (.nm w) it1 (.con (.bl true)) e) ((ρL.set w .un).set v (.fz d)) = _
      generalize hEE : (ρL.set w .un).set v (.fz d) = E0 at i1 i2 i3 hE
      have lI := loopC_map1 (vs := [w]) (f := turnF F (.nm w) (.con (.bl true)) (fun ρ => (ev F e ρ).bind fun r ρ => (ofO (take ρ r) ρ).bind fun p _ => Res.ok [p.1] p.2)) (ρ := E0) (f d) (ds := g d) (fun b hb => by
        obtain ⟨r, e1, e2⟩ := he d hd b hb
        have hs : E0.set w (.fz b) = (ρL.set v (.fz d)).set w (.fz b) := by
          rw [← hEE, List.set_comm _ _ (Ne.symm hvw), List.set_set]
        refine ⟨E0.set w (.fz b), ?_, ?_⟩
        · have ha : asgT E0 (.nm w) (.val b) = some (E0.set w (.fz b)) := by
            show setS _ w (.fz b) = _
            rw [setS_nio hE rfl]
          unfold turnF
          rw [ha]
          show ((ev F e (E0.set w (.fz b))).bind fun r ρ => (ofO (take ρ r) ρ).bind fun p _ => Res.ok [p.1] p.2) = _
          rw [hs, e1]
          show ((ofO (take ((ρL.set v (.fz d)).set w (.fz b)) r) ((ρL.set v (.fz d)).set w (.fz b))).bind fun p _ => Res.ok [p.1] p.2) = _
          rw [e2]
          rfl
        · show (E0.set w (.fz b)).set w .un = _
          rw [List.set_set]
          exact set_self hE)
      have hwE : wipeE (lock E0 (rs1 d)) [w] = E0 := by
        rw [i2]
        exact set_self hE
      rw [evQ, i1]
      show (if ([w].all fun v => plainSl E0[v]?) = true then ((loopC [w] (turnF F (.nm w) (.con (.bl true)) (fun ρ => (ev F e ρ).bind fun r ρ => (ofO (take ρ r) ρ).bind fun p _ => Res.ok [p.1] p.2)) (g d) (wipeE (lock E0 (rs1 d)) [w])).bind fun ds ρ => Res.ok ds (unlock E0 (back E0 ρ [w]) (rs1 d))) else .no) = _
      rw [if_pos (by rw [List.all_cons, hE]; rfl), hwE, lI]
      show Res.ok _ (unlock E0 (E0.set w ((E0[w]?).getD .un)) (rs1 d)) = _
      rw [hE, i3, Option.getD_some, set_self hE]
    · show ((((ρL.set w .un).set v (.fz d)).set w .un)).set v .un = _
      rw [List.set_comm _ _ hvw, List.set_set, List.set_set])
  have e1 := comp_ev (F := F) (vs := [v, w]) (t := .nm v) (it := it) (c := .con (.bl true)) (q := .fr [w] (.nm w) it1 (.con (.bl true)) e) (ρ := ρ) (ρ1 := ρ) (p := (xs, rs)) hi (by rw [List.all_cons, List.all_cons, hx, hy, plainSl_some, plainSl_some, px, py]; rfl) (by rw [hw]; exact eL) (sizeLine_big hz)
  rw [e1]
  have hb : back ρ ((ρL.set w .un).set v .un) [v, w] = ρL := by
    show (((ρL.set w .un).set v .un).set w ((ρ[w]?).getD .un)).set v ((ρ[v]?).getD .un) = _
    rw [hx, hy, Option.getD_some, Option.getD_some, List.set_comm _ _ hvw, List.set_set, List.set_set]
    rw [set_self hy']
    exact set_self hx'
  show Res.ok _ (unlock ρ (back ρ ((ρL.set w .un).set v .un) [v, w]) rs) = _
  rw [hb, hU]
end G
end

section
set_option Elab.async false
set_option linter.all false
set_option maxRecDepth 100000
set_option maxHeartbeats 4000000
/-! P9: what is a circuit (from k59), wherever its functions lie. -/
namespace G
open PySem PySem.Spec PyProof.Rows L2
def kinds : List (Str × D) := [("not", (.int 1)), ("and", (.int 2)), ("or", (.int 2)), ("xor", (.int 2)), ("pick", (.int 3))]
def intSs : Ss := (.cons (.ite (.or (.not (.prim .isInt (.cons (.var 0) .nil))) (.prim .isBool (.cons (.var 0) .nil))) (.cons (.ret (.con (.bl false))) .nil) .nil) (.cons (.ret (.and (.or (.un .isN (.var 1)) (.bin .ge (.var 0) (.var 1))) (.or (.un .isN (.var 2)) (.bin .le (.var 0) (.var 2))))) .nil))
def rowE (ci : Nat) : E := .comp [3] (.nm 3) (.val (.var 0)) (.con (.bl true)) (.yld (.call ci [false, false, false] (.cons (.var 3) (.cons (.var 1) (.cons (.var 2) .nil)))))
def rowSs (ci : Nat) : Ss := (.cons (.ret (.and (.prim .isTuple (.cons (.var 0) .nil)) (.prim .all (.cons (rowE ci) .nil)))) .nil)
def gateSs (ci cr : Nat) : Ss := (.cons (.ite (.or (.not (.prim .isTuple (.cons (.var 0) .nil))) (.or (.bin .eq (.prim .len (.cons (.var 0) .nil)) (.con (.int 0))) (.not (.prim .isStr (.cons (.idx (.var 0) (.con (.int 0))) .nil))))) (.cons (.ret (.con (.bl false))) .nil) .nil) (.cons (.ite (.bin .eq (.idx (.var 0) (.con (.int 0))) (.con (.str "const"))) (.cons (.ret (.and (.bin .eq (.prim .len (.cons (.var 0) .nil)) (.con (.int 2))) (.call ci [false, false, false] (.cons (.idx (.var 0) (.con (.int 1))) (.cons (.con (.int 0)) (.cons (.con (.int 1)) .nil)))))) .nil) .nil) (.cons (.ite (.or (.kin true kinds (.idx (.var 0) (.con (.int 0)))) (.bin .ne (.prim .len (.cons (.var 0) .nil)) (.bin .add (.con (.int 1)) (.kix kinds (.idx (.var 0) (.con (.int 0))))))) (.cons (.ret (.con (.bl false))) .nil) .nil) (.cons (.ret (.call cr [false, false, false] (.cons (.sli true false (.var 0) (.con (.int 1)) (.con .non)) (.cons (.con (.int 0)) (.cons (.bin .sub (.var 1) (.con (.int 1))) .nil))))) .nil))))
def allE (cg : Nat) : E := .comp [8, 9] (.tp [8, 9]) (.enum (.var 3)) (.con (.bl true)) (.yld (.call cg [false, false] (.cons (.var 9) (.cons (.bin .add (.var 6) (.var 8)) .nil))))
def isSs (ci cr cg : Nat) : Ss := (.cons (.ite (.or (.not (.prim .isTuple (.cons (.var 0) .nil))) (.or (.bin .ne (.prim .len (.cons (.var 0) .nil)) (.con (.int 5))) (.not (.call ci [false, false, false] (.cons (.idx (.var 0) (.con (.int 0))) (.cons (.con (.int 0)) (.cons (.con (.int 6)) .nil))))))) (.cons (.ret (.con (.bl false))) .nil) .nil) (.cons (.asg (.tp [1, 2, 3, 4, 5]) (.var 0)) (.cons (.ite (.or (.not (.call cr [false, false, false] (.cons (.var 2) (.cons (.con (.int 0)) (.cons (.con (.int 1)) .nil))))) (.bin .gt (.prim .len (.cons (.var 2) .nil)) (.con (.int 5)))) (.cons (.ret (.con (.bl false))) .nil) .nil) (.cons (.ite (.or (.not (.prim .isTuple (.cons (.var 3) .nil))) (.bin .gt (.prim .len (.cons (.var 3) .nil)) (.con (.int 48)))) (.cons (.ret (.con (.bl false))) .nil) .nil) (.cons (.asg (.nm 6) (.bin .add (.var 1) (.prim .len (.cons (.var 2) .nil)))) (.cons (.ite (.not (.prim .all (.cons (allE cg) .nil))) (.cons (.ret (.con (.bl false))) .nil) .nil) (.cons (.asg (.nm 7) (.bin .add (.var 6) (.prim .len (.cons (.var 3) .nil)))) (.cons (.ite (.or (.not (.call cr [false, false, false] (.cons (.var 4) (.cons (.con (.int 0)) (.cons (.bin .sub (.var 7) (.con (.int 1))) .nil))))) (.bin .ne (.prim .len (.cons (.var 4) .nil)) (.prim .len (.cons (.var 2) .nil)))) (.cons (.ret (.con (.bl false))) .nil) .nil) (.cons (.ret (.and (.call cr [false, false, false] (.cons (.var 5) (.cons (.con (.int 0)) (.cons (.bin .sub (.var 7) (.con (.int 1))) .nil)))) (.chn .le .le (.con (.int 1)) (.prim .len (.cons (.var 5) .nil)) (.con (.int 6))))) .nil)))))))))
def ckSs (cc : Nat) : Ss := (.cons (.ite (.not (.call cc [false] (.cons (.var 0) .nil))) (.cons .nvr .nil) .nil) (.cons (.ret (.var 0)) .nil))
def chkSs (cc : Nat) : Ss := (.cons (.ite (.not (.call cc [false] (.cons (.var 0) .nil))) (.cons .nvr .nil) .nil) .nil)
/-- where is_integer, is_row, is_gate, is_circuit lie -/
structure CkT (T : List Fd) (ci cr cg cc : Nat) : Prop where
  t0 : T[ci]? = some ⟨3, 3, intSs⟩
  t1 : T[cr]? = some ⟨4, 3, rowSs ci⟩
  t2 : T[cg]? = some ⟨2, 2, gateSs ci cr⟩
  t3 : T[cc]? = some ⟨10, 1, isSs ci cr cg⟩
section
variable {T : List Fd} {ci cr cg cc : Nat}
theorem int_fn (tk : CkT T ci cr cg cc) {wf k : Nat} {x lo hi : Int} (h0 : lo ≤ x) (h1 : x ≤ hi) : callN T wf (k + 1) ci [.fz (.int x), .fz (.int lo), .fz (.int hi)] = .rt false (.bl true) [] := by
  rw [callN_eq tk.t0 rfl rfl]
  show outOf _ (evSs (callN T wf k) wf intSs [.fz (.int x), .fz (.int lo), .fz (.int hi)]) = _
  simp [evSs, evS, G.ev, evTs, evBs, evCs, evPs, evI, evQ, Res.bind, Res.sr, SR.seq, ofO, ofS, force, forces, Sl.get, ixN, bop, uop, RV.new, RV.held, D.sh, D.shs, D.ok, D.eqv, D.eqvs, truthOf, D.truth, G.take, setL, getL, ownL, reown, asgT, G.prim, isInts, G.elems, G.items, itemsR, walkB, retR, outOf, iosOf, noOw, fzAt, plainSl_some, pln_un, pln_fz, G.lock, G.unlock, G.back, wipeE, SR.unl, G.guard, argsS, argS, apart, slotOf, putBack, G.chk, outR, mutD, rangeOf, optI, G.slc, at3_0, at3_1, at3_2, at3_3, so_const, so_not, so_and, so_or, so_xor, so_pick, idx_tup, q1, q2, q3, q4, q5, q6, q7, q8, q9, q10, q11, q12, q13, q14, q15, idx_lst, cut1_1, cut1_2, cut1_3, -beq_eq_false_iff_ne, -beq_iff_eq, intSs, h0, h1]
theorem all_tt {xs : List D} : prim .all [.lst (xs.map fun _ => .bl true)] = some (.bl true) := by
  have h : isBls (xs.map fun _ => D.bl true) = some (xs.map fun _ => true) := by
    induction xs with
    | nil => rfl
    | cons x xs ih => rw [List.map_cons, isBls, ih]; rfl
  show (isBls (xs.map fun _ => D.bl true)).map (fun bs => D.bl (bs.all id)) = _
  rw [h, Option.map_some]
  congr 2
  rw [List.all_map]
  exact List.all_eq_true.mpr fun _ _ => rfl
theorem all_ev {F : Fn} {ρ : Ev} {e : E} {xs : List D} (h : ev F e ρ = .ok (.own (.lst (xs.map fun _ => .bl true))) ρ) : ev F (.prim .all (.cons e .nil)) ρ = .ok (.val (.bl true)) ρ := by
  rw [ev, evBs, h]
  show ofO (((some [D.lst (xs.map fun _ => .bl true)]).bind (prim .all)).map RV.new) ρ = _
  rw [Option.bind_some, all_tt]
  rfl
theorem row_fn (tk : CkT T ci cr cg cc) {wf k : Nat} {xs : List Int} {lo hi : Int} (h : ∀ x ∈ xs, lo ≤ x ∧ x ≤ hi) (hz : xs.length ≤ 1000) : callN T wf (k + 2) cr [.fz (iT xs), .fz (.int lo), .fz (.int hi)] = .rt false (.bl true) [] := by
  rw [callN_eq tk.t1 rfl rfl]
  show outOf _ (evSs (callN T wf (k + 1)) wf (rowSs ci) [.fz (iT xs), .fz (.int lo), .fz (.int hi), .un]) = _
  have e := comp1 (F := callN T wf (k + 1)) (v := 3) (it := .val (.var 0)) (c := .con (.bl true)) (e := .call ci [false, false, false] (.cons (.var 3) (.cons (.var 1) (.cons (.var 2) .nil)))) (ρ := [.fz (iT xs), .fz (.int lo), .fz (.int hi), .un]) (x := .un) (rs := [.slot 0]) (xs := xs.map .int) (p := fun _ => true) (f := fun _ => .bl true)
    rfl rfl rfl rfl rfl rfl (fun d _ => ⟨.val (.bl true), rfl, rfl⟩)
    (fun d hd _ => by
      obtain ⟨x, hx, rfl⟩ := List.mem_map.mp hd
      have ei := int_fn tk (wf := wf) (k := k) (h x hx).1 (h x hx).2
      refine ⟨.val (.bl true), ?_, rfl⟩
      show ev _ _ [.fz (iT xs), .fz (.int lo), .fz (.int hi), .fz (.int x)] = .ok _ [.fz (iT xs), .fz (.int lo), .fz (.int hi), .fz (.int x)]
      generalize iT xs = xd
      simp [evSs, evS, G.ev, evTs, evBs, evCs, evPs, evI, evQ, Res.bind, Res.sr, SR.seq, ofO, ofS, force, forces, Sl.get, ixN, bop, uop, RV.new, RV.held, D.sh, D.shs, D.ok, D.eqv, D.eqvs, truthOf, D.truth, G.take, setL, getL, ownL, reown, asgT, G.prim, isInts, G.elems, G.items, itemsR, walkB, retR, outOf, iosOf, noOw, fzAt, plainSl_some, pln_un, pln_fz, G.lock, G.unlock, G.back, wipeE, SR.unl, G.guard, argsS, argS, apart, slotOf, putBack, G.chk, outR, mutD, rangeOf, optI, G.slc, at3_0, at3_1, at3_2, at3_3, so_const, so_not, so_and, so_or, so_xor, so_pick, idx_tup, q1, q2, q3, q4, q5, q6, q7, q8, q9, q10, q11, q12, q13, q14, q15, idx_lst, cut1_1, cut1_2, cut1_3, -beq_eq_false_iff_ne, -beq_iff_eq, ei])
    (by rw [List.length_map]; exact hz)
  rw [filter_tt] at e
  have ea := all_ev e
  have hr : evSs (callN T wf (k + 1)) wf (rowSs ci) [.fz (iT xs), .fz (.int lo), .fz (.int hi), .un] = .rt false (.bl true) [.fz (iT xs), .fz (.int lo), .fz (.int hi), .un] := by
    unfold rowSs rowE
    refine ss_ret ?_
    rw [evS, and_tt (a := .prim .isTuple (.cons (.var 0) .nil)) rfl ea]
    rfl
  rw [hr]
  rfl
theorem lk1 : List.lookup ("not" : Str) kinds = some (.int 1) := by kernel_rfl
theorem lk2 : List.lookup ("and" : Str) kinds = some (.int 2) := by kernel_rfl
theorem lk3 : List.lookup ("or" : Str) kinds = some (.int 2) := by kernel_rfl
theorem lk4 : List.lookup ("xor" : Str) kinds = some (.int 2) := by kernel_rfl
theorem lk5 : List.lookup ("pick" : Str) kinds = some (.int 3) := by kernel_rfl
theorem gate_fn (tk : CkT T ci cr cg cc) {wf k : Nat} {g : Gt} {n : Int} (h : g.ok n) : callN T wf (k + 3) cg [.fz g.d, .fz (.int n)] = .rt false (.bl true) [] := by
  rw [callN_eq tk.t2 rfl rfl]
  show outOf _ (evSs (callN T wf (k + 2)) wf (gateSs ci cr) [.fz g.d, .fz (.int n)]) = _
  cases g with
  | const b =>
    have ei := int_fn tk (wf := wf) (k := k + 1) (x := b) (lo := 0) (hi := 1) (by simp only [Gt.ok] at h; omega) (by simp only [Gt.ok] at h; omega)
    simp [evSs, evS, G.ev, evTs, evBs, evCs, evPs, evI, evQ, Res.bind, Res.sr, SR.seq, ofO, ofS, force, forces, Sl.get, ixN, bop, uop, RV.new, RV.held, D.sh, D.shs, D.ok, D.eqv, D.eqvs, truthOf, D.truth, G.take, setL, getL, ownL, reown, asgT, G.prim, isInts, G.elems, G.items, itemsR, walkB, retR, outOf, iosOf, noOw, fzAt, plainSl_some, pln_un, pln_fz, G.lock, G.unlock, G.back, wipeE, SR.unl, G.guard, argsS, argS, apart, slotOf, putBack, G.chk, outR, mutD, rangeOf, optI, G.slc, at3_0, at3_1, at3_2, at3_3, so_const, so_not, so_and, so_or, so_xor, so_pick, idx_tup, q1, q2, q3, q4, q5, q6, q7, q8, q9, q10, q11, q12, q13, q14, q15, idx_lst, cut1_1, cut1_2, cut1_3, -beq_eq_false_iff_ne, -beq_iff_eq, gateSs, Gt.d, ei]
  | not a =>
    have er := row_fn tk (wf := wf) (k := k) (xs := [a]) (lo := 0) (hi := n - 1) (fun x hx => by simp only [Gt.ok] at h; simp [evSs, evS, G.ev, evTs, evBs, evCs, evPs, evI, evQ, Res.bind, Res.sr, SR.seq, ofO, ofS, force, forces, Sl.get, ixN, bop, uop, RV.new, RV.held, D.sh, D.shs, D.ok, D.eqv, D.eqvs, truthOf, D.truth, G.take, setL, getL, ownL, reown, asgT, G.prim, isInts, G.elems, G.items, itemsR, walkB, retR, outOf, iosOf, noOw, fzAt, plainSl_some, pln_un, pln_fz, G.lock, G.unlock, G.back, wipeE, SR.unl, G.guard, argsS, argS, apart, slotOf, putBack, G.chk, outR, mutD, rangeOf, optI, G.slc, at3_0, at3_1, at3_2, at3_3, so_const, so_not, so_and, so_or, so_xor, so_pick, idx_tup, q1, q2, q3, q4, q5, q6, q7, q8, q9, q10, q11, q12, q13, q14, q15, idx_lst, cut1_1, cut1_2, cut1_3, -beq_eq_false_iff_ne, -beq_iff_eq] at hx; omega) (by simp [evSs, evS, G.ev, evTs, evBs, evCs, evPs, evI, evQ, Res.bind, Res.sr, SR.seq, ofO, ofS, force, forces, Sl.get, ixN, bop, uop, RV.new, RV.held, D.sh, D.shs, D.ok, D.eqv, D.eqvs, truthOf, D.truth, G.take, setL, getL, ownL, reown, asgT, G.prim, isInts, G.elems, G.items, itemsR, walkB, retR, outOf, iosOf, noOw, fzAt, plainSl_some, pln_un, pln_fz, G.lock, G.unlock, G.back, wipeE, SR.unl, G.guard, argsS, argS, apart, slotOf, putBack, G.chk, outR, mutD, rangeOf, optI, G.slc, at3_0, at3_1, at3_2, at3_3, so_const, so_not, so_and, so_or, so_xor, so_pick, idx_tup, q1, q2, q3, q4, q5, q6, q7, q8, q9, q10, q11, q12, q13, q14, q15, idx_lst, cut1_1, cut1_2, cut1_3, -beq_eq_false_iff_ne, -beq_iff_eq])
    simp [evSs, evS, G.ev, evTs, evBs, evCs, evPs, evI, evQ, Res.bind, Res.sr, SR.seq, ofO, ofS, force, forces, Sl.get, ixN, bop, uop, RV.new, RV.held, D.sh, D.shs, D.ok, D.eqv, D.eqvs, truthOf, D.truth, G.take, setL, getL, ownL, reown, asgT, G.prim, isInts, G.elems, G.items, itemsR, walkB, retR, outOf, iosOf, noOw, fzAt, plainSl_some, pln_un, pln_fz, G.lock, G.unlock, G.back, wipeE, SR.unl, G.guard, argsS, argS, apart, slotOf, putBack, G.chk, outR, mutD, rangeOf, optI, G.slc, at3_0, at3_1, at3_2, at3_3, so_const, so_not, so_and, so_or, so_xor, so_pick, idx_tup, q1, q2, q3, q4, q5, q6, q7, q8, q9, q10, q11, q12, q13, q14, q15, idx_lst, cut1_1, cut1_2, cut1_3, -beq_eq_false_iff_ne, -beq_iff_eq, iT] at er
    simp [evSs, evS, G.ev, evTs, evBs, evCs, evPs, evI, evQ, Res.bind, Res.sr, SR.seq, ofO, ofS, force, forces, Sl.get, ixN, bop, uop, RV.new, RV.held, D.sh, D.shs, D.ok, D.eqv, D.eqvs, truthOf, D.truth, G.take, setL, getL, ownL, reown, asgT, G.prim, isInts, G.elems, G.items, itemsR, walkB, retR, outOf, iosOf, noOw, fzAt, plainSl_some, pln_un, pln_fz, G.lock, G.unlock, G.back, wipeE, SR.unl, G.guard, argsS, argS, apart, slotOf, putBack, G.chk, outR, mutD, rangeOf, optI, G.slc, at3_0, at3_1, at3_2, at3_3, so_const, so_not, so_and, so_or, so_xor, so_pick, idx_tup, q1, q2, q3, q4, q5, q6, q7, q8, q9, q10, q11, q12, q13, q14, q15, idx_lst, cut1_1, cut1_2, cut1_3, -beq_eq_false_iff_ne, -beq_iff_eq, gateSs, Gt.d, lk1, er]
  | and a b =>
    have er := row_fn tk (wf := wf) (k := k) (xs := [a, b]) (lo := 0) (hi := n - 1) (fun x hx => by simp only [Gt.ok] at h; simp [evSs, evS, G.ev, evTs, evBs, evCs, evPs, evI, evQ, Res.bind, Res.sr, SR.seq, ofO, ofS, force, forces, Sl.get, ixN, bop, uop, RV.new, RV.held, D.sh, D.shs, D.ok, D.eqv, D.eqvs, truthOf, D.truth, G.take, setL, getL, ownL, reown, asgT, G.prim, isInts, G.elems, G.items, itemsR, walkB, retR, outOf, iosOf, noOw, fzAt, plainSl_some, pln_un, pln_fz, G.lock, G.unlock, G.back, wipeE, SR.unl, G.guard, argsS, argS, apart, slotOf, putBack, G.chk, outR, mutD, rangeOf, optI, G.slc, at3_0, at3_1, at3_2, at3_3, so_const, so_not, so_and, so_or, so_xor, so_pick, idx_tup, q1, q2, q3, q4, q5, q6, q7, q8, q9, q10, q11, q12, q13, q14, q15, idx_lst, cut1_1, cut1_2, cut1_3, -beq_eq_false_iff_ne, -beq_iff_eq] at hx; omega) (by simp [evSs, evS, G.ev, evTs, evBs, evCs, evPs, evI, evQ, Res.bind, Res.sr, SR.seq, ofO, ofS, force, forces, Sl.get, ixN, bop, uop, RV.new, RV.held, D.sh, D.shs, D.ok, D.eqv, D.eqvs, truthOf, D.truth, G.take, setL, getL, ownL, reown, asgT, G.prim, isInts, G.elems, G.items, itemsR, walkB, retR, outOf, iosOf, noOw, fzAt, plainSl_some, pln_un, pln_fz, G.lock, G.unlock, G.back, wipeE, SR.unl, G.guard, argsS, argS, apart, slotOf, putBack, G.chk, outR, mutD, rangeOf, optI, G.slc, at3_0, at3_1, at3_2, at3_3, so_const, so_not, so_and, so_or, so_xor, so_pick, idx_tup, q1, q2, q3, q4, q5, q6, q7, q8, q9, q10, q11, q12, q13, q14, q15, idx_lst, cut1_1, cut1_2, cut1_3, -beq_eq_false_iff_ne, -beq_iff_eq])
    simp [evSs, evS, G.ev, evTs, evBs, evCs, evPs, evI, evQ, Res.bind, Res.sr, SR.seq, ofO, ofS, force, forces, Sl.get, ixN, bop, uop, RV.new, RV.held, D.sh, D.shs, D.ok, D.eqv, D.eqvs, truthOf, D.truth, G.take, setL, getL, ownL, reown, asgT, G.prim, isInts, G.elems, G.items, itemsR, walkB, retR, outOf, iosOf, noOw, fzAt, plainSl_some, pln_un, pln_fz, G.lock, G.unlock, G.back, wipeE, SR.unl, G.guard, argsS, argS, apart, slotOf, putBack, G.chk, outR, mutD, rangeOf, optI, G.slc, at3_0, at3_1, at3_2, at3_3, so_const, so_not, so_and, so_or, so_xor, so_pick, idx_tup, q1, q2, q3, q4, q5, q6, q7, q8, q9, q10, q11, q12, q13, q14, q15, idx_lst, cut1_1, cut1_2, cut1_3, -beq_eq_false_iff_ne, -beq_iff_eq, iT] at er
    simp [evSs, evS, G.ev, evTs, evBs, evCs, evPs, evI, evQ, Res.bind, Res.sr, SR.seq, ofO, ofS, force, forces, Sl.get, ixN, bop, uop, RV.new, RV.held, D.sh, D.shs, D.ok, D.eqv, D.eqvs, truthOf, D.truth, G.take, setL, getL, ownL, reown, asgT, G.prim, isInts, G.elems, G.items, itemsR, walkB, retR, outOf, iosOf, noOw, fzAt, plainSl_some, pln_un, pln_fz, G.lock, G.unlock, G.back, wipeE, SR.unl, G.guard, argsS, argS, apart, slotOf, putBack, G.chk, outR, mutD, rangeOf, optI, G.slc, at3_0, at3_1, at3_2, at3_3, so_const, so_not, so_and, so_or, so_xor, so_pick, idx_tup, q1, q2, q3, q4, q5, q6, q7, q8, q9, q10, q11, q12, q13, q14, q15, idx_lst, cut1_1, cut1_2, cut1_3, -beq_eq_false_iff_ne, -beq_iff_eq, gateSs, Gt.d, lk2, er]
  | or a b =>
    have er := row_fn tk (wf := wf) (k := k) (xs := [a, b]) (lo := 0) (hi := n - 1) (fun x hx => by simp only [Gt.ok] at h; simp [evSs, evS, G.ev, evTs, evBs, evCs, evPs, evI, evQ, Res.bind, Res.sr, SR.seq, ofO, ofS, force, forces, Sl.get, ixN, bop, uop, RV.new, RV.held, D.sh, D.shs, D.ok, D.eqv, D.eqvs, truthOf, D.truth, G.take, setL, getL, ownL, reown, asgT, G.prim, isInts, G.elems, G.items, itemsR, walkB, retR, outOf, iosOf, noOw, fzAt, plainSl_some, pln_un, pln_fz, G.lock, G.unlock, G.back, wipeE, SR.unl, G.guard, argsS, argS, apart, slotOf, putBack, G.chk, outR, mutD, rangeOf, optI, G.slc, at3_0, at3_1, at3_2, at3_3, so_const, so_not, so_and, so_or, so_xor, so_pick, idx_tup, q1, q2, q3, q4, q5, q6, q7, q8, q9, q10, q11, q12, q13, q14, q15, idx_lst, cut1_1, cut1_2, cut1_3, -beq_eq_false_iff_ne, -beq_iff_eq] at hx; omega) (by simp [evSs, evS, G.ev, evTs, evBs, evCs, evPs, evI, evQ, Res.bind, Res.sr, SR.seq, ofO, ofS, force, forces, Sl.get, ixN, bop, uop, RV.new, RV.held, D.sh, D.shs, D.ok, D.eqv, D.eqvs, truthOf, D.truth, G.take, setL, getL, ownL, reown, asgT, G.prim, isInts, G.elems, G.items, itemsR, walkB, retR, outOf, iosOf, noOw, fzAt, plainSl_some, pln_un, pln_fz, G.lock, G.unlock, G.back, wipeE, SR.unl, G.guard, argsS, argS, apart, slotOf, putBack, G.chk, outR, mutD, rangeOf, optI, G.slc, at3_0, at3_1, at3_2, at3_3, so_const, so_not, so_and, so_or, so_xor, so_pick, idx_tup, q1, q2, q3, q4, q5, q6, q7, q8, q9, q10, q11, q12, q13, q14, q15, idx_lst, cut1_1, cut1_2, cut1_3, -beq_eq_false_iff_ne, -beq_iff_eq])
    simp [evSs, evS, G.ev, evTs, evBs, evCs, evPs, evI, evQ, Res.bind, Res.sr, SR.seq, ofO, ofS, force, forces, Sl.get, ixN, bop, uop, RV.new, RV.held, D.sh, D.shs, D.ok, D.eqv, D.eqvs, truthOf, D.truth, G.take, setL, getL, ownL, reown, asgT, G.prim, isInts, G.elems, G.items, itemsR, walkB, retR, outOf, iosOf, noOw, fzAt, plainSl_some, pln_un, pln_fz, G.lock, G.unlock, G.back, wipeE, SR.unl, G.guard, argsS, argS, apart, slotOf, putBack, G.chk, outR, mutD, rangeOf, optI, G.slc, at3_0, at3_1, at3_2, at3_3, so_const, so_not, so_and, so_or, so_xor, so_pick, idx_tup, q1, q2, q3, q4, q5, q6, q7, q8, q9, q10, q11, q12, q13, q14, q15, idx_lst, cut1_1, cut1_2, cut1_3, -beq_eq_false_iff_ne, -beq_iff_eq, iT] at er
    simp [evSs, evS, G.ev, evTs, evBs, evCs, evPs, evI, evQ, Res.bind, Res.sr, SR.seq, ofO, ofS, force, forces, Sl.get, ixN, bop, uop, RV.new, RV.held, D.sh, D.shs, D.ok, D.eqv, D.eqvs, truthOf, D.truth, G.take, setL, getL, ownL, reown, asgT, G.prim, isInts, G.elems, G.items, itemsR, walkB, retR, outOf, iosOf, noOw, fzAt, plainSl_some, pln_un, pln_fz, G.lock, G.unlock, G.back, wipeE, SR.unl, G.guard, argsS, argS, apart, slotOf, putBack, G.chk, outR, mutD, rangeOf, optI, G.slc, at3_0, at3_1, at3_2, at3_3, so_const, so_not, so_and, so_or, so_xor, so_pick, idx_tup, q1, q2, q3, q4, q5, q6, q7, q8, q9, q10, q11, q12, q13, q14, q15, idx_lst, cut1_1, cut1_2, cut1_3, -beq_eq_false_iff_ne, -beq_iff_eq, gateSs, Gt.d, lk3, er]
  | xor a b =>
    have er := row_fn tk (wf := wf) (k := k) (xs := [a, b]) (lo := 0) (hi := n - 1) (fun x hx => by simp only [Gt.ok] at h; simp [evSs, evS, G.ev, evTs, evBs, evCs, evPs, evI, evQ, Res.bind, Res.sr, SR.seq, ofO, ofS, force, forces, Sl.get, ixN, bop, uop, RV.new, RV.held, D.sh, D.shs, D.ok, D.eqv, D.eqvs, truthOf, D.truth, G.take, setL, getL, ownL, reown, asgT, G.prim, isInts, G.elems, G.items, itemsR, walkB, retR, outOf, iosOf, noOw, fzAt, plainSl_some, pln_un, pln_fz, G.lock, G.unlock, G.back, wipeE, SR.unl, G.guard, argsS, argS, apart, slotOf, putBack, G.chk, outR, mutD, rangeOf, optI, G.slc, at3_0, at3_1, at3_2, at3_3, so_const, so_not, so_and, so_or, so_xor, so_pick, idx_tup, q1, q2, q3, q4, q5, q6, q7, q8, q9, q10, q11, q12, q13, q14, q15, idx_lst, cut1_1, cut1_2, cut1_3, -beq_eq_false_iff_ne, -beq_iff_eq] at hx; omega) (by simp [evSs, evS, G.ev, evTs, evBs, evCs, evPs, evI, evQ, Res.bind, Res.sr, SR.seq, ofO, ofS, force, forces, Sl.get, ixN, bop, uop, RV.new, RV.held, D.sh, D.shs, D.ok, D.eqv, D.eqvs, truthOf, D.truth, G.take, setL, getL, ownL, reown, asgT, G.prim, isInts, G.elems, G.items, itemsR, walkB, retR, outOf, iosOf, noOw, fzAt, plainSl_some, pln_un, pln_fz, G.lock, G.unlock, G.back, wipeE, SR.unl, G.guard, argsS, argS, apart, slotOf, putBack, G.chk, outR, mutD, rangeOf, optI, G.slc, at3_0, at3_1, at3_2, at3_3, so_const, so_not, so_and, so_or, so_xor, so_pick, idx_tup, q1, q2, q3, q4, q5, q6, q7, q8, q9, q10, q11, q12, q13, q14, q15, idx_lst, cut1_1, cut1_2, cut1_3, -beq_eq_false_iff_ne, -beq_iff_eq])
    simp [evSs, evS, G.ev, evTs, evBs, evCs, evPs, evI, evQ, Res.bind, Res.sr, SR.seq, ofO, ofS, force, forces, Sl.get, ixN, bop, uop, RV.new, RV.held, D.sh, D.shs, D.ok, D.eqv, D.eqvs, truthOf, D.truth, G.take, setL, getL, ownL, reown, asgT, G.prim, isInts, G.elems, G.items, itemsR, walkB, retR, outOf, iosOf, noOw, fzAt, plainSl_some, pln_un, pln_fz, G.lock, G.unlock, G.back, wipeE, SR.unl, G.guard, argsS, argS, apart, slotOf, putBack, G.chk, outR, mutD, rangeOf, optI, G.slc, at3_0, at3_1, at3_2, at3_3, so_const, so_not, so_and, so_or, so_xor, so_pick, idx_tup, q1, q2, q3, q4, q5, q6, q7, q8, q9, q10, q11, q12, q13, q14, q15, idx_lst, cut1_1, cut1_2, cut1_3, -beq_eq_false_iff_ne, -beq_iff_eq, iT] at er
    simp [evSs, evS, G.ev, evTs, evBs, evCs, evPs, evI, evQ, Res.bind, Res.sr, SR.seq, ofO, ofS, force, forces, Sl.get, ixN, bop, uop, RV.new, RV.held, D.sh, D.shs, D.ok, D.eqv, D.eqvs, truthOf, D.truth, G.take, setL, getL, ownL, reown, asgT, G.prim, isInts, G.elems, G.items, itemsR, walkB, retR, outOf, iosOf, noOw, fzAt, plainSl_some, pln_un, pln_fz, G.lock, G.unlock, G.back, wipeE, SR.unl, G.guard, argsS, argS, apart, slotOf, putBack, G.chk, outR, mutD, rangeOf, optI, G.slc, at3_0, at3_1, at3_2, at3_3, so_const, so_not, so_and, so_or, so_xor, so_pick, idx_tup, q1, q2, q3, q4, q5, q6, q7, q8, q9, q10, q11, q12, q13, q14, q15, idx_lst, cut1_1, cut1_2, cut1_3, -beq_eq_false_iff_ne, -beq_iff_eq, gateSs, Gt.d, lk4, er]
  | pick a b c =>
    have er := row_fn tk (wf := wf) (k := k) (xs := [a, b, c]) (lo := 0) (hi := n - 1) (fun x hx => by simp only [Gt.ok] at h; simp [evSs, evS, G.ev, evTs, evBs, evCs, evPs, evI, evQ, Res.bind, Res.sr, SR.seq, ofO, ofS, force, forces, Sl.get, ixN, bop, uop, RV.new, RV.held, D.sh, D.shs, D.ok, D.eqv, D.eqvs, truthOf, D.truth, G.take, setL, getL, ownL, reown, asgT, G.prim, isInts, G.elems, G.items, itemsR, walkB, retR, outOf, iosOf, noOw, fzAt, plainSl_some, pln_un, pln_fz, G.lock, G.unlock, G.back, wipeE, SR.unl, G.guard, argsS, argS, apart, slotOf, putBack, G.chk, outR, mutD, rangeOf, optI, G.slc, at3_0, at3_1, at3_2, at3_3, so_const, so_not, so_and, so_or, so_xor, so_pick, idx_tup, q1, q2, q3, q4, q5, q6, q7, q8, q9, q10, q11, q12, q13, q14, q15, idx_lst, cut1_1, cut1_2, cut1_3, -beq_eq_false_iff_ne, -beq_iff_eq] at hx; omega) (by simp [evSs, evS, G.ev, evTs, evBs, evCs, evPs, evI, evQ, Res.bind, Res.sr, SR.seq, ofO, ofS, force, forces, Sl.get, ixN, bop, uop, RV.new, RV.held, D.sh, D.shs, D.ok, D.eqv, D.eqvs, truthOf, D.truth, G.take, setL, getL, ownL, reown, asgT, G.prim, isInts, G.elems, G.items, itemsR, walkB, retR, outOf, iosOf, noOw, fzAt, plainSl_some, pln_un, pln_fz, G.lock, G.unlock, G.back, wipeE, SR.unl, G.guard, argsS, argS, apart, slotOf, putBack, G.chk, outR, mutD, rangeOf, optI, G.slc, at3_0, at3_1, at3_2, at3_3, so_const, so_not, so_and, so_or, so_xor, so_pick, idx_tup, q1, q2, q3, q4, q5, q6, q7, q8, q9, q10, q11, q12, q13, q14, q15, idx_lst, cut1_1, cut1_2, cut1_3, -beq_eq_false_iff_ne, -beq_iff_eq])
    simp [evSs, evS, G.ev, evTs, evBs, evCs, evPs, evI, evQ, Res.bind, Res.sr, SR.seq, ofO, ofS, force, forces, Sl.get, ixN, bop, uop, RV.new, RV.held, D.sh, D.shs, D.ok, D.eqv, D.eqvs, truthOf, D.truth, G.take, setL, getL, ownL, reown, asgT, G.prim, isInts, G.elems, G.items, itemsR, walkB, retR, outOf, iosOf, noOw, fzAt, plainSl_some, pln_un, pln_fz, G.lock, G.unlock, G.back, wipeE, SR.unl, G.guard, argsS, argS, apart, slotOf, putBack, G.chk, outR, mutD, rangeOf, optI, G.slc, at3_0, at3_1, at3_2, at3_3, so_const, so_not, so_and, so_or, so_xor, so_pick, idx_tup, q1, q2, q3, q4, q5, q6, q7, q8, q9, q10, q11, q12, q13, q14, q15, idx_lst, cut1_1, cut1_2, cut1_3, -beq_eq_false_iff_ne, -beq_iff_eq, iT] at er
    simp [evSs, evS, G.ev, evTs, evBs, evCs, evPs, evI, evQ, Res.bind, Res.sr, SR.seq, ofO, ofS, force, forces, Sl.get, ixN, bop, uop, RV.new, RV.held, D.sh, D.shs, D.ok, D.eqv, D.eqvs, truthOf, D.truth, G.take, setL, getL, ownL, reown, asgT, G.prim, isInts, G.elems, G.items, itemsR, walkB, retR, outOf, iosOf, noOw, fzAt, plainSl_some, pln_un, pln_fz, G.lock, G.unlock, G.back, wipeE, SR.unl, G.guard, argsS, argS, apart, slotOf, putBack, G.chk, outR, mutD, rangeOf, optI, G.slc, at3_0, at3_1, at3_2, at3_3, so_const, so_not, so_and, so_or, so_xor, so_pick, idx_tup, q1, q2, q3, q4, q5, q6, q7, q8, q9, q10, q11, q12, q13, q14, q15, idx_lst, cut1_1, cut1_2, cut1_3, -beq_eq_false_iff_ne, -beq_iff_eq, gateSs, Gt.d, lk5, er]
theorem enumD_mem {ds : List D} {d : D} (h : d ∈ enumD 0 ds) : ∃ (i : Nat) (g : D), ds[i]? = some g ∧ d = .tup [.int (i : Nat), g] := by
  obtain ⟨i, hi⟩ := List.getElem?_of_mem h
  rw [enumD_at] at hi
  obtain ⟨g, e, rfl⟩ := Option.map_eq_some_iff.mp hi
  exact ⟨i, g, e, by rw [Nat.zero_add]⟩
theorem is_core {F : Fn} {ci cr cg : Nat} {wf : Nat} {inp : Int} {sd gd nd od : List D} (i0 : F ci [.fz (.int inp), .fz (.int 0), .fz (.int 6)] = .rt false (.bl true) []) (r1 : F cr [.fz (.tup sd), .fz (.int 0), .fz (.int 1)] = .rt false (.bl true) []) (hs : sd.length ≤ 5) (hg : gd.length ≤ 48)
    (rg : ∀ (i : Nat) (g : D), gd[i]? = some g → F cg [.fz g, .fz (.int (inp + (sd.length : Int) + (i : Nat)))] = .rt false (.bl true) []) (r2 : F cr [.fz (.tup nd), .fz (.int 0), .fz (.int (inp + (sd.length : Int) + (gd.length : Int) - 1))] = .rt false (.bl true) []) (hn : nd.length = sd.length)
    (r3 : F cr [.fz (.tup od), .fz (.int 0), .fz (.int (inp + (sd.length : Int) + (gd.length : Int) - 1))] = .rt false (.bl true) []) (ho : 1 ≤ od.length ∧ od.length ≤ 6) :
    ∃ ρ, evSs F wf (isSs ci cr cg) [.fz (.tup [.int inp, .tup sd, .tup gd, .tup nd, .tup od]), .un, .un, .un, .un, .un, .un, .un, .un, .un] = .rt false (.bl true) (.fz (.tup [.int inp, .tup sd, .tup gd, .tup nd, .tup od]) :: ρ) := by
  generalize hc : D.tup [.int inp, .tup sd, .tup gd, .tup nd, .tup od] = cd
  have c0 : idx cd (.int 0) = some (.int inp) := by subst hc; simp [evSs, evS, G.ev, evTs, evBs, evCs, evPs, evI, evQ, Res.bind, Res.sr, SR.seq, ofO, ofS, force, forces, Sl.get, ixN, bop, uop, RV.new, RV.held, D.sh, D.shs, D.ok, D.eqv, D.eqvs, truthOf, D.truth, G.take, setL, getL, ownL, reown, asgT, G.prim, isInts, G.elems, G.items, itemsR, walkB, retR, outOf, iosOf, noOw, fzAt, plainSl_some, pln_un, pln_fz, G.lock, G.unlock, G.back, wipeE, SR.unl, G.guard, argsS, argS, apart, slotOf, putBack, G.chk, outR, mutD, rangeOf, optI, G.slc, at3_0, at3_1, at3_2, at3_3, so_const, so_not, so_and, so_or, so_xor, so_pick, idx_tup, q1, q2, q3, q4, q5, q6, q7, q8, q9, q10, q11, q12, q13, q14, q15, idx_lst, cut1_1, cut1_2, cut1_3, -beq_eq_false_iff_ne, -beq_iff_eq]
  have ct : prim .isTuple [cd] = some (.bl true) := by subst hc; rfl
  have cl : prim .len [cd] = some (.int 5) := by subst hc; rfl
  have ce : elems cd = some [.int inp, .tup sd, .tup gd, .tup nd, .tup od] := by subst hc; rfl
  have s1 : evS F wf (.ite (.or (.not (.prim .isTuple (.cons (.var 0) .nil))) (.or (.bin .ne (.prim .len (.cons (.var 0) .nil)) (.con (.int 5))) (.not (.call ci [false, false, false] (.cons (.idx (.var 0) (.con (.int 0))) (.cons (.con (.int 0)) (.cons (.con (.int 6)) .nil))))))) (.cons (.ret (.con (.bl false))) .nil) .nil) [.fz cd, .un, .un, .un, .un, .un, .un, .un, .un, .un] = .nx [.fz cd, .un, .un, .un, .un, .un, .un, .un, .un, .un] := by
    simp [evSs, evS, G.ev, evTs, evBs, evCs, evPs, evI, evQ, Res.bind, Res.sr, SR.seq, ofO, ofS, force, forces, Sl.get, ixN, bop, uop, RV.new, RV.held, D.sh, D.shs, D.ok, D.eqv, D.eqvs, truthOf, D.truth, G.take, setL, getL, ownL, reown, asgT, isInts, G.elems, G.items, itemsR, walkB, retR, outOf, iosOf, noOw, fzAt, plainSl_some, pln_un, pln_fz, G.lock, G.unlock, G.back, wipeE, SR.unl, G.guard, argsS, argS, apart, slotOf, putBack, G.chk, outR, mutD, rangeOf, optI, G.slc, at3_0, at3_1, at3_2, at3_3, so_const, so_not, so_and, so_or, so_xor, so_pick, idx_tup, q1, q2, q3, q4, q5, q6, q7, q8, q9, q10, q11, q12, q13, q14, q15, idx_lst, cut1_1, cut1_2, cut1_3, -beq_eq_false_iff_ne, -beq_iff_eq, ct, cl, c0, i0]
  have s2 : evS F wf (.asg (.tp [1, 2, 3, 4, 5]) (.var 0)) [.fz cd, .un, .un, .un, .un, .un, .un, .un, .un, .un] = .nx [.fz cd, .fz (.int inp), .fz (.tup sd), .fz (.tup gd), .fz (.tup nd), .fz (.tup od), .un, .un, .un, .un] := by
    simp [evSs, evS, G.ev, evTs, evBs, evCs, evPs, evI, evQ, Res.bind, Res.sr, SR.seq, ofO, ofS, force, forces, Sl.get, ixN, bop, uop, RV.new, RV.held, D.sh, D.shs, D.ok, D.eqv, D.eqvs, truthOf, D.truth, G.take, setL, getL, ownL, reown, asgT, G.prim, isInts, G.items, itemsR, walkB, retR, outOf, iosOf, noOw, fzAt, plainSl_some, pln_un, pln_fz, G.lock, G.unlock, G.back, wipeE, SR.unl, G.guard, argsS, argS, apart, slotOf, putBack, G.chk, outR, mutD, rangeOf, optI, G.slc, at3_0, at3_1, at3_2, at3_3, so_const, so_not, so_and, so_or, so_xor, so_pick, idx_tup, q1, q2, q3, q4, q5, q6, q7, q8, q9, q10, q11, q12, q13, q14, q15, idx_lst, cut1_1, cut1_2, cut1_3, -beq_eq_false_iff_ne, -beq_iff_eq, ce, setAll, setS]
  have s3 : evS F wf (.ite (.or (.not (.call cr [false, false, false] (.cons (.var 2) (.cons (.con (.int 0)) (.cons (.con (.int 1)) .nil))))) (.bin .gt (.prim .len (.cons (.var 2) .nil)) (.con (.int 5)))) (.cons (.ret (.con (.bl false))) .nil) .nil) [.fz cd, .fz (.int inp), .fz (.tup sd), .fz (.tup gd), .fz (.tup nd), .fz (.tup od), .un, .un, .un, .un] = .nx [.fz cd, .fz (.int inp), .fz (.tup sd), .fz (.tup gd), .fz (.tup nd), .fz (.tup od), .un, .un, .un, .un] := by
    have h : ¬ (5 : Int) < (sd.length : Int) := by omega
    simp [evSs, evS, G.ev, evTs, evBs, evCs, evPs, evI, evQ, Res.bind, Res.sr, SR.seq, ofO, ofS, force, forces, Sl.get, ixN, bop, uop, RV.new, RV.held, D.sh, D.shs, D.ok, D.eqv, D.eqvs, truthOf, D.truth, G.take, setL, getL, ownL, reown, asgT, G.prim, isInts, G.elems, G.items, itemsR, walkB, retR, outOf, iosOf, noOw, fzAt, plainSl_some, pln_un, pln_fz, G.lock, G.unlock, G.back, wipeE, SR.unl, G.guard, argsS, argS, apart, slotOf, putBack, G.chk, outR, mutD, rangeOf, optI, G.slc, at3_0, at3_1, at3_2, at3_3, so_const, so_not, so_and, so_or, so_xor, so_pick, idx_tup, q1, q2, q3, q4, q5, q6, q7, q8, q9, q10, q11, q12, q13, q14, q15, idx_lst, cut1_1, cut1_2, cut1_3, -beq_eq_false_iff_ne, -beq_iff_eq, r1, h]
  have s4 : evS F wf (.ite (.or (.not (.prim .isTuple (.cons (.var 3) .nil))) (.bin .gt (.prim .len (.cons (.var 3) .nil)) (.con (.int 48)))) (.cons (.ret (.con (.bl false))) .nil) .nil) [.fz cd, .fz (.int inp), .fz (.tup sd), .fz (.tup gd), .fz (.tup nd), .fz (.tup od), .un, .un, .un, .un] = .nx [.fz cd, .fz (.int inp), .fz (.tup sd), .fz (.tup gd), .fz (.tup nd), .fz (.tup od), .un, .un, .un, .un] := by
    have h : ¬ (48 : Int) < (gd.length : Int) := by omega
    simp [evSs, evS, G.ev, evTs, evBs, evCs, evPs, evI, evQ, Res.bind, Res.sr, SR.seq, ofO, ofS, force, forces, Sl.get, ixN, bop, uop, RV.new, RV.held, D.sh, D.shs, D.ok, D.eqv, D.eqvs, truthOf, D.truth, G.take, setL, getL, ownL, reown, asgT, G.prim, isInts, G.elems, G.items, itemsR, walkB, retR, outOf, iosOf, noOw, fzAt, plainSl_some, pln_un, pln_fz, G.lock, G.unlock, G.back, wipeE, SR.unl, G.guard, argsS, argS, apart, slotOf, putBack, G.chk, outR, mutD, rangeOf, optI, G.slc, at3_0, at3_1, at3_2, at3_3, so_const, so_not, so_and, so_or, so_xor, so_pick, idx_tup, q1, q2, q3, q4, q5, q6, q7, q8, q9, q10, q11, q12, q13, q14, q15, idx_lst, cut1_1, cut1_2, cut1_3, -beq_eq_false_iff_ne, -beq_iff_eq, h]
  have s5 : evS F wf (.asg (.nm 6) (.bin .add (.var 1) (.prim .len (.cons (.var 2) .nil)))) [.fz cd, .fz (.int inp), .fz (.tup sd), .fz (.tup gd), .fz (.tup nd), .fz (.tup od), .un, .un, .un, .un] = .nx [.fz cd, .fz (.int inp), .fz (.tup sd), .fz (.tup gd), .fz (.tup nd), .fz (.tup od), .fz (.int (inp + (sd.length : Int))), .un, .un, .un] := by
    simp [evSs, evS, G.ev, evTs, evBs, evCs, evPs, evI, evQ, Res.bind, Res.sr, SR.seq, ofO, ofS, force, forces, Sl.get, ixN, bop, uop, RV.new, RV.held, D.sh, D.shs, D.ok, D.eqv, D.eqvs, truthOf, D.truth, G.take, setL, getL, ownL, reown, asgT, G.prim, isInts, G.elems, G.items, itemsR, walkB, retR, outOf, iosOf, noOw, fzAt, plainSl_some, pln_un, pln_fz, G.lock, G.unlock, G.back, wipeE, SR.unl, G.guard, argsS, argS, apart, slotOf, putBack, G.chk, outR, mutD, rangeOf, optI, G.slc, at3_0, at3_1, at3_2, at3_3, so_const, so_not, so_and, so_or, so_xor, so_pick, idx_tup, q1, q2, q3, q4, q5, q6, q7, q8, q9, q10, q11, q12, q13, q14, q15, idx_lst, cut1_1, cut1_2, cut1_3, -beq_eq_false_iff_ne, -beq_iff_eq, setS]
  have e6 := comp2 (F := F) (i := 8) (j := 9) (it := .enum (.var 3)) (c := .con (.bl true)) (e := .call cg [false, false] (.cons (.var 9) (.cons (.bin .add (.var 6) (.var 8)) .nil))) (ρ := [.fz cd, .fz (.int inp), .fz (.tup sd), .fz (.tup gd), .fz (.tup nd), .fz (.tup od), .fz (.int (inp + (sd.length : Int))), .un, .un, .un]) (x := .un) (y := .un) (rs := [.slot 3]) (xs := enumD 0 gd) (p := fun _ => true) (f := fun _ => .bl true) (by decide)
    rfl rfl rfl rfl rfl rfl rfl rfl rfl
    (fun d hd => by
      obtain ⟨i, g, hg2, rfl⟩ := enumD_mem hd
      refine ⟨_, _, rfl, ⟨.val (.bl true), rfl, rfl⟩, fun _ => ⟨.val (.bl true), ?_, rfl⟩⟩
      have e := rg i g hg2
      show ev _ _ [.fz cd, .fz (.int inp), .fz (.tup sd), .fz (.tup gd), .fz (.tup nd), .fz (.tup od), .fz (.int (inp + (sd.length : Int))), .un, .fz (.int (i : Nat)), .fz g] = .ok _ [.fz cd, .fz (.int inp), .fz (.tup sd), .fz (.tup gd), .fz (.tup nd), .fz (.tup od), .fz (.int (inp + (sd.length : Int))), .un, .fz (.int (i : Nat)), .fz g]
      simp [evSs, evS, G.ev, evTs, evBs, evCs, evPs, evI, evQ, Res.bind, Res.sr, SR.seq, ofO, ofS, force, forces, Sl.get, ixN, bop, uop, RV.new, RV.held, D.sh, D.shs, D.ok, D.eqv, D.eqvs, truthOf, D.truth, G.take, setL, getL, ownL, reown, asgT, G.prim, isInts, G.elems, G.items, itemsR, walkB, retR, outOf, iosOf, noOw, fzAt, plainSl_some, pln_un, pln_fz, G.lock, G.unlock, G.back, wipeE, SR.unl, G.guard, argsS, argS, apart, slotOf, putBack, G.chk, outR, mutD, rangeOf, optI, G.slc, at3_0, at3_1, at3_2, at3_3, so_const, so_not, so_and, so_or, so_xor, so_pick, idx_tup, q1, q2, q3, q4, q5, q6, q7, q8, q9, q10, q11, q12, q13, q14, q15, idx_lst, cut1_1, cut1_2, cut1_3, -beq_eq_false_iff_ne, -beq_iff_eq, e])
    (by rw [enumD_len]; omega)
  rw [filter_tt] at e6
  have e6 := all_ev e6
  have s6 : evS F wf (.ite (.not (.prim .all (.cons (allE cg) .nil))) (.cons (.ret (.con (.bl false))) .nil) .nil) [.fz cd, .fz (.int inp), .fz (.tup sd), .fz (.tup gd), .fz (.tup nd), .fz (.tup od), .fz (.int (inp + (sd.length : Int))), .un, .un, .un] = .nx [.fz cd, .fz (.int inp), .fz (.tup sd), .fz (.tup gd), .fz (.tup nd), .fz (.tup od), .fz (.int (inp + (sd.length : Int))), .un, .un, .un] := by
    unfold allE
    generalize (E.prim .all (.cons (.comp [8, 9] (.tp [8, 9]) (.enum (.var 3)) (.con (.bl true)) (.yld (.call cg [false, false] (.cons (.var 9) (.cons (.bin .add (.var 6) (.var 8)) .nil))))) .nil)) = ae at e6 ⊢
    simp [evSs, evS, G.ev, evTs, evBs, evCs, evPs, evI, evQ, Res.bind, Res.sr, SR.seq, ofO, ofS, force, forces, Sl.get, ixN, bop, uop, RV.new, RV.held, D.sh, D.shs, D.ok, D.eqv, D.eqvs, truthOf, D.truth, G.take, setL, getL, ownL, reown, asgT, G.prim, isInts, G.elems, G.items, itemsR, walkB, retR, outOf, iosOf, noOw, fzAt, plainSl_some, pln_un, pln_fz, G.lock, G.unlock, G.back, wipeE, SR.unl, G.guard, argsS, argS, apart, slotOf, putBack, G.chk, outR, mutD, rangeOf, optI, G.slc, at3_0, at3_1, at3_2, at3_3, so_const, so_not, so_and, so_or, so_xor, so_pick, idx_tup, q1, q2, q3, q4, q5, q6, q7, q8, q9, q10, q11, q12, q13, q14, q15, idx_lst, cut1_1, cut1_2, cut1_3, -beq_eq_false_iff_ne, -beq_iff_eq, e6]
  have s7 : evS F wf (.asg (.nm 7) (.bin .add (.var 6) (.prim .len (.cons (.var 3) .nil)))) [.fz cd, .fz (.int inp), .fz (.tup sd), .fz (.tup gd), .fz (.tup nd), .fz (.tup od), .fz (.int (inp + (sd.length : Int))), .un, .un, .un] = .nx [.fz cd, .fz (.int inp), .fz (.tup sd), .fz (.tup gd), .fz (.tup nd), .fz (.tup od), .fz (.int (inp + (sd.length : Int))), .fz (.int (inp + (sd.length : Int) + (gd.length : Int))), .un, .un] := by
    simp [evSs, evS, G.ev, evTs, evBs, evCs, evPs, evI, evQ, Res.bind, Res.sr, SR.seq, ofO, ofS, force, forces, Sl.get, ixN, bop, uop, RV.new, RV.held, D.sh, D.shs, D.ok, D.eqv, D.eqvs, truthOf, D.truth, G.take, setL, getL, ownL, reown, asgT, G.prim, isInts, G.elems, G.items, itemsR, walkB, retR, outOf, iosOf, noOw, fzAt, plainSl_some, pln_un, pln_fz, G.lock, G.unlock, G.back, wipeE, SR.unl, G.guard, argsS, argS, apart, slotOf, putBack, G.chk, outR, mutD, rangeOf, optI, G.slc, at3_0, at3_1, at3_2, at3_3, so_const, so_not, so_and, so_or, so_xor, so_pick, idx_tup, q1, q2, q3, q4, q5, q6, q7, q8, q9, q10, q11, q12, q13, q14, q15, idx_lst, cut1_1, cut1_2, cut1_3, -beq_eq_false_iff_ne, -beq_iff_eq, setS]
  generalize inp + (sd.length : Int) + (gd.length : Int) = many at r2 r3 s7
  have s8 : evS F wf (.ite (.or (.not (.call cr [false, false, false] (.cons (.var 4) (.cons (.con (.int 0)) (.cons (.bin .sub (.var 7) (.con (.int 1))) .nil))))) (.bin .ne (.prim .len (.cons (.var 4) .nil)) (.prim .len (.cons (.var 2) .nil)))) (.cons (.ret (.con (.bl false))) .nil) .nil) [.fz cd, .fz (.int inp), .fz (.tup sd), .fz (.tup gd), .fz (.tup nd), .fz (.tup od), .fz (.int (inp + (sd.length : Int))), .fz (.int many), .un, .un] = .nx [.fz cd, .fz (.int inp), .fz (.tup sd), .fz (.tup gd), .fz (.tup nd), .fz (.tup od), .fz (.int (inp + (sd.length : Int))), .fz (.int many), .un, .un] := by
    simp [evSs, evS, G.ev, evTs, evBs, evCs, evPs, evI, evQ, Res.bind, Res.sr, SR.seq, ofO, ofS, force, forces, Sl.get, ixN, bop, uop, RV.new, RV.held, D.sh, D.shs, D.ok, D.eqv, D.eqvs, truthOf, D.truth, G.take, setL, getL, ownL, reown, asgT, G.prim, isInts, G.elems, G.items, itemsR, walkB, retR, outOf, iosOf, noOw, fzAt, plainSl_some, pln_un, pln_fz, G.lock, G.unlock, G.back, wipeE, SR.unl, G.guard, argsS, argS, apart, slotOf, putBack, G.chk, outR, mutD, rangeOf, optI, G.slc, at3_0, at3_1, at3_2, at3_3, so_const, so_not, so_and, so_or, so_xor, so_pick, idx_tup, q1, q2, q3, q4, q5, q6, q7, q8, q9, q10, q11, q12, q13, q14, q15, idx_lst, cut1_1, cut1_2, cut1_3, -beq_eq_false_iff_ne, -beq_iff_eq, r2, hn]
  have s9 : evS F wf (.ret (.and (.call cr [false, false, false] (.cons (.var 5) (.cons (.con (.int 0)) (.cons (.bin .sub (.var 7) (.con (.int 1))) .nil)))) (.chn .le .le (.con (.int 1)) (.prim .len (.cons (.var 5) .nil)) (.con (.int 6))))) [.fz cd, .fz (.int inp), .fz (.tup sd), .fz (.tup gd), .fz (.tup nd), .fz (.tup od), .fz (.int (inp + (sd.length : Int))), .fz (.int many), .un, .un] = .rt false (.bl true) [.fz cd, .fz (.int inp), .fz (.tup sd), .fz (.tup gd), .fz (.tup nd), .fz (.tup od), .fz (.int (inp + (sd.length : Int))), .fz (.int many), .un, .un] := by
    have h1 : (1 : Int) ≤ (od.length : Int) := by omega
    have h2 : (od.length : Int) ≤ 6 := by omega
    have h3 : 1 ≤ od.length := ho.1
    have h4 : od.length ≤ 6 := ho.2
    generalize hl : od.length = l at h1 h2 h3 h4
    simp [evSs, evS, G.ev, evTs, evBs, evCs, evPs, evI, evQ, Res.bind, Res.sr, SR.seq, ofO, ofS, force, forces, Sl.get, ixN, bop, uop, RV.new, RV.held, D.sh, D.shs, D.ok, D.eqv, D.eqvs, truthOf, D.truth, G.take, setL, getL, ownL, reown, asgT, G.prim, isInts, G.elems, G.items, itemsR, walkB, retR, outOf, iosOf, noOw, fzAt, plainSl_some, pln_un, pln_fz, G.lock, G.unlock, G.back, wipeE, SR.unl, G.guard, argsS, argS, apart, slotOf, putBack, G.chk, outR, mutD, rangeOf, optI, G.slc, at3_0, at3_1, at3_2, at3_3, so_const, so_not, so_and, so_or, so_xor, so_pick, idx_tup, q1, q2, q3, q4, q5, q6, q7, q8, q9, q10, q11, q12, q13, q14, q15, idx_lst, cut1_1, cut1_2, cut1_3, -beq_eq_false_iff_ne, -beq_iff_eq, r3, hl, h1, h2]
  exact ⟨_, (ss_step s1).trans ((ss_step s2).trans ((ss_step s3).trans ((ss_step s4).trans ((ss_step s5).trans ((ss_step s6).trans ((ss_step s7).trans ((ss_step s8).trans (ss_ret s9))))))))⟩
/-- within the bounds -/
structure Fit (c : Circ) : Prop where
  inp : c.inp ≤ 6
  st : c.st.length ≤ 5
  gs : c.gs.length ≤ 48
  o1 : 1 ≤ c.ou.length
  o6 : c.ou.length ≤ 6
theorem is_fn (tk : CkT T ci cr cg cc) {wf k : Nat} {c : Circ} (hc : CircOk c) (hf : Fit c) : callN T wf (k + 4) cc [.fz c.d] = .rt false (.bl true) [] := by
  have hm : c.many = c.inp + (((c.st.map D.int).length : Nat) : Int) + (((c.gs.map Gt.d).length : Nat) : Int) := by rw [List.length_map, List.length_map]; rfl
  obtain ⟨ρ, e⟩ := is_core (F := callN T wf (k + 3)) (wf := wf) (inp := c.inp) (sd := c.st.map .int) (gd := c.gs.map Gt.d) (nd := c.nx.map .int) (od := c.ou.map .int) (int_fn tk (k := k + 2) hc.inp hf.inp)
    (row_fn tk (k := k + 1) (xs := c.st) (fun x hx => by have := hc.st x hx; omega) (by have := hf.st; omega)) (by rw [List.length_map]; exact hf.st) (by rw [List.length_map]; exact hf.gs)
    (fun i g hg => by
      rw [List.getElem?_map] at hg
      obtain ⟨g', e, rfl⟩ := Option.map_eq_some_iff.mp hg
      rw [List.length_map]
      exact gate_fn tk (k := k) (hc.gs i g' e))
    (by rw [← hm]; exact row_fn tk (k := k + 1) (xs := c.nx) (fun x hx => by have := hc.nx x hx; omega) (by have := hc.nl; have := hf.st; omega))
    (by rw [List.length_map, List.length_map]; exact hc.nl)
    (by rw [← hm]; exact row_fn tk (k := k + 1) (xs := c.ou) (fun x hx => by have := hc.ou x hx; omega) (by have := hf.o6; omega))
    (by rw [List.length_map]; exact ⟨hf.o1, hf.o6⟩)
  rw [callN_eq tk.t3 rfl rfl]
  show outOf [.fz c.d] (evSs (callN T wf (k + 3)) wf (isSs ci cr cg) [.fz (.tup [.int c.inp, .tup (c.st.map .int), .tup (c.gs.map Gt.d), .tup (c.nx.map .int), .tup (c.ou.map .int)]), .un, .un, .un, .un, .un, .un, .un, .un, .un]) = _
  rw [e]
  rfl
theorem checked_fn {kk : Nat} (tk : CkT T ci cr cg cc) (t9 : T[kk]? = some ⟨1, 1, ckSs cc⟩) {wf k : Nat} {c : Circ} (hc : CircOk c) (hf : Fit c) : callN T wf (k + 5) kk [.fz c.d] = .rt false c.d [] := by
  have e := is_fn tk (wf := wf) (k := k) hc hf
  rw [callN_eq t9 rfl rfl]
  show outOf [.fz c.d] (evSs (callN T wf (k + 4)) wf (ckSs cc) [.fz c.d]) = _
  generalize c.d = cd at e
  simp [evSs, evS, G.ev, evTs, evBs, evCs, evPs, evI, evQ, Res.bind, Res.sr, SR.seq, ofO, ofS, force, forces, Sl.get, ixN, bop, uop, RV.new, RV.held, D.sh, D.shs, D.ok, D.eqv, D.eqvs, truthOf, D.truth, G.take, setL, getL, ownL, reown, asgT, G.prim, isInts, G.elems, G.items, itemsR, walkB, retR, outOf, iosOf, noOw, fzAt, plainSl_some, pln_un, pln_fz, G.lock, G.unlock, G.back, wipeE, SR.unl, G.guard, argsS, argS, apart, slotOf, putBack, G.chk, outR, mutD, rangeOf, optI, G.slc, at3_0, at3_1, at3_2, at3_3, so_const, so_not, so_and, so_or, so_xor, so_pick, idx_tup, q1, q2, q3, q4, q5, q6, q7, q8, q9, q10, q11, q12, q13, q14, q15, idx_lst, cut1_1, cut1_2, cut1_3, -beq_eq_false_iff_ne, -beq_iff_eq, ckSs, e]
theorem chk_fn {wf k kk : Nat} {c : Circ} (tk : CkT T ci cr cg cc) (t9 : T[kk]? = some ⟨1, 1, chkSs cc⟩) (hc : CircOk c) (hf : Fit c) : callN T wf (k + 5) kk [.fz c.d] = .rt false .non [] := by
  have e := is_fn tk (wf := wf) (k := k) hc hf
  rw [callN_eq t9 rfl rfl]
  show outOf [.fz c.d] (evSs (callN T wf (k + 4)) wf (chkSs cc) [.fz c.d]) = _
  generalize c.d = cd at e
  simp [evSs, evS, G.ev, evTs, evBs, evCs, evPs, evI, evQ, Res.bind, Res.sr, SR.seq, ofO, ofS, force, forces, Sl.get, ixN, bop, uop, RV.new, RV.held, D.sh, D.shs, D.ok, D.eqv, D.eqvs, truthOf, D.truth, G.take, setL, getL, ownL, reown, asgT, G.prim, isInts, G.elems, G.items, itemsR, walkB, retR, outOf, iosOf, noOw, fzAt, plainSl_some, pln_un, pln_fz, G.lock, G.unlock, G.back, wipeE, SR.unl, G.guard, argsS, argS, apart, slotOf, putBack, G.chk, outR, mutD, rangeOf, optI, G.slc, at3_0, at3_1, at3_2, at3_3, so_const, so_not, so_and, so_or, so_xor, so_pick, idx_tup, q1, q2, q3, q4, q5, q6, q7, q8, q9, q10, q11, q12, q13, q14, q15, idx_lst, cut1_1, cut1_2, cut1_3, -beq_eq_false_iff_ne, -beq_iff_eq, chkSs, e]
end
end G
end

section
set_option Elab.async false
set_option linter.all false
set_option maxRecDepth 100000
set_option maxHeartbeats 4000000
/-! P10: steps, runs, states (from k59). -/
namespace G
open PySem PySem.Spec PyProof.Rows L2
def pickE (m : Int) : E := .prim .tuple (.cons (.comp [4] (.nm 4) (.val (.idx (.var 0) (.con (.int m)))) (.con (.bl true)) (.yld (.idx (.var 3) (.var 4)))) .nil)
def stepSs (v : Nat) : Ss := .cons (.asg (.nm 3) (.call v [false, false, false] (.cons (.var 0) (.cons (.var 1) (.cons (.var 2) .nil))))) (.cons (.ret (.tup (.cons (pickE 4) (.cons (pickE 3) .nil)))) .nil)
def stB (v : Nat) : Ss := .cons (.exp (.mut .append 2 (.cons (.idx (.call v [false, false, false] (.cons (.var 0) (.cons (.idx (.var 2) (.un .neg (.con (.int 1)))) (.cons (.var 3) .nil)))) (.con (.int 1))) .nil))) .nil
def runB (v : Nat) : Ss := .cons (.asg (.tp [5, 2]) (.call v [false, false, false] (.cons (.var 0) (.cons (.var 2) (.cons (.var 4) .nil))))) (.cons (.exp (.mut .append 3 (.cons (.var 5) .nil))) .nil)
def runSs (v : Nat) : Ss := .cons (.asg (.nm 2) (.idx (.var 0) (.con (.int 1)))) (.cons (.asg (.nm 3) (.lst .nil)) (.cons (.for (.nm 4) (.val (.var 1)) (runB v)) (.cons (.ret (.prim .tuple (.cons (.var 3) .nil))) .nil)))
def lrunSs (v : Nat) : Ss := .cons (.par [2, 3] (.cons (.idx (.var 0) (.con (.int 1))) (.cons (.lst .nil) .nil))) (.cons (.for (.nm 4) (.val (.var 1)) (runB v)) (.cons (.ret (.prim .tuple (.cons (.var 3) .nil))) .nil))
def stSs (v : Nat) : Ss := .cons (.asg (.nm 2) (.lst (.cons (.idx (.var 0) (.con (.int 1))) .nil))) (.cons (.for (.nm 3) (.val (.var 1)) (stB v)) (.cons (.ret (.prim .tuple (.cons (.var 2) .nil))) .nil))
def stepF (c : Circ) (st lt : List Int) : List Int × List Int := (c.ou.map (bv (valsF c.gs (lt ++ st))), c.nx.map (bv (valsF c.gs (lt ++ st))))
theorem map_ints {xs : List Int} {f : D → D} {g : Int → Int} (h : ∀ x, f (.int x) = .int (g x)) : (xs.map D.int).map f = (xs.map g).map .int := by
  rw [List.map_map, List.map_map]
  exact List.map_congr_left fun x _ => h x
theorem pick_ev {F : Fn} {cd bd : D} {a1 a2 s3 : Sl} {m : Int} {zs bits : List Int} (h3 : s3 = .fz bd ∨ s3 = .ow bd) (hb : BitsD bd bits) (hm : idx cd (.int m) = some (iT zs)) (hz : ∀ x ∈ zs, 0 ≤ x ∧ x < bits.length) (hl : zs.length ≤ 1000) :
    ev F (pickE m) [.fz cd, a1, a2, s3, .un] = .ok (.val (iT (zs.map (bv bits)))) [.fz cd, a1, a2, s3, .un] := by
  have e := comp1 (F := F) (v := 4) (it := .val (.idx (.var 0) (.con (.int m)))) (c := .con (.bl true)) (e := .idx (.var 3) (.var 4)) (ρ := [.fz cd, a1, a2, s3, .un]) (x := .un) (rs := [.val (iT zs)]) (xs := zs.map .int) (p := fun _ => true) (f := fun d => match d with | .int s => .int (bv bits s) | _ => .non)
    (by
      unfold iT at hm ⊢
      generalize zs.map D.int = zd at hm ⊢
      simp [evSs, evS, G.ev, evTs, evBs, evCs, evPs, evI, evQ, Res.bind, Res.sr, SR.seq, ofO, ofS, force, forces, Sl.get, ixN, bop, uop, RV.new, RV.held, D.sh, D.shs, D.ok, D.eqv, D.eqvs, truthOf, D.truth, G.take, setL, getL, ownL, reown, asgT, G.prim, isInts, G.elems, G.items, itemsR, walkB, retR, outOf, iosOf, noOw, fzAt, plainSl_some, pln_un, pln_fz, G.lock, G.unlock, G.back, wipeE, SR.unl, G.guard, argsS, argS, apart, slotOf, putBack, G.chk, outR, mutD, rangeOf, optI, G.slc, at3_0, at3_1, at3_2, at3_3, so_const, so_not, so_and, so_or, so_xor, so_pick, idx_tup, q1, q2, q3, q4, q5, q6, q7, q8, q9, q10, q11, q12, q13, q14, q15, idx_lst, cut1_1, cut1_2, cut1_3, -beq_eq_false_iff_ne, -beq_iff_eq, hm]) rfl rfl rfl rfl rfl (fun d _ => ⟨.val (.bl true), rfl, rfl⟩)
    (fun d hd _ => by
      obtain ⟨x, hx, rfl⟩ := List.mem_map.mp hd
      have hr := hz x hx
      have ei := idx_bits hb hr.1 hr.2
      refine ⟨.val (.int (bv bits x)), ?_, rfl⟩
      show ev _ _ [.fz cd, a1, a2, s3, .fz (.int x)] = .ok _ [.fz cd, a1, a2, s3, .fz (.int x)]
      rcases h3 with rfl | rfl <;> simp [evSs, evS, G.ev, evTs, evBs, evCs, evPs, evI, evQ, Res.bind, Res.sr, SR.seq, ofO, ofS, force, forces, Sl.get, ixN, bop, uop, RV.new, RV.held, D.sh, D.shs, D.ok, D.eqv, D.eqvs, truthOf, D.truth, G.take, setL, getL, ownL, reown, asgT, G.prim, isInts, G.elems, G.items, itemsR, walkB, retR, outOf, iosOf, noOw, fzAt, plainSl_some, pln_un, pln_fz, G.lock, G.unlock, G.back, wipeE, SR.unl, G.guard, argsS, argS, apart, slotOf, putBack, G.chk, outR, mutD, rangeOf, optI, G.slc, at3_0, at3_1, at3_2, at3_3, so_const, so_not, so_and, so_or, so_xor, so_pick, idx_tup, q1, q2, q3, q4, q5, q6, q7, q8, q9, q10, q11, q12, q13, q14, q15, idx_lst, cut1_1, cut1_2, cut1_3, -beq_eq_false_iff_ne, -beq_iff_eq, ei])
    (by rw [List.length_map]; exact hl)
  rw [filter_tt, map_ints (g := bv bits) (fun _ => rfl)] at e
  exact ev_tuple e
/-- what a step is asked -/
structure StOk (c : Circ) (st lt : List Int) : Prop where
  ck : CircOk c
  gl : c.gs.length ≤ 100
  ol : c.ou.length ≤ 100
  sb : Bits st
  sl : st.length = c.st.length
  lb : Bits lt
  ll : (lt.length : Int) = c.inp
  sm : c.inp + c.st.length ≤ 100
section
variable {c : Circ} {st lt : List Int}
theorem StOk.b (h : StOk c st lt) : Bits (lt ++ st) := fun x hx => (List.mem_append.mp hx).elim (h.lb x) (h.sb x)
theorem StOk.n (h : StOk c st lt) : (((lt ++ st).length : Nat) : Int) = c.inp + c.st.length := by
  rw [List.length_append]
  have := h.ll
  have := h.sl
  push_cast
  omega
theorem StOk.g (h : StOk c st lt) : GatesOk ((lt ++ st).length : Nat) c.gs := by rw [h.n]; exact h.ck.gs
theorem StOk.vl (h : StOk c st lt) : ((valsF c.gs (lt ++ st)).length : Int) = c.many := by
  rw [valsF_len]
  have := h.n
  unfold Circ.many
  push_cast
  omega
theorem StOk.vb (h : StOk c st lt) : Bits (valsF c.gs (lt ++ st)) := by
  have := valsF_bits rfl h.b h.g c.gs.length (Nat.le_refl _)
  rwa [List.take_length] at this
theorem StOk.out (h : StOk c st lt) : Bits (stepF c st lt).1 ∧ (stepF c st lt).1.length = c.ou.length ∧ Bits (stepF c st lt).2 ∧ (stepF c st lt).2.length = c.st.length := by
  have hv := h.vl
  refine ⟨fun x hx => ?_, by unfold stepF; rw [List.length_map], fun x hx => ?_, by unfold stepF; rw [List.length_map]; exact h.ck.nl⟩
  · obtain ⟨a, ha, rfl⟩ := List.mem_map.mp hx
    have := h.ck.ou a ha
    exact bv_bit h.vb this.1 (by omega)
  · obtain ⟨a, ha, rfl⟩ := List.mem_map.mp hx
    have := h.ck.nx a ha
    exact bv_bit h.vb this.1 (by omega)
theorem StOk.sz (h : StOk c st lt) : (lt ++ st).length + c.gs.length < 1000 := by
  have := h.n
  have := h.sm
  have := h.gl
  omega
theorem step_core {F : Fn} {wf v : Nat} {bd : D} {o : Bool} (h : StOk c st lt) (hv : F v [.fz c.d, .fz (iT st), .fz (iT lt)] = .rt o bd []) (hb : BitsD bd (valsF c.gs (lt ++ st))) :
    ∃ s3, evSs F wf (stepSs v) [.fz c.d, .fz (iT st), .fz (iT lt), .un, .un] = .rt false (.tup [iT (stepF c st lt).1, iT (stepF c st lt).2]) [.fz c.d, .fz (iT st), .fz (iT lt), s3, .un] := by
  have hvl := h.vl
  have h4 := ci4 (c := c)
  have h3 := ci3 (c := c)
  have hs : evS F wf (.asg (.nm 3) (.call v [false, false, false] (.cons (.var 0) (.cons (.var 1) (.cons (.var 2) .nil))))) [.fz c.d, .fz (iT st), .fz (iT lt), .un, .un] = .nx [.fz c.d, .fz (iT st), .fz (iT lt), (if o then .ow bd else .fz bd), .un] := by
    generalize c.d = cd at hv
    generalize iT st = sd at hv
    generalize iT lt = ld at hv
    cases o <;> simp [evSs, evS, G.ev, evTs, evBs, evCs, evPs, evI, evQ, Res.bind, Res.sr, SR.seq, ofO, ofS, force, forces, Sl.get, ixN, bop, uop, RV.new, RV.held, D.sh, D.shs, D.ok, D.eqv, D.eqvs, truthOf, D.truth, G.take, setL, getL, ownL, reown, asgT, G.prim, isInts, G.elems, G.items, itemsR, walkB, retR, outOf, iosOf, noOw, fzAt, plainSl_some, pln_un, pln_fz, G.lock, G.unlock, G.back, wipeE, SR.unl, G.guard, argsS, argS, apart, slotOf, putBack, G.chk, outR, mutD, rangeOf, optI, G.slc, at3_0, at3_1, at3_2, at3_3, so_const, so_not, so_and, so_or, so_xor, so_pick, idx_tup, q1, q2, q3, q4, q5, q6, q7, q8, q9, q10, q11, q12, q13, q14, q15, idx_lst, cut1_1, cut1_2, cut1_3, -beq_eq_false_iff_ne, -beq_iff_eq, hv, setS]
  have hs3 : (if o then Sl.ow bd else .fz bd) = .fz bd ∨ (if o then Sl.ow bd else .fz bd) = .ow bd := by cases o <;> simp [evSs, evS, G.ev, evTs, evBs, evCs, evPs, evI, evQ, Res.bind, Res.sr, SR.seq, ofO, ofS, force, forces, Sl.get, ixN, bop, uop, RV.new, RV.held, D.sh, D.shs, D.ok, D.eqv, D.eqvs, truthOf, D.truth, G.take, setL, getL, ownL, reown, asgT, G.prim, isInts, G.elems, G.items, itemsR, walkB, retR, outOf, iosOf, noOw, fzAt, plainSl_some, pln_un, pln_fz, G.lock, G.unlock, G.back, wipeE, SR.unl, G.guard, argsS, argS, apart, slotOf, putBack, G.chk, outR, mutD, rangeOf, optI, G.slc, at3_0, at3_1, at3_2, at3_3, so_const, so_not, so_and, so_or, so_xor, so_pick, idx_tup, q1, q2, q3, q4, q5, q6, q7, q8, q9, q10, q11, q12, q13, q14, q15, idx_lst, cut1_1, cut1_2, cut1_3, -beq_eq_false_iff_ne, -beq_iff_eq]
  have p1 := pick_ev (F := F) (cd := c.d) (a1 := .fz (iT st)) (a2 := .fz (iT lt)) (m := 4) hs3 hb h4 (fun x hx => by have := h.ck.ou x hx; omega) (by have := h.ol; omega)
  have p2 := pick_ev (F := F) (cd := c.d) (a1 := .fz (iT st)) (a2 := .fz (iT lt)) (m := 3) hs3 hb h3 (fun x hx => by have := h.ck.nx x hx; omega) (by have := h.ck.nl; have := h.sm; have := h.ck.inp; omega)
  refine ⟨if o then .ow bd else .fz bd, (ss_step hs).trans (ss_ret ?_)⟩
  unfold stepF
  generalize pickE 4 = e4 at p1 ⊢
  generalize pickE 3 = e3 at p2 ⊢
  rw [evS, ev, evTs, p1]
  show Res.sr (Res.bind (Res.bind (evTs F (.cons e3 .nil) _) _) _) _ = _
  rw [evTs, p2]
  rfl
theorem step_fn {T : List Fd} {wf k vi vs v : Nat} (t4 : T[vi]? = some ⟨3, 2, valueSs⟩) (t5 : T[vs]? = some ⟨5, 3, valuesSs vi⟩) (t6 : T[v]? = some ⟨5, 3, stepSs vs⟩) (h : StOk c st lt) : callN T wf (k + 3) v [.fz c.d, .fz (iT st), .fz (iT lt)] = .rt false (.tup [iT (stepF c st lt).1, iT (stepF c st lt).2]) [] := by
  have hv : callN T wf (k + 2) vs [.fz c.d, .fz (iT st), .fz (iT lt)] = .rt false (iT (valsF c.gs (lt ++ st))) [] := values_fn (wf := wf) (k := k) (vi := vi) (vs := vs) t4 t5 (x0 := .int c.inp) (x1 := iT c.st) (x3 := iT c.nx) (x4 := iT c.ou) h.b h.g (by have := h.sz; omega)
  obtain ⟨s3, e⟩ := step_core (wf := wf) h hv (.inl rfl)
  rw [callN_eq t6 rfl rfl]
  show outOf _ (evSs (callN T wf (k + 2)) wf (stepSs vs) [.fz c.d, .fz (iT st), .fz (iT lt), .un, .un]) = _
  rw [e]
  rfl
theorem lstep_fn {T : List Fd} {wf k vs v : Nat} (t23 : T[vs]? = some ⟨8, 3, lvSs⟩) (t24 : T[v]? = some ⟨5, 3, stepSs vs⟩) (h : StOk c st lt) : callN T wf (k + 3) v [.fz c.d, .fz (iT st), .fz (iT lt)] = .rt false (.tup [iT (stepF c st lt).1, iT (stepF c st lt).2]) [] := by
  have hv : callN T wf (k + 2) vs [.fz c.d, .fz (iT st), .fz (iT lt)] = .rt true (.lst ((valsF c.gs (lt ++ st)).map .int)) [] := lv_fn (T := T) (wf := wf) (k := k + 1) (vs := vs) t23 (x0 := .int c.inp) (x1 := iT c.st) (x3 := iT c.nx) (x4 := iT c.ou) (s := .fz (iT lt)) (.inl rfl) (.inl rfl) h.b h.g h.sz
  obtain ⟨s3, e⟩ := step_core (wf := wf) h hv (.inr rfl)
  rw [callN_eq t24 rfl rfl]
  show outOf _ (evSs (callN T wf (k + 2)) wf (stepSs vs) [.fz c.d, .fz (iT st), .fz (iT lt), .un, .un]) = _
  rw [e]
  rfl
end
theorem atI_last (xs : List D) (x : D) : atI (xs ++ [x]) (-1) = some x := by
  have e : ixN (xs ++ [x]).length (-1) = some xs.length := by
    rw [List.length_append, List.length_singleton]
    unfold ixN
    rw [if_neg (by omega), if_pos (by omega)]
    congr 1
    omega
  unfold atI
  rw [e, Option.bind_some, List.getElem?_append_right (Nat.le_refl _), Nat.sub_self]
  rfl
/-- a run -/
def runP (c : Circ) (word : List (List Int)) : List (List Int) × List Int := word.foldl (fun p l => (p.1 ++ [(stepF c p.2 l).1], (stepF c p.2 l).2)) ([], c.st)
def runF (c : Circ) (word : List (List Int)) : List (List Int) := (runP c word).1
theorem runP_snoc (c : Circ) (word : List (List Int)) (l : List Int) : runP c (word ++ [l]) = ((runP c word).1 ++ [(stepF c (runP c word).2 l).1], (stepF c (runP c word).2 l).2) := by
  unfold runP
  rw [List.foldl_append]
  rfl
structure RunOk (c : Circ) (word : List (List Int)) : Prop where
  ck : CircOk c
  gl : c.gs.length ≤ 100
  ol : c.ou.length ≤ 100
  sm : c.inp + c.st.length ≤ 100
  wl : word.length ≤ 900
  wb : ∀ l ∈ word, Bits l ∧ (l.length : Int) = c.inp
section
variable {c : Circ} {word : List (List Int)}
theorem RunOk.at_ (h : RunOk c word) : ∀ i, i ≤ word.length → (Bits (runP c (word.take i)).2 ∧ (runP c (word.take i)).2.length = c.st.length) ∧ (runP c (word.take i)).1.length = i ∧ ∀ r ∈ (runP c (word.take i)).1, Bits r ∧ r.length = c.ou.length
  | 0, _ => ⟨⟨fun b hb => by have := h.ck.st b hb; omega, rfl⟩, rfl, fun r hr => by cases hr⟩
  | i + 1, hi => by
    obtain ⟨⟨h1, h2⟩, h3, h4⟩ := h.at_ i (by omega)
    have e := List.getElem?_eq_getElem (show i < word.length by omega)
    rw [take_snoc e, runP_snoc]
    have hw := h.wb _ (List.mem_of_getElem? e)
    have so : StOk c (runP c (word.take i)).2 word[i] := ⟨h.ck, h.gl, h.ol, h1, h2, hw.1, hw.2, h.sm⟩
    obtain ⟨o1, o2, o3, o4⟩ := so.out
    refine ⟨⟨o3, o4⟩, by rw [List.length_append, h3]; rfl, fun r hr => ?_⟩
    rcases List.mem_append.mp hr with hr | hr
    · exact h4 r hr
    · rw [List.mem_singleton.mp hr]
      exact ⟨o1, o2⟩
theorem RunOk.st (h : RunOk c word) {i : Nat} {l : List Int} (e : word[i]? = some l) : StOk c (runP c (word.take i)).2 l := by
  obtain ⟨⟨h1, h2⟩, _⟩ := h.at_ i (by have := (List.getElem?_eq_some_iff.mp e).1; omega)
  have hw := h.wb _ (List.mem_of_getElem? e)
  exact ⟨h.ck, h.gl, h.ol, h1, h2, hw.1, hw.2, h.sm⟩
theorem RunOk.rows (h : RunOk c word) : (runF c word).length = word.length ∧ ∀ r ∈ runF c word, Bits r ∧ r.length = c.ou.length := by
  obtain ⟨_, h2, h3⟩ := h.at_ word.length (Nat.le_refl _)
  rw [List.take_length] at h2 h3
  exact ⟨h2, h3⟩
theorem run_loop {F : Fn} {wf v : Nat} (h : RunOk c word) (hF : ∀ st lt, StOk c st lt → F v [.fz c.d, .fz (iT st), .fz (iT lt)] = .rt false (.tup [iT (stepF c st lt).1, iT (stepF c st lt).2]) []) :
    ∃ s2 s4 s5 : Sl, evS F wf (.for (.nm 4) (.val (.var 1)) (runB v)) [.fz c.d, .fz (.tup (word.map iT)), .fz (iT c.st), .ow (.lst []), .un, .un] = .nx [.fz c.d, .fz (.tup (word.map iT)), s2, .ow (.lst ((runF c word).map iT)), s4, s5] := by
  obtain ⟨ρ', ⟨y4, y5, rfl, _⟩, ef⟩ := for_ind (F := F) (wf := wf) (t := .nm 4) (it := .val (.var 1)) (b := runB v)
    (ρ := [.fz c.d, .fz (.tup (word.map iT)), .fz (iT c.st), .ow (.lst []), .un, .un]) (ρ1 := [.fz c.d, .fz (.tup (word.map iT)), .fz (iT c.st), .ow (.lst []), .un, .un]) (p := (word.map iT, [.slot 1])) rfl
    (fun i ρ => ∃ y4 y5 : Sl, ρ = [.fz c.d, .fz (.tup (word.map iT)), .fz (iT (runP c (word.take i)).2), .ow (.lst ((runP c (word.take i)).1.map iT)), y4, y5] ∧ (y4.nio = true ∧ y5.nio = true))
    ⟨.un, .un, rfl, rfl, rfl⟩
    (fun i d ρ hd ⟨y4, y5, e', p4, p5⟩ => by
      rw [List.getElem?_map] at hd
      obtain ⟨l, hl, rfl⟩ := Option.map_eq_some_iff.mp hd
      subst e'
      have so := h.st hl
      have e1 := hF _ _ so
      have hil : i < word.length := (List.getElem?_eq_some_iff.mp hl).1
      have hlen := (h.at_ i (by omega)).2.1
      have hz : ((runP c (word.take i)).1.map iT).length < sizeLine := by rw [List.length_map, hlen, sizeLine_eq]; have := h.wl; omega
      refine ⟨_, [.fz c.d, .fz (.tup (word.map iT)), .fz (iT (stepF c (runP c (word.take i)).2 l).2), .ow (.lst ((runP c (word.take i)).1.map iT ++ [iT (stepF c (runP c (word.take i)).2 l).1])), .fz (iT l), .fz (iT (stepF c (runP c (word.take i)).2 l).1)], setS_nio rfl p4, ?_, .fz (iT l), .fz (iT (stepF c (runP c (word.take i)).2 l).1), ?_, rfl, rfl⟩
      · show evSs F wf (runB v) [.fz c.d, .fz (.tup (word.map iT)), .fz (iT (runP c (word.take i)).2), .ow (.lst ((runP c (word.take i)).1.map iT)), .fz (iT l), y5] = _
        generalize (runP c (word.take i)).1.map iT = fd at hz ⊢
        generalize iT (stepF c (runP c (word.take i)).2 l).1 = od at e1 ⊢
        generalize iT (stepF c (runP c (word.take i)).2 l).2 = nd at e1 ⊢
        generalize iT (runP c (word.take i)).2 = sd at e1 ⊢
        generalize iT l = ld at e1 ⊢
        generalize c.d = cd at e1 ⊢
        generalize word.map iT = wd
        have s1 : evS F wf (.asg (.tp [5, 2]) (.call v [false, false, false] (.cons (.var 0) (.cons (.var 2) (.cons (.var 4) .nil))))) [.fz cd, .fz (.tup wd), .fz sd, .ow (.lst fd), .fz ld, y5] = .nx [.fz cd, .fz (.tup wd), .fz nd, .ow (.lst fd), .fz ld, .fz od] := by
          simp [evSs, evS, G.ev, evTs, evBs, evCs, evPs, evI, evQ, Res.bind, Res.sr, SR.seq, ofO, ofS, force, forces, Sl.get, ixN, bop, uop, RV.new, RV.held, D.sh, D.shs, D.ok, D.eqv, D.eqvs, truthOf, D.truth, G.take, setL, getL, ownL, reown, asgT, G.prim, isInts, G.elems, G.items, itemsR, walkB, retR, outOf, iosOf, noOw, fzAt, plainSl_some, pln_un, pln_fz, G.lock, G.unlock, G.back, wipeE, SR.unl, G.guard, argsS, argS, apart, slotOf, putBack, G.chk, outR, mutD, rangeOf, optI, G.slc, at3_0, at3_1, at3_2, at3_3, so_const, so_not, so_and, so_or, so_xor, so_pick, idx_tup, q1, q2, q3, q4, q5, q6, q7, q8, q9, q10, q11, q12, q13, q14, q15, idx_lst, cut1_1, cut1_2, cut1_3, -beq_eq_false_iff_ne, -beq_iff_eq, e1, setAll]
          rw [setS_nio rfl p5]
          rfl
        unfold runB
        rw [ss_step s1]
        refine ss_last ?_
        simp [evSs, evS, G.ev, evTs, evBs, evCs, evPs, evI, evQ, Res.bind, Res.sr, SR.seq, ofO, ofS, force, forces, Sl.get, ixN, bop, uop, RV.new, RV.held, D.sh, D.shs, D.ok, D.eqv, D.eqvs, truthOf, D.truth, G.take, setL, getL, ownL, reown, asgT, G.prim, isInts, G.elems, G.items, itemsR, walkB, retR, outOf, iosOf, noOw, fzAt, plainSl_some, pln_un, pln_fz, G.lock, G.unlock, G.back, wipeE, SR.unl, G.guard, argsS, argS, apart, slotOf, putBack, G.chk, outR, mutD, rangeOf, optI, G.slc, at3_0, at3_1, at3_2, at3_3, so_const, so_not, so_and, so_or, so_xor, so_pick, idx_tup, q1, q2, q3, q4, q5, q6, q7, q8, q9, q10, q11, q12, q13, q14, q15, idx_lst, cut1_1, cut1_2, cut1_3, -beq_eq_false_iff_ne, -beq_iff_eq, hz]
      · rw [take_snoc hl, runP_snoc, List.map_append]
        rfl)
  rw [List.length_map, List.take_length] at ef
  exact ⟨_, y4, y5, ef⟩
theorem run_fn {T : List Fd} {wf k vi vs v w : Nat} (t4 : T[vi]? = some ⟨3, 2, valueSs⟩) (t5 : T[vs]? = some ⟨5, 3, valuesSs vi⟩) (t6 : T[v]? = some ⟨5, 3, stepSs vs⟩) (t7 : T[w]? = some ⟨6, 2, runSs v⟩) (h : RunOk c word) : callN T wf (k + 4) w [.fz c.d, .fz (.tup (word.map iT))] = .rt false (.tup ((runF c word).map iT)) [] := by
  obtain ⟨s2, s4, s5, ef⟩ := run_loop (F := callN T wf (k + 3)) (wf := wf) (v := v) h fun st lt so => step_fn t4 t5 t6 (wf := wf) (k := k) so
  have h1 := ci1 (c := c)
  have a1 : evS (callN T wf (k + 3)) wf (.asg (.nm 2) (.idx (.var 0) (.con (.int 1)))) [.fz c.d, .fz (.tup (word.map iT)), .un, .un, .un, .un] = .nx [.fz c.d, .fz (.tup (word.map iT)), .fz (iT c.st), .un, .un, .un] := by
    generalize c.d = cd at h1
    generalize iT c.st = sd at h1
    generalize word.map iT = wd
    simp [evSs, evS, G.ev, evTs, evBs, evCs, evPs, evI, evQ, Res.bind, Res.sr, SR.seq, ofO, ofS, force, forces, Sl.get, ixN, bop, uop, RV.new, RV.held, D.sh, D.shs, D.ok, D.eqv, D.eqvs, truthOf, D.truth, G.take, setL, getL, ownL, reown, asgT, G.prim, isInts, G.elems, G.items, itemsR, walkB, retR, outOf, iosOf, noOw, fzAt, plainSl_some, pln_un, pln_fz, G.lock, G.unlock, G.back, wipeE, SR.unl, G.guard, argsS, argS, apart, slotOf, putBack, G.chk, outR, mutD, rangeOf, optI, G.slc, at3_0, at3_1, at3_2, at3_3, so_const, so_not, so_and, so_or, so_xor, so_pick, idx_tup, q1, q2, q3, q4, q5, q6, q7, q8, q9, q10, q11, q12, q13, q14, q15, idx_lst, cut1_1, cut1_2, cut1_3, -beq_eq_false_iff_ne, -beq_iff_eq, h1, setS]
  have a2 : evS (callN T wf (k + 3)) wf (.asg (.nm 3) (.lst .nil)) [.fz c.d, .fz (.tup (word.map iT)), .fz (iT c.st), .un, .un, .un] = .nx [.fz c.d, .fz (.tup (word.map iT)), .fz (iT c.st), .ow (.lst []), .un, .un] := rfl
  rw [callN_eq t7 rfl rfl]
  show outOf [.fz c.d, .fz (.tup (word.map iT))] (evSs (callN T wf (k + 3)) wf (runSs v) [.fz c.d, .fz (.tup (word.map iT)), .un, .un, .un, .un]) = _
  unfold runSs
  rw [ss_step a1, ss_step a2, ss_step ef, ss_ret (o := false) (d := .tup ((runF c word).map iT)) (ρ' := [.fz c.d, .fz (.tup (word.map iT)), s2, .ow (.lst ((runF c word).map iT)), s4, s5]) (by rw [evS, ev_tupS rfl]; rfl)]
  rfl
theorem lrun_fn {T : List Fd} {wf k vs v w : Nat} (t23 : T[vs]? = some ⟨8, 3, lvSs⟩) (t24 : T[v]? = some ⟨5, 3, stepSs vs⟩) (t25 : T[w]? = some ⟨6, 2, lrunSs v⟩) (h : RunOk c word) : callN T wf (k + 4) w [.fz c.d, .fz (.tup (word.map iT))] = .rt false (.tup ((runF c word).map iT)) [] := by
  obtain ⟨s2, s4, s5, ef⟩ := run_loop (F := callN T wf (k + 3)) (wf := wf) (v := v) h fun st lt so => lstep_fn t23 t24 (wf := wf) (k := k) so
  have h1 := ci1 (c := c)
  have a1 : evS (callN T wf (k + 3)) wf (.par [2, 3] (.cons (.idx (.var 0) (.con (.int 1))) (.cons (.lst .nil) .nil))) [.fz c.d, .fz (.tup (word.map iT)), .un, .un, .un, .un] = .nx [.fz c.d, .fz (.tup (word.map iT)), .fz (iT c.st), .ow (.lst []), .un, .un] := by
    generalize c.d = cd at h1
    generalize iT c.st = sd at h1
    generalize word.map iT = wd
    simp [evSs, evS, G.ev, evTs, evBs, evCs, evPs, evI, evQ, Res.bind, Res.sr, SR.seq, ofO, ofS, force, forces, Sl.get, ixN, bop, uop, RV.new, RV.held, D.sh, D.shs, D.ok, D.eqv, D.eqvs, truthOf, D.truth, G.take, setL, getL, ownL, reown, asgT, G.prim, isInts, G.elems, G.items, itemsR, walkB, retR, outOf, iosOf, noOw, fzAt, plainSl_some, pln_un, pln_fz, G.lock, G.unlock, G.back, wipeE, SR.unl, G.guard, argsS, argS, apart, slotOf, putBack, G.chk, outR, mutD, rangeOf, optI, G.slc, at3_0, at3_1, at3_2, at3_3, so_const, so_not, so_and, so_or, so_xor, so_pick, idx_tup, q1, q2, q3, q4, q5, q6, q7, q8, q9, q10, q11, q12, q13, q14, q15, idx_lst, cut1_1, cut1_2, cut1_3, -beq_eq_false_iff_ne, -beq_iff_eq, h1, takeO, asgAll, setS]
  rw [callN_eq t25 rfl rfl]
  show outOf [.fz c.d, .fz (.tup (word.map iT))] (evSs (callN T wf (k + 3)) wf (lrunSs v) [.fz c.d, .fz (.tup (word.map iT)), .un, .un, .un, .un]) = _
  unfold lrunSs
  rw [ss_step a1, ss_step ef, ss_ret (o := false) (d := .tup ((runF c word).map iT)) (ρ' := [.fz c.d, .fz (.tup (word.map iT)), s2, .ow (.lst ((runF c word).map iT)), s4, s5]) (by rw [evS, ev_tupS rfl]; rfl)]
  rfl
/-- the states of a run, one more than there are letters -/
def statesF (c : Circ) (word : List (List Int)) : List (List Int) := (List.range (word.length + 1)).map fun i => (runP c (word.take i)).2
theorem states_fn {T : List Fd} {wf k vi vs v w : Nat} (t4 : T[vi]? = some ⟨3, 2, valueSs⟩) (t5 : T[vs]? = some ⟨5, 3, valuesSs vi⟩) (t6 : T[v]? = some ⟨5, 3, stepSs vs⟩) (t7 : T[w]? = some ⟨4, 2, stSs v⟩) (h : RunOk c word) : callN T wf (k + 4) w [.fz c.d, .fz (.tup (word.map iT))] = .rt false (.tup ((statesF c word).map iT)) [] := by
  have h1 := ci1 (c := c)
  have a1 : evS (callN T wf (k + 3)) wf (.asg (.nm 2) (.lst (.cons (.idx (.var 0) (.con (.int 1))) .nil))) [.fz c.d, .fz (.tup (word.map iT)), .un, .un] = .nx [.fz c.d, .fz (.tup (word.map iT)), .ow (.lst [iT c.st]), .un] := by
    generalize c.d = cd at h1
    generalize iT c.st = sd at h1
    generalize word.map iT = wd
    simp [evSs, evS, G.ev, evTs, evBs, evCs, evPs, evI, evQ, Res.bind, Res.sr, SR.seq, ofO, ofS, force, forces, Sl.get, ixN, bop, uop, RV.new, RV.held, D.sh, D.shs, D.ok, D.eqv, D.eqvs, truthOf, D.truth, G.take, setL, getL, ownL, reown, asgT, G.prim, isInts, G.elems, G.items, itemsR, walkB, retR, outOf, iosOf, noOw, fzAt, plainSl_some, pln_un, pln_fz, G.lock, G.unlock, G.back, wipeE, SR.unl, G.guard, argsS, argS, apart, slotOf, putBack, G.chk, outR, mutD, rangeOf, optI, G.slc, at3_0, at3_1, at3_2, at3_3, so_const, so_not, so_and, so_or, so_xor, so_pick, idx_tup, q1, q2, q3, q4, q5, q6, q7, q8, q9, q10, q11, q12, q13, q14, q15, idx_lst, cut1_1, cut1_2, cut1_3, -beq_eq_false_iff_ne, -beq_iff_eq, h1, setS]
  obtain ⟨ρ', ⟨y3, rfl, _⟩, ef⟩ := for_ind (F := callN T wf (k + 3)) (wf := wf) (t := .nm 3) (it := .val (.var 1)) (b := stB v)
    (ρ := [.fz c.d, .fz (.tup (word.map iT)), .ow (.lst [iT c.st]), .un]) (ρ1 := [.fz c.d, .fz (.tup (word.map iT)), .ow (.lst [iT c.st]), .un]) (p := (word.map iT, [.slot 1])) rfl
    (fun i ρ => ∃ y3 : Sl, ρ = [.fz c.d, .fz (.tup (word.map iT)), .ow (.lst (((List.range (i + 1)).map fun i => (runP c (word.take i)).2).map iT)), y3] ∧ y3.nio = true)
    ⟨.un, rfl, rfl⟩
    (fun i d ρ hd ⟨y3, e', p3⟩ => by
      rw [List.getElem?_map] at hd
      obtain ⟨l, hl, rfl⟩ := Option.map_eq_some_iff.mp hd
      subst e'
      have so := h.st hl
      have e1 := step_fn t4 t5 t6 (wf := wf) (k := k) so
      have hil : i < word.length := (List.getElem?_eq_some_iff.mp hl).1
      have hz : ((((List.range (i + 1)).map fun i => (runP c (word.take i)).2).map iT)).length < sizeLine := by rw [List.length_map, List.length_map, List.length_range, sizeLine_eq]; have := h.wl; omega
      have hlast : atI ((((List.range (i + 1)).map fun i => (runP c (word.take i)).2).map iT)) (-1) = some (iT (runP c (word.take i)).2) := by
        rw [List.range_succ, List.map_append, List.map_append]
        exact atI_last _ _
      rw [List.range_succ (n := i + 1), List.map_append, List.map_append]
      refine ⟨_, _, setS_nio rfl p3, ?_, .fz (iT l), rfl, rfl⟩
      show evSs _ wf (stB v) [.fz c.d, .fz (.tup (word.map iT)), .ow (.lst (((List.range (i + 1)).map fun i => (runP c (word.take i)).2).map iT)), .fz (iT l)] = .nx [.fz c.d, .fz (.tup (word.map iT)), .ow (.lst ((((List.range (i + 1)).map fun i => (runP c (word.take i)).2).map iT) ++ [iT (runP c (word.take (i + 1))).2])), .fz (iT l)]
      rw [take_snoc hl, runP_snoc]
      generalize ((List.range (i + 1)).map fun i => (runP c (word.take i)).2).map iT = fd at hz hlast ⊢
      generalize iT (stepF c (runP c (word.take i)).2 l).1 = od at e1 ⊢
      generalize iT (stepF c (runP c (word.take i)).2 l).2 = nd at e1 ⊢
      generalize iT (runP c (word.take i)).2 = sd at e1 hlast ⊢
      generalize iT l = ld at e1 ⊢
      generalize c.d = cd at e1 ⊢
      generalize word.map iT = wd
      unfold stB
      refine ss_last ?_
      simp [evSs, evS, G.ev, evTs, evBs, evCs, evPs, evI, evQ, Res.bind, Res.sr, SR.seq, ofO, ofS, force, forces, Sl.get, ixN, bop, uop, RV.new, RV.held, D.sh, D.shs, D.ok, D.eqv, D.eqvs, truthOf, D.truth, G.take, setL, getL, ownL, reown, asgT, G.prim, isInts, G.elems, G.items, itemsR, walkB, retR, outOf, iosOf, noOw, fzAt, plainSl_some, pln_un, pln_fz, G.lock, G.unlock, G.back, wipeE, SR.unl, G.guard, argsS, argS, apart, slotOf, putBack, G.chk, outR, mutD, rangeOf, optI, G.slc, at3_0, at3_1, at3_2, at3_3, so_const, so_not, so_and, so_or, so_xor, so_pick, idx_tup, q1, q2, q3, q4, q5, q6, q7, q8, q9, q10, q11, q12, q13, q14, q15, idx_lst, cut1_1, cut1_2, cut1_3, -beq_eq_false_iff_ne, -beq_iff_eq, hlast, e1, hz])
  rw [List.length_map] at ef
  rw [callN_eq t7 rfl rfl]
  show outOf [.fz c.d, .fz (.tup (word.map iT))] (evSs (callN T wf (k + 3)) wf (stSs v) [.fz c.d, .fz (.tup (word.map iT)), .un, .un]) = _
  unfold stSs
  rw [ss_step a1, ss_step ef, ss_ret (o := false) (d := .tup ((statesF c word).map iT)) (ρ' := [.fz c.d, .fz (.tup (word.map iT)), .ow (.lst ((statesF c word).map iT)), y3]) (by rw [evS, ev_tupS rfl]; rfl)]
  rfl
end
end G
end

section
set_option Elab.async false
set_option linter.all false
set_option maxRecDepth 100000
set_option maxHeartbeats 4000000
/-! P11: remainders (from k59). -/
namespace G
open PySem PySem.Spec PyProof.Rows L2
def remStep (taps r : List Int) (b : Int) : List Int := List.zipWith (fun a t => Builtin.bitXor a (Builtin.bitAnd (r.getLastD 0) t)) (b :: r.dropLast) taps
def remF (taps bits : List Int) : List Int := bits.foldl (remStep taps) (List.replicate taps.length 0)
theorem remStep_len {taps r : List Int} {b : Int} (h : r.length = taps.length) (h0 : taps ≠ []) : (remStep taps r b).length = taps.length := by
  have : 0 < taps.length := List.length_pos_iff.mpr h0
  unfold remStep
  rw [List.length_zipWith, List.length_cons, List.length_dropLast]
  omega
theorem remF_len {taps bits : List Int} (h0 : taps ≠ []) : (remF taps bits).length = taps.length := by
  unfold remF
  generalize hr : List.replicate taps.length (0 : Int) = r
  have hl : r.length = taps.length := by rw [← hr, List.length_replicate]
  clear hr
  induction bits generalizing r with
  | nil => exact hl
  | cons b bits ih => exact ih _ (remStep_len hl h0)
theorem last_ints {r : List Int} (h : r ≠ []) : atI (r.map D.int) (-1) = some (.int (r.getLastD 0)) := by
  cases r with
  | nil => exact absurd rfl h
  | cons x xs =>
    have e : ixN ((x :: xs).map D.int).length (-1) = some xs.length := by
      rw [List.length_map, List.length_cons]
      unfold ixN
      rw [if_neg (by omega), if_pos (by omega)]
      congr 1
      omega
    unfold atI
    rw [e, Option.bind_some, List.getElem?_map]
    have : (x :: xs)[xs.length]? = some ((x :: xs).getLastD 0) := by
      have h := List.getLast?_eq_getElem? (l := x :: xs)
      rw [List.length_cons, Nat.add_sub_cancel] at h
      rw [← h, List.getLastD_eq_getLast?, List.getLast?_cons]
      rfl
    rw [this]
    rfl
theorem cut_last {xs : List D} : G.cutD xs none (some (-1)) = xs.dropLast := by
  have e : HT.sIx xs.length xs.length (some (-1)) = xs.length - 1 := by
    show (if (-1 : Int) < 0 then (-1 + (xs.length : Int)).toNat else min (-1 : Int).toNat xs.length) = _
    rw [if_pos (by decide)]
    omega
  unfold G.cutD
  rw [e]
  show (xs.drop 0).take (xs.length - 1 - 0) = _
  rw [List.drop_zero, Nat.sub_zero, List.dropLast_eq_take]
theorem zip_ints (xs ys : List Int) : zipD (xs.map .int) (ys.map .int) = (xs.zip ys).map fun p => D.tup [.int p.1, .int p.2] := by
  induction xs generalizing ys with
  | nil => rfl
  | cons x xs ih =>
    cases ys with
    | nil => rfl
    | cons y ys => simp only [List.map_cons, zipD, ih, List.zip_cons_cons]
theorem zipWith_map {f : Int → Int → Int} (xs ys : List Int) : List.zipWith f xs ys = (xs.zip ys).map fun p => f p.1 p.2 := by
  induction xs generalizing ys with
  | nil => rfl
  | cons x xs ih =>
    cases ys with
    | nil => rfl
    | cons y ys => simp only [List.zipWith_cons_cons, List.zip_cons_cons, List.map_cons, ih]
theorem mulT_ev {F : Fn} {ρ : Ev} {le : E} {n : Int} {rr : List D} (hle : ev F le ρ = .ok (.val (.int n)) ρ) (hm : bop .mul (.tup [.int 0]) (.int n) = some (.tup rr)) : ev F (.bin .mul (.tup (.cons (.con (.int 0)) .nil)) le) ρ = .ok (.val (.tup rr)) ρ := by
  rw [ev]
  show ((ev F le ρ).bind fun s ρ => ofO (((some (D.tup [.int 0])).bind fun x => (force ρ s).bind fun y => bop .mul x y).map RV.new) ρ) = _
  rw [hle]
  show ofO (((some (D.tup [.int 0])).bind fun x => (some (D.int n)).bind fun y => bop .mul x y).map RV.new) ρ = _
  rw [Option.bind_some, Option.bind_some, hm]
  rfl
def remE : E := .prim .tuple (.cons (.comp [5, 6] (.tp [5, 6]) (.zip (.bin .add (.tup (.cons (.var 3) .nil)) (.sli false true (.var 2) (.con .non) (.un .neg (.con (.int 1))))) (.var 0)) (.con (.bl true)) (.yld (.bin .bxor (.var 5) (.bin .band (.var 4) (.var 6))))) .nil)
def remB : Ss := .cons (.asg (.nm 4) (.idx (.var 2) (.un .neg (.con (.int 1))))) (.cons (.asg (.nm 2) remE) .nil)
def remSs : Ss := .cons (.asg (.nm 2) (.bin .mul (.tup (.cons (.con (.int 0)) .nil)) (.prim .len (.cons (.var 0) .nil)))) (.cons (.for (.nm 3) (.val (.var 1)) remB) (.cons (.ret (.var 2)) .nil))
theorem rem_body {F : Fn} {wf : Nat} {taps r : List Int} {b : Int} {bd : D} {y4 : Sl} (h0 : taps ≠ []) (hl : r.length = taps.length) (hz : taps.length ≤ 100) (h4 : y4.nio = true) :
    ∃ z4 : Sl, z4.nio = true ∧ evSs F wf remB [.fz (iT taps), .fz bd, .fz (iT r), .fz (.int b), y4, .un, .un] = .nx [.fz (iT taps), .fz bd, .fz (iT (remStep taps r b)), .fz (.int b), z4, .un, .un] := by
  have hr : r ≠ [] := fun e => h0 (List.eq_nil_of_length_eq_zero (by rw [← hl, e]; rfl))
  have el := last_ints hr
  have ec := cut_last (xs := r.map .int)
  refine ⟨.fz (.int (r.getLastD 0)), rfl, ?_⟩
  have s4 : evS F wf (.asg (.nm 4) (.idx (.var 2) (.un .neg (.con (.int 1))))) [.fz (iT taps), .fz bd, .fz (iT r), .fz (.int b), y4, .un, .un] = .nx [.fz (iT taps), .fz bd, .fz (iT r), .fz (.int b), .fz (.int (r.getLastD 0)), .un, .un] := by
    unfold iT
    generalize r.map D.int = rd at el
    generalize taps.map D.int = td
    refine asg_ev (d := .int (r.getLastD 0)) (ρ1 := [.fz (.tup td), .fz bd, .fz (.tup rd), .fz (.int b), y4, .un, .un]) ?_ (setS_nio rfl h4)
    simp [evSs, evS, G.ev, evTs, evBs, evCs, evPs, evI, evQ, Res.bind, Res.sr, SR.seq, ofO, ofS, force, forces, Sl.get, ixN, bop, uop, RV.new, RV.held, D.sh, D.shs, D.ok, D.eqv, D.eqvs, truthOf, D.truth, G.take, setL, getL, ownL, reown, asgT, G.prim, isInts, G.elems, G.items, itemsR, walkB, retR, outOf, iosOf, noOw, fzAt, plainSl_some, pln_un, pln_fz, G.lock, G.unlock, G.back, wipeE, SR.unl, G.guard, argsS, argS, apart, slotOf, putBack, G.chk, outR, mutD, rangeOf, optI, G.slc, at3_0, at3_1, at3_2, at3_3, so_const, so_not, so_and, so_or, so_xor, so_pick, idx_tup, q1, q2, q3, q4, q5, q6, q7, q8, q9, q10, q11, q12, q13, q14, q15, idx_lst, cut1_1, cut1_2, cut1_3, -beq_eq_false_iff_ne, -beq_iff_eq, el]
  have hz2 : 1 + (r.map D.int).dropLast.length ≤ sizeLine := sizeLine_big (by rw [List.length_dropLast, List.length_map]; omega)
  have hxs : D.int b :: (r.map D.int).dropLast = (b :: r.dropLast).map .int := by rw [List.map_cons, List.map_dropLast]
  have hi : evI F (.zip (.bin .add (.tup (.cons (.var 3) .nil)) (.sli false true (.var 2) (.con .non) (.un .neg (.con (.int 1))))) (.var 0)) [.fz (iT taps), .fz bd, .fz (iT r), .fz (.int b), .fz (.int (r.getLastD 0)), .un, .un] =
      .ok (zipD ((b :: r.dropLast).map .int) (taps.map .int), [.val (.tup ((b :: r.dropLast).map .int)), .slot 0]) [.fz (iT taps), .fz bd, .fz (iT r), .fz (.int b), .fz (.int (r.getLastD 0)), .un, .un] := by
    rw [← hxs, ← ec]
    rw [← ec] at hz2
    unfold iT
    generalize r.map D.int = rd at hz2 ⊢
    generalize taps.map D.int = td
    generalize hcc : G.cutD rd none (some (-1)) = cc at hz2
    simp [evSs, evS, G.ev, evTs, evBs, evCs, evPs, evI, evQ, Res.bind, Res.sr, SR.seq, ofO, ofS, force, forces, Sl.get, ixN, bop, uop, RV.new, RV.held, D.sh, D.shs, D.ok, D.eqv, D.eqvs, truthOf, D.truth, G.take, setL, getL, ownL, reown, asgT, G.prim, isInts, G.elems, G.items, itemsR, walkB, retR, outOf, iosOf, noOw, fzAt, plainSl_some, pln_un, pln_fz, G.lock, G.unlock, G.back, wipeE, SR.unl, G.guard, argsS, argS, apart, slotOf, putBack, G.chk, outR, mutD, rangeOf, optI, G.slc, at3_0, at3_1, at3_2, at3_3, so_const, so_not, so_and, so_or, so_xor, so_pick, idx_tup, q1, q2, q3, q4, q5, q6, q7, q8, q9, q10, q11, q12, q13, q14, q15, idx_lst, cut1_1, cut1_2, cut1_3, -beq_eq_false_iff_ne, -beq_iff_eq, hcc, hz2, seqR]
  have e := comp2 (F := F) (i := 5) (j := 6) (it := .zip (.bin .add (.tup (.cons (.var 3) .nil)) (.sli false true (.var 2) (.con .non) (.un .neg (.con (.int 1))))) (.var 0)) (c := .con (.bl true)) (e := .bin .bxor (.var 5) (.bin .band (.var 4) (.var 6))) (x := .un) (y := .un) (p := fun _ => true)
    (f := fun d => match d with | .tup [.int a, .int t] => .int (Builtin.bitXor a (Builtin.bitAnd (r.getLastD 0) t)) | _ => .non) (by decide) hi rfl rfl rfl rfl rfl rfl rfl rfl
    (fun d hd => by
      rw [zip_ints] at hd
      obtain ⟨p, hp, rfl⟩ := List.mem_map.mp hd
      exact ⟨_, _, rfl, ⟨.val (.bl true), rfl, rfl⟩, fun _ => ⟨.val (.int (Builtin.bitXor p.1 (Builtin.bitAnd (r.getLastD 0) p.2))), rfl, rfl⟩⟩)
    (by rw [zip_ints, List.length_map, List.length_zip]; omega)
  have hm : (zipD ((b :: r.dropLast).map .int) (taps.map .int)).map (fun d => match d with | .tup [.int a, .int t] => D.int (Builtin.bitXor a (Builtin.bitAnd (r.getLastD 0) t)) | _ => .non) = (remStep taps r b).map .int := by
    rw [zip_ints, List.map_map]
    unfold remStep
    rw [zipWith_map, List.map_map]
    rfl
  rw [filter_tt, hm] at e
  unfold remB
  rw [ss_step s4]
  exact ss_last (asg_ev (ev_tuple e) (setS_nio rfl rfl))
theorem rem_fn {T : List Fd} {wf k v : Nat} (t8 : T[v]? = some ⟨7, 2, remSs⟩) {taps bits : List Int} {bd : D} (hb : items bd = some (bits.map .int)) (h0 : taps ≠ []) (hz : taps.length ≤ 100) : callN T wf (k + 1) v [.fz (iT taps), .fz bd] = .rt false (iT (remF taps bits)) [] := by
  have hk : taps.length ≤ 1000 := by omega
  have s2 : evS (callN T wf k) wf (.asg (.nm 2) (.bin .mul (.tup (.cons (.con (.int 0)) .nil)) (.prim .len (.cons (.var 0) .nil)))) [.fz (iT taps), .fz bd, .un, .un, .un, .un, .un] = .nx [.fz (iT taps), .fz bd, .fz (iT (List.replicate taps.length 0)), .un, .un, .un, .un] := by
    have hlen : prim .len [iT taps] = some (.int (taps.length : Nat)) := by show some (D.int ((taps.map D.int).length : Nat)) = _; rw [List.length_map]
    have hm : bop .mul (.tup [.int 0]) (.int (taps.length : Nat)) = some (iT (List.replicate taps.length 0)) := by
      generalize taps.length = n at hk
      have hf : (List.replicate n [D.int 0]).flatten = (List.replicate n (0 : Int)).map .int := by
        induction n with
        | zero => rfl
        | succ n ih => rw [List.replicate_succ, List.flatten_cons, ih (by omega)]; rfl
      have hb : (decide (-(2 ^ 63) ≤ ((n : Nat) : Int)) && decide (((n : Nat) : Int) ≤ 1000) && decide ([D.int 0].length ≤ 1000)) = true := by
        simp only [Bool.and_eq_true, decide_eq_true_eq]
        exact ⟨⟨by omega, by omega⟩, by decide⟩
      have e : bop .mul (.tup [.int 0]) (.int (n : Nat)) = if (decide (-(2 ^ 63) ≤ ((n : Nat) : Int)) && decide (((n : Nat) : Int) ≤ 1000) && decide ([D.int 0].length ≤ 1000)) = true then some (.tup (List.replicate ((n : Nat) : Int).toNat [D.int 0]).flatten) else none := by rw [bop]
      rw [e, if_pos hb, Int.toNat_natCast, hf]
      rfl
    refine asg_ev (ρ1 := [.fz (iT taps), .fz bd, .un, .un, .un, .un, .un]) (mulT_ev (n := (taps.length : Nat)) ?_ hm) rfl
    generalize iT taps = td at hlen
    generalize ((taps.length : Nat) : Int) = n at hlen
    simp [evSs, evS, G.ev, evTs, evBs, evCs, evPs, evI, evQ, Res.bind, Res.sr, SR.seq, ofO, ofS, force, forces, Sl.get, ixN, bop, uop, RV.new, RV.held, D.sh, D.shs, D.ok, D.eqv, D.eqvs, truthOf, D.truth, G.take, setL, getL, ownL, reown, asgT, isInts, G.elems, G.items, itemsR, walkB, retR, outOf, iosOf, noOw, fzAt, plainSl_some, pln_un, pln_fz, G.lock, G.unlock, G.back, wipeE, SR.unl, G.guard, argsS, argS, apart, slotOf, putBack, G.chk, outR, mutD, rangeOf, optI, G.slc, at3_0, at3_1, at3_2, at3_3, so_const, so_not, so_and, so_or, so_xor, so_pick, idx_tup, q1, q2, q3, q4, q5, q6, q7, q8, q9, q10, q11, q12, q13, q14, q15, idx_lst, cut1_1, cut1_2, cut1_3, -beq_eq_false_iff_ne, -beq_iff_eq, hlen]
  obtain ⟨ρ', ⟨y3, y4, rfl, _⟩, ef⟩ := for_ind (F := callN T wf k) (wf := wf) (t := .nm 3) (it := .val (.var 1)) (b := remB)
    (ρ := [.fz (iT taps), .fz bd, .fz (iT (List.replicate taps.length 0)), .un, .un, .un, .un]) (ρ1 := [.fz (iT taps), .fz bd, .fz (iT (List.replicate taps.length 0)), .un, .un, .un, .un]) (p := (bits.map .int, [.slot 1]))
    (by
      show ofO ((itemsR _ (.slot 1)).map fun ds => (ds, [RV.slot 1])) _ = _
      have : itemsR [.fz (iT taps), .fz bd, .fz (iT (List.replicate taps.length 0)), .un, .un, .un, .un] (.slot 1) = items bd := rfl
      rw [this, hb]
      rfl)
    (fun i ρ => ∃ y3 y4 : Sl, ρ = [.fz (iT taps), .fz bd, .fz (iT (remF taps (bits.take i))), y3, y4, .un, .un] ∧ (y3.nio = true ∧ y4.nio = true))
    ⟨.un, .un, rfl, rfl, rfl⟩
    (fun i d ρ hd ⟨y3, y4, e', p3, p4⟩ => by
      rw [List.getElem?_map] at hd
      obtain ⟨b, hbi, rfl⟩ := Option.map_eq_some_iff.mp hd
      subst e'
      obtain ⟨z4, q4, eb⟩ := rem_body (F := callN T wf k) (wf := wf) (b := b) (bd := bd) h0 (remF_len (bits := bits.take i) h0) hz p4
      refine ⟨_, _, setS_nio rfl p3, eb, .fz (.int b), z4, ?_, rfl, q4⟩
      have : remF taps (bits.take (i + 1)) = remStep taps (remF taps (bits.take i)) b := by
        rw [take_snoc hbi]
        unfold remF
        rw [List.foldl_append]
        rfl
      rw [this])
  rw [List.length_map, List.take_length] at ef
  rw [callN_eq t8 rfl rfl]
  show outOf [.fz (iT taps), .fz bd] (evSs (callN T wf k) wf remSs [.fz (iT taps), .fz bd, .un, .un, .un, .un, .un]) = _
  unfold remSs
  rw [ss_step s2, ss_step ef, ss_ret (o := false) (d := iT (remF taps bits)) (ρ' := [.fz (iT taps), .fz bd, .fz (iT (remF taps bits)), y3, y4, .un, .un]) rfl]
  rfl
end G
end

section
set_option Elab.async false
set_option linter.all false
set_option maxRecDepth 100000
set_option maxHeartbeats 4000000
/-! P12: bits that taps make (from k59). -/
namespace G
open PySem PySem.Spec PyProof.Rows L2
def toldB (taps bits : List Int) : Nat → Int
  | 0 => 0
  | i + 1 => Builtin.bitXor (toldB taps bits i) (Builtin.bitAnd (taps.getD i 0) (bits.getD (bits.length - 1 - i) 0))
def nextB (taps bits : List Int) : Int := toldB taps bits taps.length
def growB (taps : List Int) : List Int → Nat → List Int
  | bits, 0 => bits
  | bits, d + 1 => growB taps (bits ++ [nextB taps bits]) d
def mbF (taps seed : List Int) (m : Nat) : List Int := (growB taps seed (m - seed.length)).take m
theorem grow_len (taps : List Int) : ∀ (d : Nat) (bits : List Int), (growB taps bits d).length = bits.length + d
  | 0, bits => rfl
  | d + 1, bits => by
    rw [growB, grow_len taps d, List.length_append, List.length_singleton]
    omega
theorem grow_pre (taps : List Int) : ∀ (d : Nat) (bits : List Int), ∃ t, growB taps bits d = bits ++ t
  | 0, bits => ⟨[], by rw [List.append_nil]; rfl⟩
  | d + 1, bits => by
    obtain ⟨t, e⟩ := grow_pre taps d (bits ++ [nextB taps bits])
    exact ⟨nextB taps bits :: t, by rw [growB, e, List.append_assoc]; rfl⟩
theorem grow_add (taps : List Int) : ∀ (d e : Nat) (bits : List Int), growB taps bits (d + e) = growB taps (growB taps bits d) e
  | 0, e, bits => by rw [Nat.zero_add]; rfl
  | d + 1, e, bits => by
    have : d + 1 + e = (d + e) + 1 := by omega
    rw [this, growB, growB, grow_add taps d e]
theorem mb_take {taps seed : List Int} {m n : Nat} (h1 : seed.length ≤ m) (h2 : m ≤ n) : (mbF taps seed n).take m = mbF taps seed m := by
  unfold mbF
  rw [List.take_take, Nat.min_eq_left h2]
  have e : n - seed.length = (m - seed.length) + (n - m) := by omega
  rw [e, grow_add]
  obtain ⟨t, et⟩ := grow_pre taps (n - m) (growB taps seed (m - seed.length))
  have hl := grow_len taps (m - seed.length) seed
  rw [et, List.take_append_of_le_length (by rw [hl]; omega)]
theorem mb_len {taps seed : List Int} {m : Nat} (h : seed.length ≤ m) : (mbF taps seed m).length = m := by
  unfold mbF
  rw [List.length_take, grow_len]
  omega
theorem told_bit {taps bits : List Int} (ht : Bits taps) (hb : Bits bits) : ∀ i, toldB taps bits i = 0 ∨ toldB taps bits i = 1
  | 0 => .inl rfl
  | i + 1 => by
    have g : ∀ (l : List Int) (j : Nat), Bits l → l.getD j 0 = 0 ∨ l.getD j 0 = 1 := fun l j hl => by
      rw [List.getD_eq_getElem?_getD]
      cases e : l[j]? with
      | none => exact .inl rfl
      | some x => exact hl x (List.mem_of_getElem? e)
    have h1 := told_bit ht hb i
    have h2 := g taps i ht
    have h3 := g bits (bits.length - 1 - i) hb
    rw [toldB, bitAnd_bit h2 h3]
    have h4 : taps.getD i 0 * bits.getD (bits.length - 1 - i) 0 = 0 ∨ taps.getD i 0 * bits.getD (bits.length - 1 - i) 0 = 1 := by
      rcases h2 with e | e <;> rcases h3 with e' | e' <;> rw [e, e'] <;> simp [evSs, evS, G.ev, evTs, evBs, evCs, evPs, evI, evQ, Res.bind, Res.sr, SR.seq, ofO, ofS, force, forces, Sl.get, ixN, bop, uop, RV.new, RV.held, D.sh, D.shs, D.ok, D.eqv, D.eqvs, truthOf, D.truth, G.take, setL, getL, ownL, reown, asgT, G.prim, isInts, G.elems, G.items, itemsR, walkB, retR, outOf, iosOf, noOw, fzAt, plainSl_some, pln_un, pln_fz, G.lock, G.unlock, G.back, wipeE, SR.unl, G.guard, argsS, argS, apart, slotOf, putBack, G.chk, outR, mutD, rangeOf, optI, G.slc, at3_0, at3_1, at3_2, at3_3, so_const, so_not, so_and, so_or, so_xor, so_pick, idx_tup, q1, q2, q3, q4, q5, q6, q7, q8, q9, q10, q11, q12, q13, q14, q15, idx_lst, cut1_1, cut1_2, cut1_3, -beq_eq_false_iff_ne, -beq_iff_eq]
    rw [bitXor_bit h1 h4]
    rcases h1 with e | e <;> rcases h4 with e' | e' <;> rw [e, e'] <;> decide
theorem grow_bits {taps : List Int} (ht : Bits taps) : ∀ (d : Nat) (bits : List Int), Bits bits → Bits (growB taps bits d)
  | 0, bits, h => h
  | d + 1, bits, h => grow_bits ht d _ fun x hx => (List.mem_append.mp hx).elim (h x) fun hx => by rw [List.mem_singleton.mp hx]; exact told_bit ht h _
theorem mb_bits {taps seed : List Int} (ht : Bits taps) (hs : Bits seed) (m : Nat) : Bits (mbF taps seed m) := fun x hx => grow_bits ht _ _ hs x (List.mem_of_mem_take hx)
theorem neg_ints {bits : List Int} {i : Nat} (h : i < bits.length) : atI (bits.map D.int) (-1 - (i : Int)) = some (.int (bits.getD (bits.length - 1 - i) 0)) := by
  have e : ixN (bits.map D.int).length (-1 - (i : Int)) = some (bits.length - 1 - i) := by
    rw [List.length_map]
    unfold ixN
    rw [if_neg (by omega), if_pos (by omega)]
    congr 1
    omega
  unfold atI
  rw [e, Option.bind_some, List.getElem?_map, List.getD_eq_getElem?_getD, List.getElem?_eq_getElem (show bits.length - 1 - i < bits.length by omega)]
  rfl
theorem cut_to {xs : List D} {m : Nat} : G.cutD xs none (some (m : Int)) = xs.take m := by
  have e : HT.sIx xs.length xs.length (some (m : Int)) = min m xs.length := HT.sIx_nat _ _ _
  unfold G.cutD
  rw [e]
  show (xs.drop 0).take (min m xs.length - 0) = _
  rw [List.drop_zero, Nat.sub_zero]
  by_cases h : m ≤ xs.length
  · rw [Nat.min_eq_left h]
  · rw [Nat.min_eq_right (by omega), List.take_length, List.take_of_length_le (by omega)]
theorem cut_mid {xs : List D} {a b : Nat} (h1 : a ≤ b) (h2 : b ≤ xs.length) : G.cutD xs (some (a : Int)) (some (b : Int)) = (xs.drop a).take (b - a) := by
  have e1 : HT.sIx xs.length 0 (some (a : Int)) = a := by rw [HT.sIx_nat]; omega
  have e2 : HT.sIx xs.length xs.length (some (b : Int)) = b := by rw [HT.sIx_nat]; omega
  unfold G.cutD
  rw [e1, e2]
def mbIn : Ss := .cons (.aug 4 .bxor (.bin .band (.var 6) (.idx (.var 3) (.bin .sub (.un .neg (.con (.int 1))) (.var 5))))) .nil
def mbB : Ss := .cons (.asg (.nm 4) (.con (.int 0))) (.cons (.for (.tp [5, 6]) (.enum (.var 0)) mbIn) (.cons (.exp (.mut .append 3 (.cons (.var 4) .nil))) .nil))
def mbC : E := .bin .lt (.prim .len (.cons (.var 3) .nil)) (.var 2)
def mbSs : Ss := .cons (.asg (.nm 3) (.prim .list (.cons (.var 1) .nil))) (.cons (.whl mbC mbB) (.cons (.ret (.prim .tuple (.cons (.sli false true (.var 3) (.con .non) (.var 2)) .nil))) .nil))
def mbE (taps seed : List Int) (m : Int) (bits : List Int) (x4 x5 x6 : Sl) : Ev := [.fz (iT taps), .fz (iT seed), .fz (.int m), .ow (.lst (bits.map .int)), x4, x5, x6]
theorem mb_body {F : Fn} {wf : Nat} {taps seed bits : List Int} {m : Int} {x4 x5 x6 : Sl} (hl : taps.length ≤ bits.length) (hz : bits.length < 1000) (h4 : x4.nio = true) (h5 : x5.nio = true) (h6 : x6.nio = true) :
    ∃ y4 y5 y6 : Sl, y4.nio = true ∧ y5.nio = true ∧ y6.nio = true ∧ evSs F wf mbB (mbE taps seed m bits x4 x5 x6) = .nx (mbE taps seed m (bits ++ [nextB taps bits]) y4 y5 y6) := by
  have s1 : evS F wf (.asg (.nm 4) (.con (.int 0))) (mbE taps seed m bits x4 x5 x6) = .nx (mbE taps seed m bits (.fz (.int 0)) x5 x6) := asg_ev rfl (setS_nio rfl h4)
  obtain ⟨ρ', ⟨y5, y6, rfl, q5, q6⟩, ef⟩ := for_ind (F := F) (wf := wf) (t := .tp [5, 6]) (it := .enum (.var 0)) (b := mbIn) (ρ := mbE taps seed m bits (.fz (.int 0)) x5 x6) (ρ1 := mbE taps seed m bits (.fz (.int 0)) x5 x6) (p := (enumD 0 (taps.map .int), [.slot 0])) rfl
    (fun i ρ => ∃ y5 y6 : Sl, ρ = mbE taps seed m bits (.fz (.int (toldB taps bits i))) y5 y6 ∧ y5.nio = true ∧ y6.nio = true)
    ⟨x5, x6, rfl, h5, h6⟩
    (fun i d ρ hd ⟨y5, y6, e', p5, p6⟩ => by
      rw [enumD_at, List.getElem?_map] at hd
      obtain ⟨g, hg, rfl⟩ := Option.map_eq_some_iff.mp hd
      obtain ⟨t, ht, rfl⟩ := Option.map_eq_some_iff.mp hg
      subst e'
      rw [Nat.zero_add]
      have hil : i < bits.length := by have := (List.getElem?_eq_some_iff.mp ht).1; omega
      have en := neg_ints hil
      have htd : taps.getD i 0 = t := by rw [List.getD_eq_getElem?_getD, ht]; rfl
      refine ⟨mbE taps seed m bits (.fz (.int (toldB taps bits i))) (.fz (.int (i : Nat))) (.fz (.int t)), _, ?_, ?_, .fz (.int (i : Nat)), .fz (.int t), rfl, rfl, rfl⟩
      · show (setS (mbE taps seed m bits (.fz (.int (toldB taps bits i))) y5 y6) 5 (.fz (.int (i : Nat)))).bind (fun ρ => (setS ρ 6 (.fz (.int t))).bind fun ρ => some ρ) = _
        rw [setS_nio rfl p5, Option.bind_some, setS_nio rfl p6]
        rfl
      · rw [toldB, htd]
        unfold mbIn mbE
        refine ss_last ?_
        generalize bits.map D.int = bd at en ⊢
        generalize bits.getD (bits.length - 1 - i) 0 = bt at en ⊢
        generalize toldB taps bits i = td
        generalize iT taps = tp
        generalize iT seed = sd
        simp [evSs, evS, G.ev, evTs, evBs, evCs, evPs, evI, evQ, Res.bind, Res.sr, SR.seq, ofO, ofS, force, forces, Sl.get, ixN, bop, uop, RV.new, RV.held, D.sh, D.shs, D.ok, D.eqv, D.eqvs, truthOf, D.truth, G.take, setL, getL, ownL, reown, asgT, G.prim, isInts, G.elems, G.items, itemsR, walkB, retR, outOf, iosOf, noOw, fzAt, plainSl_some, pln_un, pln_fz, G.lock, G.unlock, G.back, wipeE, SR.unl, G.guard, argsS, argS, apart, slotOf, putBack, G.chk, outR, mutD, rangeOf, optI, G.slc, at3_0, at3_1, at3_2, at3_3, so_const, so_not, so_and, so_or, so_xor, so_pick, idx_tup, q1, q2, q3, q4, q5, q6, q7, q8, q9, q10, q11, q12, q13, q14, q15, idx_lst, cut1_1, cut1_2, cut1_3, -beq_eq_false_iff_ne, -beq_iff_eq, en, aop, setS])
  rw [enumD_len, List.length_map] at ef
  refine ⟨.fz (.int (nextB taps bits)), y5, y6, rfl, q5, q6, ?_⟩
  unfold mbB
  rw [ss_step s1, ss_step ef]
  refine ss_last ?_
  show evS F wf (.exp (.mut .append 3 (.cons (.var 4) .nil))) (mbE taps seed m bits (.fz (.int (nextB taps bits))) y5 y6) = _
  have hz2 : (bits.map D.int).length < sizeLine := by rw [List.length_map, sizeLine_eq]; omega
  unfold mbE
  rw [List.map_append]
  generalize bits.map D.int = bd at hz2 ⊢
  generalize nextB taps bits = nb
  generalize iT taps = tp
  generalize iT seed = sd
  simp [evSs, evS, G.ev, evTs, evBs, evCs, evPs, evI, evQ, Res.bind, Res.sr, SR.seq, ofO, ofS, force, forces, Sl.get, ixN, bop, uop, RV.new, RV.held, D.sh, D.shs, D.ok, D.eqv, D.eqvs, truthOf, D.truth, G.take, setL, getL, ownL, reown, asgT, G.prim, isInts, G.elems, G.items, itemsR, walkB, retR, outOf, iosOf, noOw, fzAt, plainSl_some, pln_un, pln_fz, G.lock, G.unlock, G.back, wipeE, SR.unl, G.guard, argsS, argS, apart, slotOf, putBack, G.chk, outR, mutD, rangeOf, optI, G.slc, at3_0, at3_1, at3_2, at3_3, so_const, so_not, so_and, so_or, so_xor, so_pick, idx_tup, q1, q2, q3, q4, q5, q6, q7, q8, q9, q10, q11, q12, q13, q14, q15, idx_lst, cut1_1, cut1_2, cut1_3, -beq_eq_false_iff_ne, -beq_iff_eq, hz2]
theorem mb_while {F : Fn} {wf : Nat} {taps seed : List Int} {m : Nat} : ∀ (d n : Nat) (bits : List Int) (x4 x5 x6 : Sl), d < n → taps.length ≤ bits.length → bits.length + d < 900 → (m = bits.length + d ∨ (d = 0 ∧ m ≤ bits.length)) → x4.nio = true → x5.nio = true → x6.nio = true →
    ∃ y4 y5 y6 : Sl, whN (fun ρ => (ev F mbC ρ).bind fun r ρ => truthOf ρ r) (evSs F wf mbB) n (mbE taps seed m bits x4 x5 x6) = .nx (mbE taps seed m (growB taps bits d) y4 y5 y6)
  | d, 0, bits, x4, x5, x6, hd, _, _, _, _, _, _ => by omega
  | d, n + 1, bits, x4, x5, x6, hd, hl, hz, hm, h4, h5, h6 => by
    have hc : ((ev F mbC (mbE taps seed m bits x4 x5 x6)).bind fun r ρ => truthOf ρ r) = .ok (decide (((bits.length : Nat) : Int) < (m : Int))) (mbE taps seed m bits x4 x5 x6) := by
      have hlen : prim .len [.lst (bits.map .int)] = some (.int (bits.length : Nat)) := by show some (D.int ((bits.map D.int).length : Nat)) = _; rw [List.length_map]
      unfold mbC mbE
      generalize D.lst (bits.map .int) = bd at hlen
      generalize ((bits.length : Nat) : Int) = l at hlen
      generalize iT taps = tp
      generalize iT seed = sd
      simp [evSs, evS, G.ev, evTs, evBs, evCs, evPs, evI, evQ, Res.bind, Res.sr, SR.seq, ofO, ofS, force, forces, Sl.get, ixN, bop, uop, RV.new, RV.held, D.sh, D.shs, D.ok, D.eqv, D.eqvs, truthOf, D.truth, G.take, setL, getL, ownL, reown, asgT, isInts, G.elems, G.items, itemsR, walkB, retR, outOf, iosOf, noOw, fzAt, plainSl_some, pln_un, pln_fz, G.lock, G.unlock, G.back, wipeE, SR.unl, G.guard, argsS, argS, apart, slotOf, putBack, G.chk, outR, mutD, rangeOf, optI, G.slc, at3_0, at3_1, at3_2, at3_3, so_const, so_not, so_and, so_or, so_xor, so_pick, idx_tup, q1, q2, q3, q4, q5, q6, q7, q8, q9, q10, q11, q12, q13, q14, q15, idx_lst, cut1_1, cut1_2, cut1_3, -beq_eq_false_iff_ne, -beq_iff_eq, hlen]
    rw [whN, hc]
    cases d with
    | zero =>
      have : ¬ ((bits.length : Nat) : Int) < (m : Int) := by omega
      rw [decide_eq_false this]
      exact ⟨x4, x5, x6, rfl⟩
    | succ d =>
      have hmd : m = bits.length + (d + 1) := by omega
      have : ((bits.length : Nat) : Int) < (m : Int) := by omega
      rw [decide_eq_true this]
      obtain ⟨y4, y5, y6, q4, q5, q6, eb⟩ := mb_body (F := F) (wf := wf) (seed := seed) (m := m) hl (by omega) h4 h5 h6
      obtain ⟨z4, z5, z6, ew⟩ := mb_while (F := F) (wf := wf) (taps := taps) (seed := seed) (m := m) d n (bits ++ [nextB taps bits]) y4 y5 y6 (by omega) (by rw [List.length_append]; omega) (by rw [List.length_append, List.length_singleton]; omega) (by rw [List.length_append, List.length_singleton]; omega) q4 q5 q6
      refine ⟨z4, z5, z6, ?_⟩
      show (match evSs F wf mbB (mbE taps seed m bits x4 x5 x6) with | .nx ρ => whN _ _ n ρ | .ct ρ => whN _ _ n ρ | .bk ρ => SR.nx ρ | r => r) = _
      rw [eb]
      exact ew
theorem mb_fn {T : List Fd} {wf k v : Nat} (t14 : T[v]? = some ⟨7, 3, mbSs⟩) (hwf : 1000 ≤ wf) {taps seed : List Int} {m : Nat} (hl : taps.length ≤ seed.length) (h1 : seed.length ≤ m) (h2 : m < 800) : callN T wf (k + 1) v [.fz (iT taps), .fz (iT seed), .fz (.int m)] = .rt false (iT (mbF taps seed m)) [] := by
  have s1 : evS (callN T wf k) wf (.asg (.nm 3) (.prim .list (.cons (.var 1) .nil))) [.fz (iT taps), .fz (iT seed), .fz (.int m), .un, .un, .un, .un] = .nx (mbE taps seed m seed .un .un .un) := by
    refine asg_own (d := .lst (seed.map .int)) (ρ1 := [.fz (iT taps), .fz (iT seed), .fz (.int m), .un, .un, .un, .un]) ?_ rfl
    rfl
  obtain ⟨y4, y5, y6, ew⟩ := mb_while (F := callN T wf k) (wf := wf) (taps := taps) (seed := seed) (m := m) (m - seed.length) wf seed .un .un .un (by omega) hl (by omega) (by omega) rfl rfl rfl
  have sw : evS (callN T wf k) wf (.whl mbC mbB) (mbE taps seed m seed .un .un .un) = .nx (mbE taps seed m (growB taps seed (m - seed.length)) y4 y5 y6) := by rw [evS]; exact ew
  have hcut := cut_to (xs := (growB taps seed (m - seed.length)).map .int) (m := m)
  have hmt : ((growB taps seed (m - seed.length)).map D.int).take m = (mbF taps seed m).map .int := by unfold mbF; rw [List.map_take]
  rw [hmt] at hcut
  rw [callN_eq t14 rfl rfl]
  show outOf [.fz (iT taps), .fz (iT seed), .fz (.int m)] (evSs (callN T wf k) wf mbSs [.fz (iT taps), .fz (iT seed), .fz (.int m), .un, .un, .un, .un]) = _
  unfold mbSs
  rw [ss_step s1, ss_step sw, ss_ret (o := false) (d := iT (mbF taps seed m)) (ρ' := mbE taps seed m (growB taps seed (m - seed.length)) y4 y5 y6) (by
    unfold mbE iT
    generalize (growB taps seed (m - seed.length)).map D.int = gd at hcut ⊢
    generalize (mbF taps seed m).map D.int = md at hcut ⊢
    generalize taps.map D.int = tp
    generalize seed.map D.int = sd
    generalize (m : Int) = mi at hcut ⊢
    simp [evSs, evS, G.ev, evTs, evBs, evCs, evPs, evI, evQ, Res.bind, Res.sr, SR.seq, ofO, ofS, force, forces, Sl.get, ixN, bop, uop, RV.new, RV.held, D.sh, D.shs, D.ok, D.eqv, D.eqvs, truthOf, D.truth, G.take, setL, getL, ownL, reown, asgT, G.prim, isInts, G.elems, G.items, itemsR, walkB, retR, outOf, iosOf, noOw, fzAt, plainSl_some, pln_un, pln_fz, G.lock, G.unlock, G.back, wipeE, SR.unl, G.guard, argsS, argS, apart, slotOf, putBack, G.chk, outR, mutD, rangeOf, optI, G.slc, at3_0, at3_1, at3_2, at3_3, so_const, so_not, so_and, so_or, so_xor, so_pick, idx_tup, q1, q2, q3, q4, q5, q6, q7, q8, q9, q10, q11, q12, q13, q14, q15, idx_lst, cut1_1, cut1_2, cut1_3, -beq_eq_false_iff_ne, -beq_iff_eq, hcut])]
  rfl
end G
end

section
set_option Elab.async false
set_option linter.all false
set_option maxRecDepth 100000
set_option maxHeartbeats 4000000
/-! P13: rows, draws, sums, powers of two (in part from k59). -/
namespace G
open PySem PySem.Spec PyProof.Rows L2
theorem sh_intsN (n : Nat) (xs : List Int) : D.shs (n + 1) (xs.map .int) = true := by
  induction xs with
  | nil => rfl
  | cons x xs ih => rw [List.map_cons, D.shs, ih]; rfl
theorem sh_rows (rs : List (List Int)) : D.shs 59 (rs.map iT) = true := by
  induction rs with
  | nil => rfl
  | cons r rs ih =>
    rw [List.map_cons, D.shs, ih, Bool.and_true]
    exact sh_intsN 57 r
theorem eqvs_ints : ∀ xs ys : List Int, D.eqvs (xs.map .int) (ys.map .int) = decide (xs = ys)
  | [], [] => rfl
  | [], y :: ys => by rw [decide_eq_false (by simp [evSs, evS, G.ev, evTs, evBs, evCs, evPs, evI, evQ, Res.bind, Res.sr, SR.seq, ofO, ofS, force, forces, Sl.get, ixN, bop, uop, RV.new, RV.held, D.sh, D.shs, D.ok, D.eqv, D.eqvs, truthOf, D.truth, G.take, setL, getL, ownL, reown, asgT, G.prim, isInts, G.elems, G.items, itemsR, walkB, retR, outOf, iosOf, noOw, fzAt, plainSl_some, pln_un, pln_fz, G.lock, G.unlock, G.back, wipeE, SR.unl, G.guard, argsS, argS, apart, slotOf, putBack, G.chk, outR, mutD, rangeOf, optI, G.slc, at3_0, at3_1, at3_2, at3_3, so_const, so_not, so_and, so_or, so_xor, so_pick, idx_tup, q1, q2, q3, q4, q5, q6, q7, q8, q9, q10, q11, q12, q13, q14, q15, idx_lst, cut1_1, cut1_2, cut1_3, -beq_eq_false_iff_ne, -beq_iff_eq])]; rfl
  | x :: xs, [] => by rw [decide_eq_false (by simp [evSs, evS, G.ev, evTs, evBs, evCs, evPs, evI, evQ, Res.bind, Res.sr, SR.seq, ofO, ofS, force, forces, Sl.get, ixN, bop, uop, RV.new, RV.held, D.sh, D.shs, D.ok, D.eqv, D.eqvs, truthOf, D.truth, G.take, setL, getL, ownL, reown, asgT, G.prim, isInts, G.elems, G.items, itemsR, walkB, retR, outOf, iosOf, noOw, fzAt, plainSl_some, pln_un, pln_fz, G.lock, G.unlock, G.back, wipeE, SR.unl, G.guard, argsS, argS, apart, slotOf, putBack, G.chk, outR, mutD, rangeOf, optI, G.slc, at3_0, at3_1, at3_2, at3_3, so_const, so_not, so_and, so_or, so_xor, so_pick, idx_tup, q1, q2, q3, q4, q5, q6, q7, q8, q9, q10, q11, q12, q13, q14, q15, idx_lst, cut1_1, cut1_2, cut1_3, -beq_eq_false_iff_ne, -beq_iff_eq])]; rfl
  | x :: xs, y :: ys => by
    rw [List.map_cons, List.map_cons, D.eqvs, eqvs_ints xs ys]
    have hxy : (x == y) = decide (x = y) := rfl
    show ((x == y) && decide (xs = ys)) = _
    rw [hxy]
    by_cases h1 : x = y <;> by_cases h2 : xs = ys <;> simp [evSs, evS, G.ev, evTs, evBs, evCs, evPs, evI, evQ, Res.bind, Res.sr, SR.seq, ofO, ofS, force, forces, Sl.get, ixN, bop, uop, RV.new, RV.held, D.sh, D.shs, D.ok, D.eqv, D.eqvs, truthOf, D.truth, G.take, setL, getL, ownL, reown, asgT, G.prim, isInts, G.elems, G.items, itemsR, walkB, retR, outOf, iosOf, noOw, fzAt, plainSl_some, pln_un, pln_fz, G.lock, G.unlock, G.back, wipeE, SR.unl, G.guard, argsS, argS, apart, slotOf, putBack, G.chk, outR, mutD, rangeOf, optI, G.slc, at3_0, at3_1, at3_2, at3_3, so_const, so_not, so_and, so_or, so_xor, so_pick, idx_tup, q1, q2, q3, q4, q5, q6, q7, q8, q9, q10, q11, q12, q13, q14, q15, idx_lst, cut1_1, cut1_2, cut1_3, -beq_eq_false_iff_ne, -beq_iff_eq, h1, h2]
theorem eqvs_rows : ∀ xs ys : List (List Int), D.eqvs (xs.map iT) (ys.map iT) = decide (xs = ys)
  | [], [] => rfl
  | [], y :: ys => by rw [decide_eq_false (by simp [evSs, evS, G.ev, evTs, evBs, evCs, evPs, evI, evQ, Res.bind, Res.sr, SR.seq, ofO, ofS, force, forces, Sl.get, ixN, bop, uop, RV.new, RV.held, D.sh, D.shs, D.ok, D.eqv, D.eqvs, truthOf, D.truth, G.take, setL, getL, ownL, reown, asgT, G.prim, isInts, G.elems, G.items, itemsR, walkB, retR, outOf, iosOf, noOw, fzAt, plainSl_some, pln_un, pln_fz, G.lock, G.unlock, G.back, wipeE, SR.unl, G.guard, argsS, argS, apart, slotOf, putBack, G.chk, outR, mutD, rangeOf, optI, G.slc, at3_0, at3_1, at3_2, at3_3, so_const, so_not, so_and, so_or, so_xor, so_pick, idx_tup, q1, q2, q3, q4, q5, q6, q7, q8, q9, q10, q11, q12, q13, q14, q15, idx_lst, cut1_1, cut1_2, cut1_3, -beq_eq_false_iff_ne, -beq_iff_eq])]; rfl
  | x :: xs, [] => by rw [decide_eq_false (by simp [evSs, evS, G.ev, evTs, evBs, evCs, evPs, evI, evQ, Res.bind, Res.sr, SR.seq, ofO, ofS, force, forces, Sl.get, ixN, bop, uop, RV.new, RV.held, D.sh, D.shs, D.ok, D.eqv, D.eqvs, truthOf, D.truth, G.take, setL, getL, ownL, reown, asgT, G.prim, isInts, G.elems, G.items, itemsR, walkB, retR, outOf, iosOf, noOw, fzAt, plainSl_some, pln_un, pln_fz, G.lock, G.unlock, G.back, wipeE, SR.unl, G.guard, argsS, argS, apart, slotOf, putBack, G.chk, outR, mutD, rangeOf, optI, G.slc, at3_0, at3_1, at3_2, at3_3, so_const, so_not, so_and, so_or, so_xor, so_pick, idx_tup, q1, q2, q3, q4, q5, q6, q7, q8, q9, q10, q11, q12, q13, q14, q15, idx_lst, cut1_1, cut1_2, cut1_3, -beq_eq_false_iff_ne, -beq_iff_eq])]; rfl
  | x :: xs, y :: ys => by
    rw [List.map_cons, List.map_cons, D.eqvs, eqvs_rows xs ys]
    have : D.eqv (iT x) (iT y) = decide (x = y) := eqvs_ints x y
    rw [this]
    by_cases h1 : x = y <;> by_cases h2 : xs = ys <;> simp [evSs, evS, G.ev, evTs, evBs, evCs, evPs, evI, evQ, Res.bind, Res.sr, SR.seq, ofO, ofS, force, forces, Sl.get, ixN, bop, uop, RV.new, RV.held, D.sh, D.shs, D.ok, D.eqv, D.eqvs, truthOf, D.truth, G.take, setL, getL, ownL, reown, asgT, G.prim, isInts, G.elems, G.items, itemsR, walkB, retR, outOf, iosOf, noOw, fzAt, plainSl_some, pln_un, pln_fz, G.lock, G.unlock, G.back, wipeE, SR.unl, G.guard, argsS, argS, apart, slotOf, putBack, G.chk, outR, mutD, rangeOf, optI, G.slc, at3_0, at3_1, at3_2, at3_3, so_const, so_not, so_and, so_or, so_xor, so_pick, idx_tup, q1, q2, q3, q4, q5, q6, q7, q8, q9, q10, q11, q12, q13, q14, q15, idx_lst, cut1_1, cut1_2, cut1_3, -beq_eq_false_iff_ne, -beq_iff_eq, h1, h2]
theorem ne_ev2 {F : Fn} {ρ : Ev} {a b : E} {r s : RV} {x y : D} {q : Bool} (ha : ev F a ρ = .ok r ρ) (hr : force ρ r = some x) (hb : ev F b ρ = .ok s ρ) (hs : force ρ s = some y) (ho : D.sh 60 x = true) (ho2 : D.sh 60 y = true) (he : D.eqv x y = q) :
    ev F (.bin .ne a b) ρ = .ok (.val (.bl (!q))) ρ := by
  rw [ev, ha]
  show ((ev F b ρ).bind fun s ρ => ofO (((force ρ r).bind fun x => (force ρ s).bind fun y => bop .ne x y).map RV.new) ρ) = _
  rw [hb]
  show ofO (((force ρ r).bind fun x => (force ρ s).bind fun y => bop .ne x y).map RV.new) ρ = _
  rw [hr, Option.bind_some, hs, Option.bind_some]
  have e : bop .ne x y = some (.bl (!q)) := by
    show (if (D.sh 60 x && D.sh 60 y) = true then some (D.bl (!D.eqv x y)) else none) = _
    rw [ho, ho2, he]
    rfl
  rw [e]
  rfl
theorem eq_ev2 {F : Fn} {ρ : Ev} {a b : E} {r s : RV} {x y : D} {q : Bool} (ha : ev F a ρ = .ok r ρ) (hr : force ρ r = some x) (hb : ev F b ρ = .ok s ρ) (hs : force ρ s = some y) (ho : D.sh 60 x = true) (ho2 : D.sh 60 y = true) (he : D.eqv x y = q) :
    ev F (.bin .eq a b) ρ = .ok (.val (.bl q)) ρ := by
  rw [ev, ha]
  show ((ev F b ρ).bind fun s ρ => ofO (((force ρ r).bind fun x => (force ρ s).bind fun y => bop .eq x y).map RV.new) ρ) = _
  rw [hb]
  show ofO (((force ρ r).bind fun x => (force ρ s).bind fun y => bop .eq x y).map RV.new) ρ = _
  rw [hr, Option.bind_some, hs, Option.bind_some]
  have e : bop .eq x y = some (.bl q) := by
    show (if (D.sh 60 x && D.sh 60 y) = true then some (D.bl (D.eqv x y)) else none) = _
    rw [ho, ho2, he]
    rfl
  rw [e]
  rfl
theorem inInt_small {i : Int} (h0 : -1000 ≤ i) (h1 : i ≤ 1000) : inInt i = true := by
  simp only [inInt, Bool.and_eq_true, decide_eq_true_eq]
  omega
theorem max2_eq (i j : Int) : prim .max2 [.int i, .int j] = some (.int (if j > i then j else i)) := by rw [prim]
theorem mulI {i j : Int} (h : inInt j = true) : bop .mul (.int i) (.int j) = some (.int (i * j)) := by
  have e : bop .mul (.int i) (.int j) = if (inInt i || inInt j) = true then some (.int (i * j)) else none := by rw [bop]
  rw [e, if_pos (by rw [h, Bool.or_true])]
theorem evI_one {F : Fn} {ρ ρ1 : Ev} {e : E} {n : Nat} {r : RV} (h : ev F e ρ = .ok r ρ1) (hr : force ρ1 r = some (.int (n : Nat))) (hn : n ≤ 1000) : evI F (.rng (.cons e .nil)) ρ = .ok (rangeD 0 n, []) ρ1 := by
  have i1 := inR_small (i := (n : Int)) (by omega) (by omega)
  have e0 : rangeOf [D.int (n : Int)] = some (rangeD 0 n) := by
    show (if inR (n : Int) = true then some (rangeD 0 (n : Int).toNat) else none) = _
    rw [if_pos i1, Int.toNat_natCast]
  have e1 : evBs F (.cons e .nil) ρ = .ok [r] ρ1 := by rw [evBs, h]; rfl
  have e2 : forces ρ1 [r] = some [D.int (n : Int)] := by
    show ((force ρ1 r).bind fun d => (forces ρ1 []).map (d :: ·)) = _
    rw [hr]
    rfl
  have e3 : ∀ (f : List RV → Ev → Res (List D × List RV)) (rs : List RV) (ρ : Ev), (Res.ok rs ρ).bind f = f rs ρ := fun _ _ _ => rfl
  rw [evI, e1, e3, e2, Option.bind_some, e0, Option.map_some]
  rfl
/-- a row of takes; what is walked may take, too -/
theorem row2_ev {F : Fn} {m : Int} (hm : 0 < m) {e : E} {it : G.It} {v : Nat} {items : List D} {mk : Dr → Sl → Ev} {r r1 : Dr} (h : DrOk r1) {x : Sl}
    (hi : evI F it (mk r x) = .ok (items, []) (mk r1 x)) (hp : plainSl (mk r1 x)[v]? = true) (hw : ∀ r y, wipeE (mk r y) [v] = mk r .un) (ha : ∀ d r, asgT (mk r .un) (.nm v) (.val d) = some (mk r (.fz d))) (hb : ∀ r', back (mk r1 x) (mk r' .un) [v] = mk r' x)
    (he : ∀ d r, DrOk r → ev F e (mk r (.fz d)) = .ok (.val (.int (takeF r m).1)) (mk (takeF r m).2 (.fz d))) (hz : items.length ≤ 1000) :
    ∃ (xs : List Int) (r' : Dr), DrOk r' ∧ xs.length = items.length ∧ (∀ x ∈ xs, 0 ≤ x ∧ x < m) ∧ ev F (.comp [v] (.nm v) it (.con (.bl true)) (.yld e)) (mk r x) = .ok (.own (.lst (xs.map .int))) (mk r' x) := by
  obtain ⟨xs, r', e1, hr, hl, hb'⟩ := takes_loop (vs := [v]) (f := turnF F (.nm v) (.con (.bl true)) (evQ F (.yld e))) hm (fun r => mk r .un) (ds := items)
    (fun d hd r hr => by
      refine ⟨mk (takeF r m).2 (.fz d), ?_, hw _ _⟩
      unfold turnF
      rw [ha]
      simp [evSs, evS, G.ev, evTs, evBs, evCs, evPs, evI, evQ, Res.bind, Res.sr, SR.seq, ofO, ofS, force, forces, Sl.get, ixN, bop, uop, RV.new, RV.held, D.sh, D.shs, D.ok, D.eqv, D.eqvs, truthOf, D.truth, G.take, setL, getL, ownL, reown, asgT, G.prim, isInts, G.elems, G.items, itemsR, walkB, retR, outOf, iosOf, noOw, fzAt, plainSl_some, pln_un, pln_fz, G.lock, G.unlock, G.back, wipeE, SR.unl, G.guard, argsS, argS, apart, slotOf, putBack, G.chk, outR, mutD, rangeOf, optI, G.slc, at3_0, at3_1, at3_2, at3_3, so_const, so_not, so_and, so_or, so_xor, so_pick, idx_tup, q1, q2, q3, q4, q5, q6, q7, q8, q9, q10, q11, q12, q13, q14, q15, idx_lst, cut1_1, cut1_2, cut1_3, -beq_eq_false_iff_ne, -beq_iff_eq, he d r hr]) r1 h
  refine ⟨xs, r', hr, hl, hb', ?_⟩
  have e := comp_ev (F := F) (vs := [v]) (t := .nm v) (it := it) (c := .con (.bl true)) (q := .yld e) (ρ := mk r x) (ρ1 := mk r1 x) (p := (items, [])) hi (by simpa [evSs, evS, G.ev, evTs, evBs, evCs, evPs, evI, evQ, Res.bind, Res.sr, SR.seq, ofO, ofS, force, forces, Sl.get, ixN, bop, uop, RV.new, RV.held, D.sh, D.shs, D.ok, D.eqv, D.eqvs, truthOf, D.truth, G.take, setL, getL, ownL, reown, asgT, G.prim, isInts, G.elems, G.items, itemsR, walkB, retR, outOf, iosOf, noOw, fzAt, plainSl_some, pln_un, pln_fz, G.lock, G.unlock, G.back, wipeE, SR.unl, G.guard, argsS, argS, apart, slotOf, putBack, G.chk, outR, mutD, rangeOf, optI, G.slc, at3_0, at3_1, at3_2, at3_3, so_const, so_not, so_and, so_or, so_xor, so_pick, idx_tup, q1, q2, q3, q4, q5, q6, q7, q8, q9, q10, q11, q12, q13, q14, q15, idx_lst, cut1_1, cut1_2, cut1_3, -beq_eq_false_iff_ne, -beq_iff_eq] using hp) (by show loopC _ _ _ (wipeE (mk r1 x) [v]) = _; rw [hw]; exact e1) (by rw [List.length_map, hl]; exact sizeLine_big hz)
  rw [e]
  show Res.ok _ (back (mk r1 x) (mk r' .un) [v]) = _
  rw [hb]
theorem mulZ {n : Nat} (hk : n ≤ 1000) : bop .mul (.tup [.int 0]) (.int (n : Nat)) = some (iT (List.replicate n 0)) := by
  have hf : (List.replicate n [D.int 0]).flatten = (List.replicate n (0 : Int)).map .int := by
    induction n with
    | zero => rfl
    | succ n ih => rw [List.replicate_succ, List.flatten_cons, ih (by omega)]; rfl
  have hb : (decide (-(2 ^ 63) ≤ ((n : Nat) : Int)) && decide (((n : Nat) : Int) ≤ 1000) && decide ([D.int 0].length ≤ 1000)) = true := by
    simp only [Bool.and_eq_true, decide_eq_true_eq]
    exact ⟨⟨by omega, by omega⟩, by decide⟩
  have e : bop .mul (.tup [.int 0]) (.int (n : Nat)) = if (decide (-(2 ^ 63) ≤ ((n : Nat) : Int)) && decide (((n : Nat) : Int) ≤ 1000) && decide ([D.int 0].length ≤ 1000)) = true then some (.tup (List.replicate ((n : Nat) : Int).toNat [D.int 0]).flatten) else none := by rw [bop]
  rw [e, if_pos hb, Int.toNat_natCast, hf]
  rfl
theorem sum_ev {F : Fn} {ρ : Ev} {e : E} {xs : List Int} (h : ev F e ρ = .ok (.own (.lst (xs.map .int))) ρ) : ev F (.prim .sum (.cons e .nil)) ρ = .ok (.val (.int xs.sum)) ρ := by
  rw [ev, evBs, h]
  show ofO (((some [D.lst (xs.map .int)]).bind (prim .sum)).map RV.new) ρ = _
  rw [Option.bind_some]
  have e : prim .sum [.lst (xs.map .int)] = some (.int xs.sum) := by
    show (isInts (xs.map .int)).map (fun is => D.int is.sum) = _
    rw [ints_is]
    rfl
  rw [e]
  rfl
/-! ### _law_two -/
def twoB : Ss := .cons (.asg (.nm 1) (.bin .mul (.con (.int 2)) (.var 1))) .nil
def twoSs : Ss := .cons (.asg (.nm 1) (.con (.int 1))) (.cons (.for (.nm 2) (.rng (.cons (.var 0) .nil)) twoB) (.cons (.ret (.var 1)) .nil))
theorem two_lt {i : Nat} (h : i ≤ 60) : (2 : Int) ^ i ≤ 2 ^ 60 := by
  have := Nat.pow_le_pow_right (n := 2) (by decide) h
  exact_mod_cast this
theorem two_pos (i : Nat) : (0 : Int) < 2 ^ i := Int.pow_pos (by decide)
theorem two_fn {T : List Fd} {wf k v : Nat} (tv : T[v]? = some ⟨3, 1, twoSs⟩) {n : Nat} (hn : n ≤ 40) : callN T wf (k + 1) v [.fz (.int (n : Nat))] = .rt false (.int ((2 : Int) ^ n)) [] := by
  obtain ⟨ρ', ⟨y2, rfl, _⟩, ef⟩ := for_ind (F := callN T wf k) (wf := wf) (t := .nm 2) (it := .rng (.cons (.var 0) .nil)) (b := twoB) (ρ := [.fz (.int (n : Nat)), .fz (.int 1), .un]) (ρ1 := [.fz (.int (n : Nat)), .fz (.int 1), .un]) (p := (rangeD 0 n, [])) (evI_var rfl (by omega))
    (fun i ρ => ∃ y2 : Sl, ρ = [.fz (.int (n : Nat)), .fz (.int ((2 : Int) ^ i)), y2] ∧ y2.nio = true)
    ⟨.un, rfl, rfl⟩
    (fun i d ρ hd ⟨y2, e', p2⟩ => by
      obtain ⟨rfl, hi⟩ := rangeD_at hd
      subst e'
      refine ⟨_, [.fz (.int (n : Nat)), .fz (.int ((2 : Int) ^ (i + 1))), .fz (.int (0 + (i : Nat)))], setS_nio rfl p2, ?_, .fz (.int (0 + (i : Nat))), rfl, rfl⟩
      have hm : inInt ((2 : Int) ^ i) = true := by
        have h1 := two_lt (i := i) (by omega)
        have h2 := two_pos i
        rw [inInt]
        simp only [Bool.and_eq_true, decide_eq_true_eq]
        constructor <;> omega
      show evSs _ wf twoB [.fz (.int (n : Nat)), .fz (.int ((2 : Int) ^ i)), .fz (.int (0 + (i : Nat)))] = _
      have hb := mulI (i := 2) hm
      have e2 : (2 : Int) * 2 ^ i = 2 ^ (i + 1) := by rw [Int.pow_succ]; omega
      rw [e2] at hb
      generalize (2 : Int) ^ i = z at hb ⊢
      generalize (2 : Int) ^ (i + 1) = z2 at hb ⊢
      unfold twoB
      refine ss_last ?_
      simp [evSs, evS, G.ev, evTs, evBs, evCs, evPs, evI, evQ, Res.bind, Res.sr, SR.seq, ofO, ofS, force, forces, Sl.get, ixN, uop, RV.new, RV.held, D.sh, D.shs, D.ok, D.eqv, D.eqvs, truthOf, D.truth, G.take, setL, getL, ownL, reown, asgT, G.prim, isInts, G.elems, G.items, itemsR, walkB, retR, outOf, iosOf, noOw, fzAt, plainSl_some, pln_un, pln_fz, G.lock, G.unlock, G.back, wipeE, SR.unl, G.guard, argsS, argS, apart, slotOf, putBack, G.chk, outR, mutD, rangeOf, optI, G.slc, at3_0, at3_1, at3_2, at3_3, so_const, so_not, so_and, so_or, so_xor, so_pick, idx_tup, q1, q2, q3, q4, q5, q6, q7, q8, q9, q10, q11, q12, q13, q14, q15, idx_lst, cut1_1, cut1_2, cut1_3, -beq_eq_false_iff_ne, -beq_iff_eq, hb, setS])
  rw [rangeD_len] at ef
  rw [callN_eq tv rfl rfl]
  show outOf [.fz (.int (n : Nat))] (evSs (callN T wf k) wf twoSs [.fz (.int (n : Nat)), .un, .un]) = _
  have s1 : evS (callN T wf k) wf (.asg (.nm 1) (.con (.int 1))) [.fz (.int (n : Nat)), .un, .un] = .nx [.fz (.int (n : Nat)), .fz (.int 1), .un] := rfl
  unfold twoSs
  rw [ss_step s1, ss_step ef, ss_ret (o := false) (d := .int ((2 : Int) ^ n)) (ρ' := [.fz (.int (n : Nat)), .fz (.int ((2 : Int) ^ n)), y2]) rfl]
  rfl
end G
end

section
set_option Elab.async false
set_option linter.all false
set_option maxRecDepth 100000
set_option maxHeartbeats 4000000
/-! P14: loops that may return, all rows of bits. -/
namespace G
open PySem PySem.Spec PyProof.Rows L2
/-! ### loops that may return -/
theorem forN_find {f : D → Ev → SR} (P : Nat → Ev → Prop) (R : Bool → D → Ev → Prop) : ∀ (es : List D) (n : Nat), (∀ i d ρ, es[i]? = some d → P (n + i) ρ → (∃ ρ', (f d ρ = .nx ρ' ∨ f d ρ = .ct ρ') ∧ P (n + i + 1) ρ') ∨ ∃ o v ρ', f d ρ = .rt o v ρ' ∧ R o v ρ') → ∀ {ρ : Ev}, P n ρ →
    (∃ ρ', forN f es ρ = .nx ρ' ∧ P (n + es.length) ρ') ∨ ∃ o v ρ', forN f es ρ = .rt o v ρ' ∧ R o v ρ'
  | [], n, _, ρ, h0 => .inl ⟨ρ, rfl, h0⟩
  | d :: es, n, hs, ρ, h0 => by
    rcases hs 0 d ρ rfl h0 with ⟨ρ1, e1, q1⟩ | ⟨o, v, ρ1, e1, q1⟩
    · have h2 := forN_find P R es (n + 1) (fun i d ρ hd hp => by
        have q := hs (i + 1) d ρ (by simpa [evSs, evS, G.ev, evTs, evBs, evCs, evPs, evI, evQ, Res.bind, Res.sr, SR.seq, ofO, ofS, force, forces, Sl.get, ixN, bop, uop, RV.new, RV.held, D.sh, D.shs, D.ok, D.eqv, D.eqvs, truthOf, D.truth, G.take, setL, getL, ownL, reown, asgT, G.prim, isInts, G.elems, G.items, itemsR, walkB, retR, outOf, iosOf, noOw, fzAt, plainSl_some, pln_un, pln_fz, G.lock, G.unlock, G.back, wipeE, SR.unl, G.guard, argsS, argS, apart, slotOf, putBack, G.chk, outR, mutD, rangeOf, optI, G.slc, at3_0, at3_1, at3_2, at3_3, so_const, so_not, so_and, so_or, so_xor, so_pick, idx_tup, q1, q2, q3, q4, q5, q6, q7, q8, q9, q10, q11, q12, q13, q14, q15, idx_lst, cut1_1, cut1_2, cut1_3, -beq_eq_false_iff_ne, -beq_iff_eq] using hd) (by rw [show n + (i + 1) = n + 1 + i by omega]; exact hp)
        have e : n + (i + 1) + 1 = n + 1 + i + 1 := by omega
        rw [e] at q
        exact q) q1
      have e : forN f (d :: es) ρ = forN f es ρ1 := by
        simp only [forN]
        rcases e1 with e1 | e1 <;> rw [e1]
      rw [e]
      rcases h2 with ⟨ρ2, e2, q2⟩ | h2
      · exact .inl ⟨ρ2, e2, by rw [List.length_cons, Nat.add_comm es.length 1, ← Nat.add_assoc]; exact q2⟩
      · exact .inr h2
    · refine .inr ⟨o, v, ρ1, ?_, q1⟩
      simp only [forN]
      rw [e1]
theorem for_find {F : Fn} {wf : Nat} {t : Tg} {it : G.It} {b : Ss} {ρ ρ1 : Ev} {p : List D × List RV} (hi : evI F it ρ = .ok p ρ1) (P : Nat → Ev → Prop) (R : Bool → D → Ev → Prop) (h0 : P 0 (lock ρ1 p.2))
    (hs : ∀ i d ρ, p.1[i]? = some d → P i ρ → ∃ ρ', asgT ρ t (.val d) = some ρ' ∧ ((∃ ρ'', evSs F wf b ρ' = .nx ρ'' ∧ P (i + 1) ρ'') ∨ ∃ o v ρ'', evSs F wf b ρ' = .rt o v ρ'' ∧ R o v ρ'')) :
    (∃ ρ', P p.1.length ρ' ∧ evS F wf (.for t it b) ρ = .nx (unlock ρ1 ρ' p.2)) ∨ ∃ o v ρ', R o v ρ' ∧ evS F wf (.for t it b) ρ = .rt o v (unlock ρ1 ρ' p.2) := by
  rcases forN_find (f := fun d ρ => (ofS (asgT ρ t (.val d))).seq (evSs F wf b)) P R p.1 0 (fun i d ρ hd hp => by
    rw [Nat.zero_add] at hp ⊢
    obtain ⟨ρ2, e1, h⟩ := hs i d ρ hd hp
    rcases h with ⟨ρ3, e2, q⟩ | ⟨o, v, ρ3, e2, q⟩
    · exact .inl ⟨ρ3, .inl (by simp only [e1, ofS, SR.seq, e2]), q⟩
    · exact .inr ⟨o, v, ρ3, by simp only [e1, ofS, SR.seq, e2], q⟩) h0 with ⟨ρ', e, q⟩ | ⟨o, v, ρ', e, q⟩
  · rw [Nat.zero_add] at q
    exact .inl ⟨ρ', q, by simp only [evS, hi, Res.sr, e, SR.unl]⟩
  · exact .inr ⟨o, v, ρ', q, by simp only [evS, hi, Res.sr, e, SR.unl]⟩
/-! ### all rows of bits -/
def rowsF : Nat → List (List Int)
  | 0 => [[]]
  | n + 1 => (rowsF n).flatMap fun r => [r ++ [0], r ++ [1]]
theorem rowsF_len : ∀ n, (rowsF n).length = 2 ^ n
  | 0 => rfl
  | n + 1 => by
    have h : ∀ l : List (List Int), (l.flatMap fun r => [r ++ [0], r ++ [1]]).length = 2 * l.length := fun l => by
      induction l with
      | nil => rfl
      | cons x l ih => rw [List.flatMap_cons, List.length_append, ih, List.length_cons]; simp [evSs, evS, G.ev, evTs, evBs, evCs, evPs, evI, evQ, Res.bind, Res.sr, SR.seq, ofO, ofS, force, forces, Sl.get, ixN, bop, uop, RV.new, RV.held, D.sh, D.shs, D.ok, D.eqv, D.eqvs, truthOf, D.truth, G.take, setL, getL, ownL, reown, asgT, G.prim, isInts, G.elems, G.items, itemsR, walkB, retR, outOf, iosOf, noOw, fzAt, plainSl_some, pln_un, pln_fz, G.lock, G.unlock, G.back, wipeE, SR.unl, G.guard, argsS, argS, apart, slotOf, putBack, G.chk, outR, mutD, rangeOf, optI, G.slc, at3_0, at3_1, at3_2, at3_3, so_const, so_not, so_and, so_or, so_xor, so_pick, idx_tup, q1, q2, q3, q4, q5, q6, q7, q8, q9, q10, q11, q12, q13, q14, q15, idx_lst, cut1_1, cut1_2, cut1_3, -beq_eq_false_iff_ne, -beq_iff_eq]; omega
    rw [rowsF, h, rowsF_len n, Nat.pow_succ]
    omega
theorem rowsF_mem : ∀ {n : Nat} {r : List Int}, r ∈ rowsF n → r.length = n ∧ Bits r
  | 0, r, h => by
    rw [List.mem_singleton.mp h]
    exact ⟨rfl, fun x hx => by cases hx⟩
  | n + 1, r, h => by
    obtain ⟨q, hq, hr⟩ := List.mem_flatMap.mp h
    obtain ⟨l, b⟩ := rowsF_mem hq
    rcases List.mem_cons.mp hr with rfl | hr
    · exact ⟨by rw [List.length_append, l]; rfl, fun x hx => (List.mem_append.mp hx).elim (b x) fun hx => .inl (List.mem_singleton.mp hx)⟩
    · rw [List.mem_singleton.mp hr]
      exact ⟨by rw [List.length_append, l]; rfl, fun x hx => (List.mem_append.mp hx).elim (b x) fun hx => .inr (List.mem_singleton.mp hx)⟩
theorem rowsF_all : ∀ {n : Nat} {r : List Int}, r.length = n → Bits r → r ∈ rowsF n
  | 0, [], _, _ => List.mem_singleton.mpr rfl
  | n + 1, r, hl, hb => by
    have hne : r ≠ [] := fun e => by rw [e] at hl; cases hl
    have hd : r.dropLast ++ [r.getLast hne] = r := List.dropLast_concat_getLast hne
    rw [rowsF, List.mem_flatMap]
    refine ⟨r.dropLast, rowsF_all (by rw [List.length_dropLast, hl]; rfl) fun x hx => hb x ((List.dropLast_sublist _).subset hx), ?_⟩
    rcases hb _ (List.getLast_mem hne) with e | e
    · rw [e] at hd
      rw [hd]
      exact List.mem_cons_self ..
    · rw [e] at hd
      rw [hd]
      exact List.mem_cons_of_mem _ (List.mem_singleton.mpr rfl)
def arE : E := .comp [3, 4] (.nm 3) (.val (.var 1)) (.con (.bl true)) (.fr [4] (.nm 4) (.val (.tup (.cons (.con (.int 0)) (.cons (.con (.int 1)) .nil)))) (.con (.bl true)) (.bin .add (.var 3) (.tup (.cons (.var 4) .nil))))
def arB : Ss := .cons (.asg (.nm 1) arE) .nil
def arSs : Ss := .cons (.asg (.nm 1) (.lst (.cons (.tup .nil) .nil))) (.cons (.for (.nm 2) (.rng (.cons (.var 0) .nil)) arB) (.cons (.ret (.var 1)) .nil))
theorem ar_ev {F : Fn} {a0 a2 : Sl} {n : Nat} (hn : n ≤ 8) : ev F arE [a0, .ow (.lst ((rowsF n).map iT)), a2, .un, .un] = .ok (.own (.lst ((rowsF (n + 1)).map iT))) [a0, .ow (.lst ((rowsF n).map iT)), a2, .un, .un] := by
  have hl : (rowsF (n + 1)).length ≤ 1000 := by
    rw [rowsF_len]
    have := Nat.pow_le_pow_right (n := 2) (by decide) (show n + 1 ≤ 9 by omega)
    omega
  have hm : ((rowsF n).map iT).flatMap (fun d => ([D.int 0, D.int 1]).map fun b => (match d with | .tup xs => D.tup (xs ++ [b]) | _ => .non)) = (rowsF (n + 1)).map iT := by
    have : ∀ l : List (List Int), (l.map iT).flatMap (fun d => ([D.int 0, D.int 1]).map fun b => (match d with | .tup xs => D.tup (xs ++ [b]) | _ => .non)) = (l.flatMap fun r => [r ++ [0], r ++ [1]]).map iT := fun l => by
      induction l with
      | nil => rfl
      | cons x l ih =>
        rw [List.map_cons, List.flatMap_cons, ih, List.flatMap_cons, List.map_append]
        congr 1
        show [D.tup (x.map .int ++ [.int 0]), D.tup (x.map .int ++ [.int 1])] = [D.tup ((x ++ [0]).map .int), D.tup ((x ++ [1]).map .int)]
        rw [List.map_append, List.map_append]
        rfl
    exact this (rowsF n)
  have e := comp_fr (F := F) (v := 3) (w := 4) (it := .val (.var 1)) (it1 := .val (.tup (.cons (.con (.int 0)) (.cons (.con (.int 1)) .nil)))) (e := .bin .add (.var 3) (.tup (.cons (.var 4) .nil))) (ρ := [a0, .ow (.lst ((rowsF n).map iT)), a2, .un, .un]) (x := .un) (y := .un) (rs := [.slot 1]) (xs := (rowsF n).map iT)
    (g := fun _ => [.int 0, .int 1]) (rs1 := fun _ => [.val (.tup [.int 0, .int 1])]) (f := fun d b => match d with | .tup xs => D.tup (xs ++ [b]) | _ => .non) (by decide) rfl rfl rfl rfl rfl rfl rfl rfl rfl
    (fun d hd => ⟨rfl, rfl, fun _ => rfl⟩)
    (fun d hd b hb => by
      obtain ⟨r, hr, rfl⟩ := List.mem_map.mp hd
      have hz : (r.map D.int).length + 1 ≤ sizeLine := sizeLine_big (by rw [List.length_map, (rowsF_mem hr).1]; omega)
      have ea : bop .add (iT r) (.tup [b]) = some (.tup (r.map .int ++ [b])) := by
        unfold iT
        generalize r.map D.int = rd at hz ⊢
        simp [evSs, evS, G.ev, evTs, evBs, evCs, evPs, evI, evQ, Res.bind, Res.sr, SR.seq, ofO, ofS, force, forces, Sl.get, ixN, bop, uop, RV.new, RV.held, D.sh, D.shs, D.ok, D.eqv, D.eqvs, truthOf, D.truth, G.take, setL, getL, ownL, reown, asgT, G.prim, isInts, G.elems, G.items, itemsR, walkB, retR, outOf, iosOf, noOw, fzAt, plainSl_some, pln_un, pln_fz, G.lock, G.unlock, G.back, wipeE, SR.unl, G.guard, argsS, argS, apart, slotOf, putBack, G.chk, outR, mutD, rangeOf, optI, G.slc, at3_0, at3_1, at3_2, at3_3, so_const, so_not, so_and, so_or, so_xor, so_pick, idx_tup, q1, q2, q3, q4, q5, q6, q7, q8, q9, q10, q11, q12, q13, q14, q15, idx_lst, cut1_1, cut1_2, cut1_3, -beq_eq_false_iff_ne, -beq_iff_eq, hz]
      refine ⟨.val (.tup (r.map .int ++ [b])), ?_, rfl⟩
      show ev F (.bin .add (.var 3) (.tup (.cons (.var 4) .nil))) [a0, _, a2, .fz (iT r), .fz b] = _
      generalize iT r = rd at ea ⊢
      generalize r.map D.int ++ [b] = od at ea ⊢
      simp [evSs, evS, G.ev, evTs, evBs, evCs, evPs, evI, evQ, Res.bind, Res.sr, SR.seq, ofO, ofS, force, forces, Sl.get, ixN, uop, RV.new, RV.held, D.sh, D.shs, D.ok, D.eqv, D.eqvs, truthOf, D.truth, G.take, setL, getL, ownL, reown, asgT, G.prim, isInts, G.elems, G.items, itemsR, walkB, retR, outOf, iosOf, noOw, fzAt, plainSl_some, pln_un, pln_fz, G.lock, G.unlock, G.back, wipeE, SR.unl, G.guard, argsS, argS, apart, slotOf, putBack, G.chk, outR, mutD, rangeOf, optI, G.slc, at3_0, at3_1, at3_2, at3_3, so_const, so_not, so_and, so_or, so_xor, so_pick, idx_tup, q1, q2, q3, q4, q5, q6, q7, q8, q9, q10, q11, q12, q13, q14, q15, idx_lst, cut1_1, cut1_2, cut1_3, -beq_eq_false_iff_ne, -beq_iff_eq, ea])
    (by rw [hm, List.length_map]; exact hl)
  rw [hm] at e
  exact e
theorem ar_fn {T : List Fd} {wf k v : Nat} (tv : T[v]? = some ⟨5, 1, arSs⟩) {n : Nat} (hn : n ≤ 9) : callN T wf (k + 1) v [.fz (.int (n : Nat))] = .rt true (.lst ((rowsF n).map iT)) [] := by
  obtain ⟨ρ', ⟨y2, rfl, _⟩, ef⟩ := for_ind (F := callN T wf k) (wf := wf) (t := .nm 2) (it := .rng (.cons (.var 0) .nil)) (b := arB) (ρ := [.fz (.int (n : Nat)), .ow (.lst [.tup []]), .un, .un, .un]) (ρ1 := [.fz (.int (n : Nat)), .ow (.lst [.tup []]), .un, .un, .un]) (p := (rangeD 0 n, [])) (evI_var rfl (by omega))
    (fun i ρ => ∃ y2 : Sl, ρ = [.fz (.int (n : Nat)), .ow (.lst ((rowsF i).map iT)), y2, .un, .un] ∧ y2.nio = true)
    ⟨.un, rfl, rfl⟩
    (fun i d ρ hd ⟨y2, e', p2⟩ => by
      obtain ⟨rfl, hi⟩ := rangeD_at hd
      subst e'
      exact ⟨_, [.fz (.int (n : Nat)), .ow (.lst ((rowsF (i + 1)).map iT)), .fz (.int (0 + (i : Nat))), .un, .un], setS_nio rfl p2, ss_last (asg_own (ar_ev (by omega)) rfl), .fz (.int (0 + (i : Nat))), rfl, rfl⟩)
  rw [rangeD_len] at ef
  have s1 : evS (callN T wf k) wf (.asg (.nm 1) (.lst (.cons (.tup .nil) .nil))) [.fz (.int (n : Nat)), .un, .un, .un, .un] = .nx [.fz (.int (n : Nat)), .ow (.lst [.tup []]), .un, .un, .un] := rfl
  rw [callN_eq tv rfl rfl]
  show outOf [.fz (.int (n : Nat))] (evSs (callN T wf k) wf arSs [.fz (.int (n : Nat)), .un, .un, .un, .un]) = _
  unfold arSs
  rw [ss_step s1, ss_step ef, ss_ret (o := true) (d := .lst ((rowsF n).map iT)) (ρ' := [.fz (.int (n : Nat)), .ow (.lst ((rowsF n).map iT)), y2, .un, .un]) rfl]
  rfl
end G
end

section
set_option Elab.async false
set_option linter.all false
set_option maxRecDepth 100000
set_option maxHeartbeats 4000000
/-! P15: reading expressions in one way. -/
namespace G
open PySem PySem.Spec PyProof.Rows L2
/-- an expression reads as x: a value (o = false) or a new list (o = true); nothing else moves -/
def Vl (F : Fn) (ρ : Ev) (e : E) (o : Bool) (x : D) : Prop :=
  (ev F e ρ = .ok (.val x) ρ ∧ o = false) ∨ (ev F e ρ = .ok (.own x) ρ ∧ o = true) ∨ ∃ i, ev F e ρ = .ok (.slot i) ρ ∧ ρ[i]? = some (.fz x) ∧ o = false
/-- an expression may be read as x -/
def Rd (F : Fn) (ρ : Ev) (e : E) (x : D) : Prop := ∃ r, ev F e ρ = .ok r ρ ∧ force ρ r = some x
/-- what is read, frozen or not -/
structure Pk (F : Fn) (ρ : Ev) (e : E) (o : Bool) (x : D) (r : RV) : Prop where
  ev : ev F e ρ = .ok r ρ
  fo : force ρ r = some x
  ar : argS ρ false r.held = some (.fz x)
  so : r.held.held = r.held
  tk : take ρ r = some (x, ρ)
  rt : retR ρ r = .rt o x ρ
  nm : ∀ i, asgT ρ (.nm i) r = setS ρ i (if o = true then .ow x else .fz x)
  to : takeO ρ r = some (if o = true then .own x else .val x, ρ)
  wb : walkB ρ r = true
  lk : lock ρ [r] = ρ
  ul : ∀ ρ', unlock ρ ρ' [r] = ρ'
section
variable {F : Fn} {wf : Nat} {ρ ρ' : Ev} {e a b c : E} {o o1 o2 o3 : Bool} {x y z w : D}
theorem Vl.pk (h : Vl F ρ e o x) : ∃ r, Pk F ρ e o x r := by
  rcases h with ⟨h, rfl⟩ | ⟨h, rfl⟩ | ⟨i, h, hi, rfl⟩
  · exact ⟨.val x, h, rfl, rfl, rfl, rfl, rfl, fun _ => rfl, rfl, rfl, rfl, fun _ => rfl⟩
  · exact ⟨.own x, h, rfl, rfl, rfl, rfl, rfl, fun _ => rfl, rfl, rfl, rfl, fun _ => rfl⟩
  · have ht : G.take ρ (.slot i) = some (x, ρ) := by rw [G.take, hi]
    refine ⟨.slot i, h, ?_, ?_, rfl, ht, ?_, fun j => ?_, ?_, ?_, ?_, fun ρ' => ?_⟩
    · simp [evSs, evS, G.ev, evTs, evBs, evCs, evPs, evI, evQ, Res.bind, Res.sr, SR.seq, ofO, ofS, force, forces, Sl.get, ixN, bop, uop, RV.new, RV.held, D.sh, D.shs, D.ok, D.eqv, D.eqvs, truthOf, D.truth, G.take, setL, getL, ownL, reown, asgT, G.prim, isInts, G.elems, G.items, itemsR, walkB, retR, outOf, iosOf, noOw, fzAt, plainSl_some, pln_un, pln_fz, G.lock, G.unlock, G.back, wipeE, SR.unl, G.guard, argsS, argS, apart, slotOf, putBack, G.chk, outR, mutD, rangeOf, optI, G.slc, at3_0, at3_1, at3_2, at3_3, so_const, so_not, so_and, so_or, so_xor, so_pick, idx_tup, q1, q2, q3, q4, q5, q6, q7, q8, q9, q10, q11, q12, q13, q14, q15, idx_lst, cut1_1, cut1_2, cut1_3, -beq_eq_false_iff_ne, -beq_iff_eq, hi]
    · simp [evSs, evS, G.ev, evTs, evBs, evCs, evPs, evI, evQ, Res.bind, Res.sr, SR.seq, ofO, ofS, force, forces, Sl.get, ixN, bop, uop, RV.new, RV.held, D.sh, D.shs, D.ok, D.eqv, D.eqvs, truthOf, D.truth, G.take, setL, getL, ownL, reown, asgT, G.prim, isInts, G.elems, G.items, itemsR, walkB, retR, outOf, iosOf, noOw, fzAt, plainSl_some, pln_un, pln_fz, G.lock, G.unlock, G.back, wipeE, SR.unl, G.guard, argsS, argS, apart, slotOf, putBack, G.chk, outR, mutD, rangeOf, optI, G.slc, at3_0, at3_1, at3_2, at3_3, so_const, so_not, so_and, so_or, so_xor, so_pick, idx_tup, q1, q2, q3, q4, q5, q6, q7, q8, q9, q10, q11, q12, q13, q14, q15, idx_lst, cut1_1, cut1_2, cut1_3, -beq_eq_false_iff_ne, -beq_iff_eq, hi]
    · rw [retR, hi]
      show (match G.take ρ (.slot i) with | some (d, ρ) => SR.rt false d ρ | none => SR.no) = _
      rw [ht]
    · show (G.take ρ (.slot i)).bind (fun p => setS p.2 j (.fz p.1)) = _
      rw [ht]
      rfl
    · show (G.take ρ (.slot i)).map (fun p => (RV.val p.1, p.2)) = _
      rw [ht]
      rfl
    · rw [walkB, hi]
    · rw [G.lock, hi]
      rfl
    · rw [G.unlock, hi]
      cases ρ'[i]? with
      | none => rfl
      | some s => cases s <;> rfl
theorem Vl.rd (h : Vl F ρ e o x) : Rd F ρ e x := by
  obtain ⟨r, p⟩ := h.pk
  exact ⟨r, p.ev, p.fo⟩
theorem Vl.val (h : ev F e ρ = .ok (.val x) ρ) : Vl F ρ e false x := .inl ⟨h, rfl⟩
theorem Vl.own (h : ev F e ρ = .ok (.own x) ρ) : Vl F ρ e true x := .inr (.inl ⟨h, rfl⟩)
theorem Vl.con : Vl F ρ (.con x) false x := .val rfl
theorem Vl.var {i : Nat} (h : ρ[i]? = some (.fz x)) : Vl F ρ (.var i) false x := .inr (.inr ⟨i, by rw [G.ev, h], h, rfl⟩)
theorem Rd.var {i : Nat} (h : ρ[i]? = some (.ow x)) : Rd F ρ (.var i) x := ⟨.slot i, by rw [G.ev, h], by simp [evSs, evS, G.ev, evTs, evBs, evCs, evPs, evI, evQ, Res.bind, Res.sr, SR.seq, ofO, ofS, force, forces, Sl.get, ixN, bop, uop, RV.new, RV.held, D.sh, D.shs, D.ok, D.eqv, D.eqvs, truthOf, D.truth, G.take, setL, getL, ownL, reown, asgT, G.prim, isInts, G.elems, G.items, itemsR, walkB, retR, outOf, iosOf, noOw, fzAt, plainSl_some, pln_un, pln_fz, G.lock, G.unlock, G.back, wipeE, SR.unl, G.guard, argsS, argS, apart, slotOf, putBack, G.chk, outR, mutD, rangeOf, optI, G.slc, at3_0, at3_1, at3_2, at3_3, so_const, so_not, so_and, so_or, so_xor, so_pick, idx_tup, q1, q2, q3, q4, q5, q6, q7, q8, q9, q10, q11, q12, q13, q14, q15, idx_lst, cut1_1, cut1_2, cut1_3, -beq_eq_false_iff_ne, -beq_iff_eq, h]⟩
/-- new: a list is the store's own -/
def isL : D → Bool
  | .lst _ => true
  | _ => false
theorem Vl.new (h : ev F e ρ = .ok (RV.new x) ρ) : Vl F ρ e (isL x) x := by
  cases x with
  | lst ds => exact .own h
  | _ => exact .val h
theorem Vl.bin {p : Bo} (ha : Rd F ρ a x) (hb : Rd F ρ b y) (ho : bop p x y = some z) : Vl F ρ (.bin p a b) (isL z) z := by
  obtain ⟨r, h1, h2⟩ := ha
  obtain ⟨s, h3, h4⟩ := hb
  refine .new ?_
  rw [G.ev, h1]
  show ((G.ev F b ρ).bind fun s ρ => ofO (((force ρ r).bind fun x => (force ρ s).bind fun y => bop p x y).map RV.new) ρ) = _
  rw [h3]
  show ofO (((force ρ r).bind fun x => (force ρ s).bind fun y => bop p x y).map RV.new) ρ = _
  rw [h2, Option.bind_some, h4, Option.bind_some, ho]
  rfl
theorem Vl.un {p : Uo} (ha : Rd F ρ a x) (ho : uop p x = some z) : Vl F ρ (.un p a) (isL z) z := by
  obtain ⟨r, h1, h2⟩ := ha
  refine .new ?_
  rw [G.ev, h1]
  show ofO (((force ρ r).bind (uop p)).map RV.new) ρ = _
  rw [h2, Option.bind_some, ho]
  rfl
theorem Vl.idx (ha : Rd F ρ a x) (hb : Rd F ρ b y) (ho : idx x y = some z) : Vl F ρ (.idx a b) false z := by
  obtain ⟨r, h1, h2⟩ := ha
  obtain ⟨s, h3, h4⟩ := hb
  refine .val ?_
  rw [G.ev, h1]
  show ((G.ev F b ρ).bind fun s ρ => ofO (((force ρ r).bind fun x => (force ρ s).bind fun y => G.idx x y).map RV.val) ρ) = _
  rw [h3]
  show ofO (((force ρ r).bind fun x => (force ρ s).bind fun y => G.idx x y).map RV.val) ρ = _
  rw [h2, Option.bind_some, h4, Option.bind_some, ho]
  rfl
theorem Vl.sli {k m : Bool} {u v : Option Int} (ha : Rd F ρ a x) (hb : Rd F ρ b y) (hc : Rd F ρ c w) (h1 : optI k y = some u) (h2 : optI m w = some v) (ho : slc x u v = some z) : Vl F ρ (.sli k m a b c) (isL z) z := by
  obtain ⟨r, r1, r2⟩ := ha
  obtain ⟨s, s1, s2⟩ := hb
  obtain ⟨t, t1, t2⟩ := hc
  refine .new ?_
  rw [G.ev, r1]
  simp only [Res.bind, s1, s2, Option.bind_some, h1, ofO, t1, t2, h2, r2, ho]
  rfl
theorem Vl.prim1 {p : Pr} (ha : Rd F ρ a x) (ho : prim p [x] = some z) : Vl F ρ (.prim p (.cons a .nil)) (isL z) z := by
  obtain ⟨r, h1, h2⟩ := ha
  refine .new ?_
  rw [G.ev, evBs, h1]
  show ofO (((forces ρ [r]).bind (G.prim p)).map RV.new) ρ = _
  rw [show forces ρ [r] = some [x] from by rw [forces, h2]; rfl, Option.bind_some, ho]
  rfl
theorem Vl.prim2 {p : Pr} (ha : Rd F ρ a x) (hb : Rd F ρ b y) (ho : prim p [x, y] = some z) : Vl F ρ (.prim p (.cons a (.cons b .nil))) (isL z) z := by
  obtain ⟨r, h1, h2⟩ := ha
  obtain ⟨s, h3, h4⟩ := hb
  refine .new ?_
  rw [G.ev, evBs, h1]
  show ((evBs F (.cons b .nil) ρ).bind fun rs ρ => Res.ok (r :: rs) ρ).bind _ = _
  rw [evBs, h3]
  show ofO (((forces ρ [r, s]).bind (G.prim p)).map RV.new) ρ = _
  rw [show forces ρ [r, s] = some [x, y] from by rw [forces, h2]; show (some x).bind (fun d => ((force ρ s).bind fun d => (forces ρ []).map (d :: ·)).map (d :: ·)) = _; rw [h4]; rfl, Option.bind_some, ho]
  rfl
/-- a row of expressions, each read -/
inductive Vls (F : Fn) (ρ : Ev) : Es → List D → Prop where
  | nil : Vls F ρ .nil []
  | cons {e : E} {es : Es} {o : Bool} {x : D} {xs : List D} : Vl F ρ e o x → Vls F ρ es xs → Vls F ρ (.cons e es) (x :: xs)
theorem Vls.ts {es : Es} {xs : List D} (h : Vls F ρ es xs) : evTs F es ρ = .ok xs ρ := by
  induction h with
  | nil => rfl
  | cons h _ ih =>
    obtain ⟨r, p⟩ := h.pk
    rw [evTs, p.ev]
    simp only [Res.bind, p.tk, ofO, ih]
theorem Vls.cs {es : Es} {xs : List D} (h : Vls F ρ es xs) : ∃ rs, evCs F es ρ = .ok rs ρ ∧ argsS ρ (xs.map fun _ => false) rs = some (xs.map .fz) ∧ apart (xs.map fun _ => false) rs = true ∧ putBack ρ (xs.map fun _ => false) rs [] = some ρ := by
  induction h with
  | nil => exact ⟨[], rfl, rfl, rfl, rfl⟩
  | @cons e es o x xs h _ ih =>
    obtain ⟨r, p⟩ := h.pk
    obtain ⟨rs, e1, e2, e3, e4⟩ := ih
    refine ⟨r.held :: rs, ?_, ?_, ?_, e4⟩
    · rw [evCs, p.ev]
      simp only [Res.bind, e1]
    · show (argS ρ false r.held).bind (fun s => (argsS ρ (xs.map fun _ => false) rs).map (s :: ·)) = _
      rw [p.ar, e2]
      rfl
    · show (((xs.map fun _ => false).zip rs).all (fun q => !q.1 || decide (slotOf q.2 ≠ slotOf r.held)) && apart (xs.map fun _ => false) rs) = true
      rw [e3, Bool.and_true, List.all_eq_true]
      intro q hq
      have h1 := (List.of_mem_zip hq).1
      obtain ⟨_, _, h2⟩ := List.mem_map.mp h1
      rw [← h2]
      rfl
theorem Vl.tup {es : Es} {xs : List D} (h : Vls F ρ es xs) : Vl F ρ (.tup es) false (.tup xs) := by
  refine .val ?_
  rw [G.ev, h.ts]
  rfl
theorem Vl.lst {es : Es} {xs : List D} (h : Vls F ρ es xs) : Vl F ρ (.lst es) true (.lst xs) := by
  refine .own ?_
  rw [G.ev, h.ts]
  rfl
theorem Vl.call {f : Nat} {es : Es} {xs : List D} {bs : List Bool} (h : Vls F ρ es xs) (hb : bs = xs.map fun _ => false) (e : F f (xs.map .fz) = .rt o z []) : Vl F ρ (.call f bs es) o z := by
  subst hb
  obtain ⟨rs, e1, e2, e3, e4⟩ := h.cs
  have he : G.ev F (.call f (xs.map fun _ => false) es) ρ = .ok (if o = true then .own z else .val z) ρ := by
    rw [G.ev, e1]
    show (match argsS ρ (xs.map fun _ => false) rs with | some args => G.chk (apart (xs.map fun _ => false) rs) (outR ρ (xs.map fun _ => false) rs (F f args)) | none => Res.no) = _
    rw [e2]
    show G.chk (apart (xs.map fun _ => false) rs) (outR ρ (xs.map fun _ => false) rs (F f (xs.map .fz))) = _
    rw [e3, e]
    show (match putBack ρ (xs.map fun _ => false) rs [] with | some ρ => Res.ok (if o = true then RV.own z else .val z) ρ | none => Res.no) = _
    rw [e4]
  cases o with
  | false => exact .val he
  | true => exact .own he
/-! ### truth -/
theorem Rd.truth {k : Bool} (h : Rd F ρ e x) (ht : x.truth = some k) : ∃ r, ev F e ρ = .ok r ρ ∧ truthOf ρ r = .ok k ρ := by
  obtain ⟨r, h1, h2⟩ := h
  refine ⟨r, h1, ?_⟩
  unfold truthOf
  rw [h2, Option.bind_some, ht]
  rfl
theorem Vl.not {k : Bool} (h : Rd F ρ e x) (ht : x.truth = some k) : Vl F ρ (.not e) false (.bl (!k)) := by
  obtain ⟨r, h1, h2⟩ := h.truth ht
  refine .val ?_
  rw [G.ev, h1]
  show ((truthOf ρ r).bind fun k ρ => Res.ok (RV.val (.bl (!k))) ρ) = _
  rw [h2]
  rfl
theorem Vl.and_t (h : Rd F ρ a x) (ht : x.truth = some true) (hb : Vl F ρ b o y) : Vl F ρ (.and a b) o y := by
  obtain ⟨r, h1, h2⟩ := h.truth ht
  have he : G.ev F (.and a b) ρ = G.ev F b ρ := by
    rw [G.ev, h1]
    show ((truthOf ρ r).bind fun k ρ => if k = true then G.ev F b ρ else Res.ok r ρ) = _
    rw [h2]
    rfl
  unfold Vl at hb ⊢
  rwa [he]
theorem Vl.and_f (h : Vl F ρ a o x) (ht : x.truth = some false) : Vl F ρ (.and a b) o x := by
  rcases h with ⟨h, rfl⟩ | ⟨h, rfl⟩ | ⟨i, h, hi, rfl⟩
  all_goals
    obtain ⟨r, h1, h2⟩ := Rd.truth ⟨_, h, by simp [evSs, evS, G.ev, evTs, evBs, evCs, evPs, evI, evQ, Res.bind, Res.sr, SR.seq, ofO, ofS, force, forces, Sl.get, ixN, bop, uop, RV.new, RV.held, D.sh, D.shs, D.ok, D.eqv, D.eqvs, truthOf, D.truth, G.take, setL, getL, ownL, reown, asgT, G.prim, isInts, G.elems, G.items, itemsR, walkB, retR, outOf, iosOf, noOw, fzAt, plainSl_some, pln_un, pln_fz, G.lock, G.unlock, G.back, wipeE, SR.unl, G.guard, argsS, argS, apart, slotOf, putBack, G.chk, outR, mutD, rangeOf, optI, G.slc, at3_0, at3_1, at3_2, at3_3, so_const, so_not, so_and, so_or, so_xor, so_pick, idx_tup, q1, q2, q3, q4, q5, q6, q7, q8, q9, q10, q11, q12, q13, q14, q15, idx_lst, cut1_1, cut1_2, cut1_3, -beq_eq_false_iff_ne, -beq_iff_eq, *]⟩ ht
    rw [h] at h1
    cases h1
    have he : G.ev F (.and a b) ρ = G.ev F a ρ := by
      rw [G.ev, h]
      show ((truthOf ρ _).bind fun k ρ => if k = true then G.ev F b ρ else Res.ok _ ρ) = _
      rw [h2]
      rfl
  · exact .val (he.trans h)
  · exact .own (he.trans h)
  · exact .inr (.inr ⟨i, he.trans h, hi, rfl⟩)
theorem Vl.or_f (h : Rd F ρ a x) (ht : x.truth = some false) (hb : Vl F ρ b o y) : Vl F ρ (.or a b) o y := by
  obtain ⟨r, h1, h2⟩ := h.truth ht
  have he : G.ev F (.or a b) ρ = G.ev F b ρ := by
    rw [G.ev, h1]
    show ((truthOf ρ r).bind fun k ρ => if k = true then Res.ok r ρ else G.ev F b ρ) = _
    rw [h2]
    rfl
  unfold Vl at hb ⊢
  rwa [he]
theorem Vl.or_t (h : Vl F ρ a o x) (ht : x.truth = some true) : Vl F ρ (.or a b) o x := by
  rcases h with ⟨h, rfl⟩ | ⟨h, rfl⟩ | ⟨i, h, hi, rfl⟩
  all_goals
    obtain ⟨r, h1, h2⟩ := Rd.truth ⟨_, h, by simp [evSs, evS, G.ev, evTs, evBs, evCs, evPs, evI, evQ, Res.bind, Res.sr, SR.seq, ofO, ofS, force, forces, Sl.get, ixN, bop, uop, RV.new, RV.held, D.sh, D.shs, D.ok, D.eqv, D.eqvs, truthOf, D.truth, G.take, setL, getL, ownL, reown, asgT, G.prim, isInts, G.elems, G.items, itemsR, walkB, retR, outOf, iosOf, noOw, fzAt, plainSl_some, pln_un, pln_fz, G.lock, G.unlock, G.back, wipeE, SR.unl, G.guard, argsS, argS, apart, slotOf, putBack, G.chk, outR, mutD, rangeOf, optI, G.slc, at3_0, at3_1, at3_2, at3_3, so_const, so_not, so_and, so_or, so_xor, so_pick, idx_tup, q1, q2, q3, q4, q5, q6, q7, q8, q9, q10, q11, q12, q13, q14, q15, idx_lst, cut1_1, cut1_2, cut1_3, -beq_eq_false_iff_ne, -beq_iff_eq, *]⟩ ht
    rw [h] at h1
    cases h1
    have he : G.ev F (.or a b) ρ = G.ev F a ρ := by
      rw [G.ev, h]
      show ((truthOf ρ _).bind fun k ρ => if k = true then Res.ok _ ρ else G.ev F b ρ) = _
      rw [h2]
      rfl
  · exact .val (he.trans h)
  · exact .own (he.trans h)
  · exact .inr (.inr ⟨i, he.trans h, hi, rfl⟩)
theorem Vl.ite_t (h : Rd F ρ c x) (ht : x.truth = some true) (ha : Vl F ρ a o y) : Vl F ρ (.ite c a b) o y := by
  obtain ⟨r, h1, h2⟩ := h.truth ht
  have he : G.ev F (.ite c a b) ρ = G.ev F a ρ := by
    rw [G.ev, h1]
    show ((truthOf ρ r).bind fun k ρ => if k = true then G.ev F a ρ else G.ev F b ρ) = _
    rw [h2]
    rfl
  unfold Vl at ha ⊢
  rwa [he]
theorem Vl.ite_f (h : Rd F ρ c x) (ht : x.truth = some false) (hb : Vl F ρ b o y) : Vl F ρ (.ite c a b) o y := by
  obtain ⟨r, h1, h2⟩ := h.truth ht
  have he : G.ev F (.ite c a b) ρ = G.ev F b ρ := by
    rw [G.ev, h1]
    show ((truthOf ρ r).bind fun k ρ => if k = true then G.ev F a ρ else G.ev F b ρ) = _
    rw [h2]
    rfl
  unfold Vl at hb ⊢
  rwa [he]
/-! ### statements -/
theorem st_asg {i : Nat} (h : Vl F ρ e o x) (hs : setS ρ i (if o = true then .ow x else .fz x) = some ρ') : evS F wf (.asg (.nm i) e) ρ = .nx ρ' := by
  obtain ⟨r, p⟩ := h.pk
  rw [evS, p.ev]
  show ofS (asgT ρ (.nm i) r) = _
  rw [p.nm, hs]
  rfl
theorem st_tp {is : List Nat} {ds : List D} (h : Rd F ρ e x) (hd : elems x = some ds) (hs : setAll ρ is ds = some ρ') : evS F wf (.asg (.tp is) e) ρ = .nx ρ' := by
  obtain ⟨r, h1, h2⟩ := h
  rw [evS, h1]
  show ofS (((force ρ r).bind G.elems).bind fun ds => setAll ρ is ds) = _
  rw [h2, Option.bind_some, hd, Option.bind_some, hs]
  rfl
theorem st_ret (h : Vl F ρ e o x) : evS F wf (.ret e) ρ = .rt o x ρ := by
  obtain ⟨r, p⟩ := h.pk
  rw [evS, p.ev]
  exact p.rt
theorem st_ite {k : Bool} {A B : Ss} (h : Rd F ρ c x) (ht : x.truth = some k) : evS F wf (.ite c A B) ρ = if k = true then evSs F wf A ρ else evSs F wf B ρ := by
  obtain ⟨r, h1, h2⟩ := h.truth ht
  exact ite_ev h1 h2
theorem st_if {A : Ss} (h : Rd F ρ c x) (ht : x.truth = some false) : evS F wf (.ite c A .nil) ρ = .nx ρ := by
  rw [st_ite h ht, if_neg (by decide)]
  rfl
theorem st_app {i : Nat} {ds : List D} (h : Vl F ρ e o x) (hi : ρ[i]? = some (.ow (.lst ds))) (hz : ds.length < sizeLine) : evS F wf (.exp (.mut .append i (.cons e .nil))) ρ = .nx (ρ.set i (.ow (.lst (ds ++ [x])))) := by
  have h1 := (Vls.cons h Vls.nil).ts
  rw [evS, G.ev, hi]
  show Res.sr ((evTs F (.cons e .nil) ρ).bind _) _ = _
  rw [h1]
  show Res.sr (match ownL (ρ[i]?) with | some ds => (match mutD .append ds [x] with | some (d, ds') => Res.ok (RV.val d) (reown ρ i (.lst ds')) | none => .no) | none => .no) _ = _
  rw [hi]
  show Res.sr (match (if ds.length < sizeLine then some (D.non, ds ++ [x]) else none) with | some (d, ds') => Res.ok (RV.val d) (reown ρ i (.lst ds')) | none => .no) _ = _
  rw [if_pos hz]
  show SR.nx (reown ρ i (.lst (ds ++ [x]))) = _
  rw [reown, hi]
theorem st_aug {i : Nat} {p : Bo} (hi : ρ[i]? = some (.fz x)) (h : Rd F ρ e y) (ho : aop p x y = some z) (hs : setS ρ i (.fz z) = some ρ') : evS F wf (.aug i p e) ρ = .nx ρ' := by
  obtain ⟨r, h1, h2⟩ := h
  rw [evS, fzAt, hi]
  show Res.sr (G.ev F e ρ) _ = _
  rw [h1]
  show ofS (((force ρ r).bind fun y => aop p x y).bind fun d => setS ρ i (.fz d)) = _
  rw [h2, Option.bind_some, ho, Option.bind_some, hs]
  rfl
/-! ### what is walked -/
theorem it_vl {ds : List D} (h : Vl F ρ e o x) (hi : items x = some ds) : ∃ r, evI F (.val e) ρ = .ok (ds, [r]) ρ ∧ lock ρ [r] = ρ ∧ ∀ ρ', unlock ρ ρ' [r] = ρ' := by
  obtain ⟨r, p⟩ := h.pk
  refine ⟨r, ?_, p.lk, p.ul⟩
  rw [evI, p.ev]
  show ofO ((itemsR ρ r).map fun ds => (ds, [r])) ρ = _
  rw [itemsR, p.wb, if_pos rfl, p.fo, Option.bind_some, hi]
  rfl
theorem it_enum {ds : List D} (h : Vl F ρ e o x) (hi : elems x = some ds) : ∃ r, evI F (.enum e) ρ = .ok (enumD 0 ds, [r]) ρ ∧ lock ρ [r] = ρ ∧ ∀ ρ', unlock ρ ρ' [r] = ρ' := by
  obtain ⟨r, p⟩ := h.pk
  refine ⟨r, ?_, p.lk, p.ul⟩
  rw [evI, p.ev]
  show ofO ((seqR ρ r).map fun ds => (enumD 0 ds, [r])) ρ = _
  rw [seqR, p.wb, if_pos rfl, p.fo, Option.bind_some, hi]
  rfl
theorem it_rng {n : Nat} (h : Rd F ρ e (.int (n : Nat))) (hn : n ≤ 1000) : evI F (.rng (.cons e .nil)) ρ = .ok (rangeD 0 n, []) ρ := by
  obtain ⟨r, h1, h2⟩ := h
  exact evI_one h1 h2 hn
/-- one clause, one name: a list is made -/
theorem Vl.comp {v : Nat} {it : G.It} {xs : List D} {rs : List RV} {p : D → Bool} {f : D → D} {u : Sl} (hi : evI F it ρ = .ok (xs, rs) ρ) (hL : lock ρ rs = ρ) (hU : ∀ ρ', unlock ρ ρ' rs = ρ') (hx : ρ[v]? = some u) (pu : u.pln = true)
    (hc : ∀ d ∈ xs, ∃ y, Rd F (ρ.set v (.fz d)) c y ∧ y.truth = some (p d)) (he : ∀ d ∈ xs, p d = true → ∃ o, Vl F (ρ.set v (.fz d)) e o (f d)) (hz : xs.length ≤ 1000) : Vl F ρ (.comp [v] (.nm v) it c (.yld e)) true (.lst ((xs.filter p).map f)) :=
  .own (comp1 hi hL (hU _) hx hx pu (fun d hd => by
    obtain ⟨y, h1, h2⟩ := hc d hd
    exact h1.truth h2) (fun d hd hp => by
    obtain ⟨o, h⟩ := he d hd hp
    obtain ⟨r, q⟩ := h.pk
    exact ⟨r, q.ev, q.tk⟩) hz)
/-- without a condition -/
theorem Vl.map {v : Nat} {it : G.It} {xs : List D} {rs : List RV} {f : D → D} {u : Sl} (hi : evI F it ρ = .ok (xs, rs) ρ) (hL : lock ρ rs = ρ) (hU : ∀ ρ', unlock ρ ρ' rs = ρ') (hx : ρ[v]? = some u) (pu : u.pln = true)
    (he : ∀ d ∈ xs, ∃ o, Vl F (ρ.set v (.fz d)) e o (f d)) (hz : xs.length ≤ 1000) : Vl F ρ (.comp [v] (.nm v) it (.con (.bl true)) (.yld e)) true (.lst (xs.map f)) := by
  have h := Vl.comp (c := .con (.bl true)) (p := fun _ => true) hi hL hU hx pu (fun d _ => ⟨.bl true, Vl.con.rd, rfl⟩) (fun d hd _ => he d hd) hz
  rwa [filter_tt] at h
theorem Vl.tuple {ds : List D} (h : Vl F ρ e o (.lst ds)) : Vl F ρ (.prim .tuple (.cons e .nil)) false (.tup ds) := Vl.prim1 h.rd rfl
theorem Vl.list {ds : List D} (h : Vl F ρ e o (.tup ds)) : Vl F ρ (.prim .list (.cons e .nil)) true (.lst ds) := Vl.prim1 h.rd rfl
/-! ### comparing -/
theorem Vl.eq {q : Bool} (ha : Rd F ρ a x) (hb : Rd F ρ b y) (hx : D.sh 60 x = true) (hy : D.sh 60 y = true) (he : D.eqv x y = q) : Vl F ρ (.bin .eq a b) false (.bl q) := by
  obtain ⟨r, h1, h2⟩ := ha
  obtain ⟨s, h3, h4⟩ := hb
  exact .val (eq_ev2 h1 h2 h3 h4 hx hy he)
theorem Vl.ne {q : Bool} (ha : Rd F ρ a x) (hb : Rd F ρ b y) (hx : D.sh 60 x = true) (hy : D.sh 60 y = true) (he : D.eqv x y = q) : Vl F ρ (.bin .ne a b) false (.bl (!q)) := by
  obtain ⟨r, h1, h2⟩ := ha
  obtain ⟨s, h3, h4⟩ := hb
  exact .val (ne_ev2 h1 h2 h3 h4 hx hy he)
end
/-- a tuple n times -/
theorem mulT {x : D} {n : Nat} (hk : n ≤ 1000) : bop .mul (.tup [x]) (.int (n : Nat)) = some (.tup (List.replicate n x)) := by
  have hf : (List.replicate n [x]).flatten = List.replicate n x := by
    induction n with
    | zero => rfl
    | succ n ih => rw [List.replicate_succ, List.flatten_cons, ih (by omega), List.replicate_succ]; rfl
  have hb : (decide (-(2 ^ 63) ≤ ((n : Nat) : Int)) && decide (((n : Nat) : Int) ≤ 1000) && decide ([x].length ≤ 1000)) = true := by
    simp only [Bool.and_eq_true, decide_eq_true_eq]
    exact ⟨⟨by omega, by omega⟩, by simp [evSs, evS, G.ev, evTs, evBs, evCs, evPs, evI, evQ, Res.bind, Res.sr, SR.seq, ofO, ofS, force, forces, Sl.get, ixN, bop, uop, RV.new, RV.held, D.sh, D.shs, D.ok, D.eqv, D.eqvs, truthOf, D.truth, G.take, setL, getL, ownL, reown, asgT, G.prim, isInts, G.elems, G.items, itemsR, walkB, retR, outOf, iosOf, noOw, fzAt, plainSl_some, pln_un, pln_fz, G.lock, G.unlock, G.back, wipeE, SR.unl, G.guard, argsS, argS, apart, slotOf, putBack, G.chk, outR, mutD, rangeOf, optI, G.slc, at3_0, at3_1, at3_2, at3_3, so_const, so_not, so_and, so_or, so_xor, so_pick, idx_tup, q1, q2, q3, q4, q5, q6, q7, q8, q9, q10, q11, q12, q13, q14, q15, idx_lst, cut1_1, cut1_2, cut1_3, -beq_eq_false_iff_ne, -beq_iff_eq]⟩
  have e : bop .mul (.tup [x]) (.int (n : Nat)) = if (decide (-(2 ^ 63) ≤ ((n : Nat) : Int)) && decide (((n : Nat) : Int) ≤ 1000) && decide ([x].length ≤ 1000)) = true then some (.tup (List.replicate ((n : Nat) : Int).toNat [x]).flatten) else none := by rw [bop]
  rw [e, if_pos hb, Int.toNat_natCast, hf]
theorem eqvI (a b : Int) : D.eqv (.int a) (.int b) = decide (a = b) := rfl
theorem eqvIT (a b : List Int) : D.eqv (iT a) (iT b) = decide (a = b) := by rw [iT, iT, D.eqv, eqvs_ints]
theorem eqvTT (a b : List (List Int)) : D.eqv (.tup (a.map iT)) (.tup (b.map iT)) = decide (a = b) := by rw [D.eqv, eqvs_rows]
theorem len_iT (xs : List Int) : prim .len [iT xs] = some (.int (xs.length : Nat)) := by show some (D.int ((xs.map D.int).length : Nat)) = _; rw [List.length_map]
end G
end

section
set_option Elab.async false
set_option linter.all false
set_option maxRecDepth 100000
set_option maxHeartbeats 4000000
/-! P16: draws in one way. -/
namespace G
open PySem PySem.Spec PyProof.Rows L2
/-- what a take is, wherever it lies -/
def TkF (F : Fn) (tf : Nat) : Prop := ∀ (r : Dr) (m : Int), DrOk r → 0 < m → m < 1073741824 → F tf [.io r.d, .fz (.int m)] = .rt false (.int (takeF r m).1) [(takeF r m).2.d]
def tkE (tf i : Nat) (m : Int) : E := .call tf [true, false] (.cons (.var i) (.cons (.con (.int m)) .nil))
section
variable {F : Fn} {tf i : Nat} (hT : TkF F tf) {wf : Nat}
include hT
theorem take_ev {ρ : Ev} {r : Dr} (hi : ρ[i]? = some (.ow r.d)) (h : DrOk r) {m : Int} (h0 : 0 < m) (h1 : m < 1073741824) : ev F (tkE tf i m) ρ = .ok (.val (.int (takeF r m).1)) (ρ.set i (.ow (takeF r m).2.d)) := by
  have e := hT r m h h0 h1
  unfold tkE
  simp [evSs, evS, G.ev, evTs, evBs, evCs, evPs, evI, evQ, Res.bind, Res.sr, SR.seq, ofO, ofS, force, forces, Sl.get, ixN, bop, uop, RV.new, RV.held, D.sh, D.shs, D.ok, D.eqv, D.eqvs, truthOf, D.truth, G.take, setL, getL, ownL, reown, asgT, G.prim, isInts, G.elems, G.items, itemsR, walkB, retR, outOf, iosOf, noOw, fzAt, plainSl_some, pln_un, pln_fz, G.lock, G.unlock, G.back, wipeE, SR.unl, G.guard, argsS, argS, apart, slotOf, putBack, G.chk, outR, mutD, rangeOf, optI, G.slc, at3_0, at3_1, at3_2, at3_3, so_const, so_not, so_and, so_or, so_xor, so_pick, idx_tup, q1, q2, q3, q4, q5, q6, q7, q8, q9, q10, q11, q12, q13, q14, q15, idx_lst, cut1_1, cut1_2, cut1_3, -beq_eq_false_iff_ne, -beq_iff_eq, hi, e]
/-- a row of takes -/
theorem takes_ev {ρ ρ1 : Ev} {it : G.It} {v : Nat} {items : List D} {r : Dr} {u : Sl} {m : Int} (hi : evI F it ρ = .ok (items, []) ρ1) (h1 : ρ1[i]? = some (.ow r.d)) (h : DrOk r) (hv : ρ1[v]? = some u) (pu : u.pln = true) (hne : i ≠ v) (h0 : 0 < m) (hm : m < 1073741824) (hz : items.length ≤ 1000) :
    ∃ (xs : List Int) (r' : Dr), DrOk r' ∧ xs.length = items.length ∧ (∀ x ∈ xs, 0 ≤ x ∧ x < m) ∧ ev F (.comp [v] (.nm v) it (.con (.bl true)) (.yld (tkE tf i m))) ρ = .ok (.own (.lst (xs.map .int))) (ρ1.set i (.ow r'.d)) := by
  have hl1 := (List.getElem?_eq_some_iff.mp h1).1
  have hlv := (List.getElem?_eq_some_iff.mp hv).1
  obtain ⟨xs, r', e1, hr, hl, hb'⟩ := takes_loop (vs := [v]) (f := turnF F (.nm v) (.con (.bl true)) (evQ F (.yld (tkE tf i m)))) h0 (fun r => (ρ1.set i (.ow r.d)).set v .un) (ds := items)
    (fun d hd r hr => by
      refine ⟨(ρ1.set i (.ow (takeF r m).2.d)).set v (.fz d), ?_, by show ((ρ1.set i (.ow (takeF r m).2.d)).set v (.fz d)).set v .un = _; rw [List.set_set]⟩
      have ha : asgT ((ρ1.set i (.ow r.d)).set v .un) (.nm v) (.val d) = some ((ρ1.set i (.ow r.d)).set v (.fz d)) := by
        show setS _ v (.fz d) = _
        rw [setS_nio (x := .un) (by rw [List.getElem?_set_self (by rw [List.length_set]; exact hlv)]) rfl, List.set_set]
      have ht := take_ev hT (i := i) (ρ := (ρ1.set i (.ow r.d)).set v (.fz d)) (r := r) (by rw [List.getElem?_set_ne (Ne.symm hne), List.getElem?_set_self hl1]) hr h0 hm
      rw [List.set_comm _ _ (Ne.symm hne), List.set_set] at ht
      unfold turnF
      rw [ha]
      generalize tkE tf i m = te at ht
      simp [evSs, evS, G.ev, evTs, evBs, evCs, evPs, evI, evQ, Res.bind, Res.sr, SR.seq, ofO, ofS, force, forces, Sl.get, ixN, bop, uop, RV.new, RV.held, D.sh, D.shs, D.ok, D.eqv, D.eqvs, truthOf, D.truth, G.take, setL, getL, ownL, reown, asgT, G.prim, isInts, G.elems, G.items, itemsR, walkB, retR, outOf, iosOf, noOw, fzAt, plainSl_some, pln_un, pln_fz, G.lock, G.unlock, G.back, wipeE, SR.unl, G.guard, argsS, argS, apart, slotOf, putBack, G.chk, outR, mutD, rangeOf, optI, G.slc, at3_0, at3_1, at3_2, at3_3, so_const, so_not, so_and, so_or, so_xor, so_pick, idx_tup, q1, q2, q3, q4, q5, q6, q7, q8, q9, q10, q11, q12, q13, q14, q15, idx_lst, cut1_1, cut1_2, cut1_3, -beq_eq_false_iff_ne, -beq_iff_eq, ht]) r h
  refine ⟨xs, r', hr, hl, hb', ?_⟩
  have hw : wipeE (lock ρ1 []) [v] = (ρ1.set i (.ow r.d)).set v .un := by
    show ρ1.set v .un = _
    rw [set_self h1]
  have e := comp_ev (F := F) (vs := [v]) (t := .nm v) (it := it) (c := .con (.bl true)) (q := .yld (tkE tf i m)) (ρ := ρ) (ρ1 := ρ1) (p := (items, [])) hi (by rw [List.all_cons, hv, plainSl_some, pu]; rfl) (by rw [hw]; exact e1) (by rw [List.length_map, hl]; exact sizeLine_big hz)
  rw [e]
  show Res.ok _ (((ρ1.set i (.ow r'.d)).set v .un).set v ((ρ1[v]?).getD .un)) = _
  rw [List.set_set, hv, Option.getD_some, set_self (x := u) (by rw [List.getElem?_set_ne hne]; exact hv)]
/-- the bits that many takes give -/
theorem bits_ev {ρ ρ1 : Ev} {it : G.It} {v n : Nat} {r : Dr} {u : Sl} (hi : evI F it ρ = .ok (rangeD 0 n, []) ρ1) (h1 : ρ1[i]? = some (.ow r.d)) (h : DrOk r) (hv : ρ1[v]? = some u) (pu : u.pln = true) (hne : i ≠ v) (hz : n ≤ 1000) :
    ∃ (xs : List Int) (r' : Dr), DrOk r' ∧ xs.length = n ∧ Bits xs ∧ ev F (.prim .tuple (.cons (.comp [v] (.nm v) it (.con (.bl true)) (.yld (tkE tf i 2))) .nil)) ρ = .ok (.val (iT xs)) (ρ1.set i (.ow r'.d)) := by
  obtain ⟨xs, r', hr, hl, hb, e⟩ := takes_ev hT hi h1 h hv pu hne (m := 2) (by decide) (by decide) (by rw [rangeD_len]; exact hz)
  rw [rangeD_len] at hl
  exact ⟨xs, r', hr, hl, fun x hx => by have := hb x hx; omega, ev_tuple e⟩
end
theorem add1_ev {F : Fn} {ρ ρ1 : Ev} {e : E} {n : Int} (h : ev F e ρ = .ok (.val (.int n)) ρ1) : ev F (.bin .add (.con (.int 1)) e) ρ = .ok (.val (.int (1 + n))) ρ1 := by
  simp [evSs, evS, G.ev, evTs, evBs, evCs, evPs, evI, evQ, Res.bind, Res.sr, SR.seq, ofO, ofS, force, forces, Sl.get, ixN, bop, uop, RV.new, RV.held, D.sh, D.shs, D.ok, D.eqv, D.eqvs, truthOf, D.truth, G.take, setL, getL, ownL, reown, asgT, G.prim, isInts, G.elems, G.items, itemsR, walkB, retR, outOf, iosOf, noOw, fzAt, plainSl_some, pln_un, pln_fz, G.lock, G.unlock, G.back, wipeE, SR.unl, G.guard, argsS, argS, apart, slotOf, putBack, G.chk, outR, mutD, rangeOf, optI, G.slc, at3_0, at3_1, at3_2, at3_3, so_const, so_not, so_and, so_or, so_xor, so_pick, idx_tup, q1, q2, q3, q4, q5, q6, q7, q8, q9, q10, q11, q12, q13, q14, q15, idx_lst, cut1_1, cut1_2, cut1_3, -beq_eq_false_iff_ne, -beq_iff_eq, h]
end G
end

section
set_option Elab.async false
set_option linter.all false
set_option maxRecDepth 100000
set_option maxHeartbeats 4000000
/-! k21: tables; seeds; the least feedback. -/
namespace K21
open PySem PySem.Spec PyProof.Rows L2 G
abbrev T : List Fd := tabOf (conOf cs) (freeOf fr) (dicsOf dcs) 40 40 ds
theorem ck : CkT T 0 1 2 3 := ⟨by kernel_rfl, by kernel_rfl, by kernel_rfl, by kernel_rfl⟩
theorem t4 : T[4]? = some ⟨1, 1, chkSs 3⟩ := by kernel_rfl
theorem t5 : T[5]? = some ⟨3, 2, valueSs⟩ := by kernel_rfl
theorem t6 : T[6]? = some ⟨5, 3, valuesSs 5⟩ := by kernel_rfl
theorem t7 : T[7]? = some ⟨5, 3, stepSs 6⟩ := by kernel_rfl
theorem t8 : T[8]? = some ⟨6, 2, runSs 7⟩ := by kernel_rfl
theorem t9 : T[9]? = some ⟨5, 1, arSs⟩ := by kernel_rfl
theorem t10 : T[10]? = some ⟨1, 1, ckSs 3⟩ := by kernel_rfl
theorem t11 : T[11]? = some ⟨7, 3, mbSs⟩ := by kernel_rfl
def sdE : E := .prim .tuple (.cons (.bin .add (.prim .list (.cons (.sli false true (.var 0) (.con .non) (.var 1)) .nil)) (.bin .mul (.lst (.cons (.con (.int 0)) .nil)) (.bin .sub (.var 1) (.prim .len (.cons (.var 0) .nil))))) .nil)
def sdSs : Ss := .cons (.ret sdE) .nil
def lfIf : S := .ite (.bin .eq (.call 11 [false, false, false] (.cons (.var 2) (.cons (.call 13 [false, false] (.cons (.var 0) (.cons (.var 1) .nil))) (.cons (.prim .len (.cons (.var 0) .nil)) .nil)))) (.prim .tuple (.cons (.var 0) .nil))) (.cons (.ret (.tup (.cons (.var 2) (.cons (.call 13 [false, false] (.cons (.var 0) (.cons (.var 1) .nil))) .nil)))) .nil) .nil
def lfFor : S := .for (.nm 2) (.val (.call 9 [false] (.cons (.var 1) .nil))) (.cons lfIf .nil)
def lfB : Ss := .cons lfFor (.cons (.aug 1 .add (.con (.int 1))) .nil)
def lfSs : Ss := .cons (.asg (.nm 1) (.con (.int 1))) (.cons (.whl (.con (.bl true)) lfB) .nil)
theorem t12 : T[12]? = some ⟨3, 1, lfSs⟩ := by kernel_rfl
theorem t13 : T[13]? = some ⟨2, 2, sdSs⟩ := by kernel_rfl
theorem t15 : T[15]? = some ⟨3, 1, drawSs⟩ := by kernel_rfl
theorem t16 : T[16]? = some ⟨3, 2, takeSs⟩ := by kernel_rfl
/-- made_bits, also where fewer bits are asked than the seed has -/
theorem mb_any {wf k : Nat} (hwf : 1000 ≤ wf) {taps seed : List Int} {m : Nat} (hl : taps.length ≤ seed.length) (h0 : seed.length < 800) (h2 : m < 800) : callN T wf (k + 1) 11 [.fz (iT taps), .fz (iT seed), .fz (.int m)] = .rt false (iT (mbF taps seed m)) [] := by
  have s1 : evS (callN T wf k) wf (.asg (.nm 3) (.prim .list (.cons (.var 1) .nil))) [.fz (iT taps), .fz (iT seed), .fz (.int m), .un, .un, .un, .un] = .nx (mbE taps seed m seed .un .un .un) := by
    refine asg_own (d := .lst (seed.map .int)) (ρ1 := [.fz (iT taps), .fz (iT seed), .fz (.int m), .un, .un, .un, .un]) ?_ rfl
    rfl
  obtain ⟨y4, y5, y6, ew⟩ := mb_while (F := callN T wf k) (wf := wf) (taps := taps) (seed := seed) (m := m) (m - seed.length) wf seed .un .un .un (by omega) hl (by omega) (by omega) rfl rfl rfl
  have sw : evS (callN T wf k) wf (.whl mbC mbB) (mbE taps seed m seed .un .un .un) = .nx (mbE taps seed m (growB taps seed (m - seed.length)) y4 y5 y6) := by rw [evS]; exact ew
  have hcut := cut_to (xs := (growB taps seed (m - seed.length)).map .int) (m := m)
  have hmt : ((growB taps seed (m - seed.length)).map D.int).take m = (mbF taps seed m).map .int := by unfold mbF; rw [List.map_take]
  rw [hmt] at hcut
  rw [callN_eq t11 rfl rfl]
  show outOf [.fz (iT taps), .fz (iT seed), .fz (.int m)] (evSs (callN T wf k) wf mbSs [.fz (iT taps), .fz (iT seed), .fz (.int m), .un, .un, .un, .un]) = _
  unfold mbSs
  rw [ss_step s1, ss_step sw, ss_ret (o := false) (d := iT (mbF taps seed m)) (ρ' := mbE taps seed m (growB taps seed (m - seed.length)) y4 y5 y6) (by
    unfold mbE iT
    generalize (growB taps seed (m - seed.length)).map D.int = gd at hcut ⊢
    generalize (mbF taps seed m).map D.int = md at hcut ⊢
    generalize taps.map D.int = tp
    generalize seed.map D.int = sd
    generalize (m : Int) = mi at hcut ⊢
    simp [evSs, evS, G.ev, evTs, evBs, evCs, evPs, evI, evQ, Res.bind, Res.sr, SR.seq, ofO, ofS, force, forces, Sl.get, ixN, bop, uop, RV.new, RV.held, D.sh, D.shs, D.ok, D.eqv, D.eqvs, truthOf, D.truth, G.take, setL, getL, ownL, reown, asgT, G.prim, isInts, G.elems, G.items, itemsR, walkB, retR, outOf, iosOf, noOw, fzAt, plainSl_some, pln_un, pln_fz, G.lock, G.unlock, G.back, wipeE, SR.unl, G.guard, argsS, argS, apart, slotOf, putBack, G.chk, outR, mutD, rangeOf, optI, G.slc, at3_0, at3_1, at3_2, at3_3, so_const, so_not, so_and, so_or, so_xor, so_pick, idx_tup, q1, q2, q3, q4, q5, q6, q7, q8, q9, q10, q11, q12, q13, q14, q15, idx_lst, cut1_1, cut1_2, cut1_3, -beq_eq_false_iff_ne, -beq_iff_eq, hcut])]
  rfl
/-- the seed that some bits give -/
def sdF (bits : List Int) (m : Nat) : List Int := bits.take m ++ List.replicate (m - bits.length) 0
theorem sdF_len {bits : List Int} {m : Nat} : (sdF bits m).length = m := by
  unfold sdF
  rw [List.length_append, List.length_take, List.length_replicate]
  omega
theorem sdF_bits {bits : List Int} (h : Bits bits) (m : Nat) : Bits (sdF bits m) := fun x hx => (List.mem_append.mp hx).elim (fun hx => h x (List.mem_of_mem_take hx)) fun hx => .inl (List.mem_replicate.mp hx).2
theorem sd_fn {wf k : Nat} {bits : List Int} {m : Nat} (h1 : m ≤ 100) (h2 : bits.length ≤ 100) : callN T wf (k + 1) 13 [.fz (iT bits), .fz (.int (m : Nat))] = .rt false (iT (sdF bits m)) [] := by
  have hcut := cut_to (xs := bits.map .int) (m := m)
  rw [← List.map_take] at hcut
  have hlen : prim .len [iT bits] = some (.int (bits.length : Nat)) := by show some (D.int ((bits.map D.int).length : Nat)) = _; rw [List.length_map]
  have hfl : (List.replicate (((m : Nat) : Int) - ((bits.length : Nat) : Int)).toNat [D.int 0]).flatten = (List.replicate (m - bits.length) (0 : Int)).map .int := by
    rw [show (((m : Nat) : Int) - ((bits.length : Nat) : Int)).toNat = m - bits.length by omega]
    induction m - bits.length with
    | zero => rfl
    | succ n ih => rw [List.replicate_succ, List.flatten_cons, ih]; rfl
  have hm : bop .mul (.lst [.int 0]) (.int (((m : Nat) : Int) - ((bits.length : Nat) : Int))) = some (.lst ((List.replicate (m - bits.length) (0 : Int)).map .int)) := by
    rw [bop_mulL (by omega) (by omega) (by rw [sizeLine_eq, List.length_singleton]; omega), hfl]
  have hz : ((bits.take m).map D.int).length + ((List.replicate (m - bits.length) (0 : Int)).map D.int).length ≤ sizeLine := sizeLine_big (by rw [List.length_map, List.length_map, List.length_take, List.length_replicate]; omega)
  have hs : (bits.take m).map D.int ++ (List.replicate (m - bits.length) (0 : Int)).map D.int = (sdF bits m).map .int := by unfold sdF; rw [List.map_append]
  have gen : ∀ {F : Fn} {bd td rd sd : List D} {mi li : Int}, G.cutD bd none (some mi) = td → prim .len [.tup bd] = some (.int li) → bop .mul (.lst [.int 0]) (.int (mi - li)) = some (.lst rd) → td.length + rd.length ≤ sizeLine → td ++ rd = sd →
      evSs F wf sdSs [.fz (.tup bd), .fz (.int mi)] = .rt false (.tup sd) [.fz (.tup bd), .fz (.int mi)] := by
    intro F bd td rd sd mi li e1 e2 e3 e4 e5
    have g1 : ev F (.prim .list (.cons (.sli false true (.var 0) (.con .non) (.var 1)) .nil)) [.fz (.tup bd), .fz (.int mi)] = .ok (.own (.lst td)) [.fz (.tup bd), .fz (.int mi)] := by
      simp [evSs, evS, G.ev, evTs, evBs, evCs, evPs, evI, evQ, Res.bind, Res.sr, SR.seq, ofO, ofS, force, forces, Sl.get, ixN, bop, uop, RV.new, RV.held, D.sh, D.shs, D.ok, D.eqv, D.eqvs, truthOf, D.truth, G.take, setL, getL, ownL, reown, asgT, G.prim, isInts, G.elems, G.items, itemsR, walkB, retR, outOf, iosOf, noOw, fzAt, plainSl_some, pln_un, pln_fz, G.lock, G.unlock, G.back, wipeE, SR.unl, G.guard, argsS, argS, apart, slotOf, putBack, G.chk, outR, mutD, rangeOf, optI, G.slc, at3_0, at3_1, at3_2, at3_3, so_const, so_not, so_and, so_or, so_xor, so_pick, idx_tup, q1, q2, q3, q4, q5, q6, q7, q8, q9, q10, q11, q12, q13, q14, q15, idx_lst, cut1_1, cut1_2, cut1_3, -beq_eq_false_iff_ne, -beq_iff_eq, e1]
    have g2 : ev F (.bin .sub (.var 1) (.prim .len (.cons (.var 0) .nil))) [.fz (.tup bd), .fz (.int mi)] = .ok (.val (.int (mi - li))) [.fz (.tup bd), .fz (.int mi)] := by
      simp [evSs, evS, G.ev, evTs, evBs, evCs, evPs, evI, evQ, Res.bind, Res.sr, SR.seq, ofO, ofS, force, forces, Sl.get, ixN, bop, uop, RV.new, RV.held, D.sh, D.shs, D.ok, D.eqv, D.eqvs, truthOf, D.truth, G.take, setL, getL, ownL, reown, asgT, isInts, G.elems, G.items, itemsR, walkB, retR, outOf, iosOf, noOw, fzAt, plainSl_some, pln_un, pln_fz, G.lock, G.unlock, G.back, wipeE, SR.unl, G.guard, argsS, argS, apart, slotOf, putBack, G.chk, outR, mutD, rangeOf, optI, G.slc, at3_0, at3_1, at3_2, at3_3, so_const, so_not, so_and, so_or, so_xor, so_pick, idx_tup, q1, q2, q3, q4, q5, q6, q7, q8, q9, q10, q11, q12, q13, q14, q15, idx_lst, cut1_1, cut1_2, cut1_3, -beq_eq_false_iff_ne, -beq_iff_eq, e2]
    have g3 : ev F (.bin .mul (.lst (.cons (.con (.int 0)) .nil)) (.bin .sub (.var 1) (.prim .len (.cons (.var 0) .nil)))) [.fz (.tup bd), .fz (.int mi)] = .ok (.own (.lst rd)) [.fz (.tup bd), .fz (.int mi)] := by
      generalize (E.bin .sub (.var 1) (.prim .len (.cons (.var 0) .nil))) = se at g2 ⊢
      simp [evSs, evS, G.ev, evTs, evBs, evCs, evPs, evI, evQ, Res.bind, Res.sr, SR.seq, ofO, ofS, force, forces, Sl.get, ixN, uop, RV.new, RV.held, D.sh, D.shs, D.ok, D.eqv, D.eqvs, truthOf, D.truth, G.take, setL, getL, ownL, reown, asgT, G.prim, isInts, G.elems, G.items, itemsR, walkB, retR, outOf, iosOf, noOw, fzAt, plainSl_some, pln_un, pln_fz, G.lock, G.unlock, G.back, wipeE, SR.unl, G.guard, argsS, argS, apart, slotOf, putBack, G.chk, outR, mutD, rangeOf, optI, G.slc, at3_0, at3_1, at3_2, at3_3, so_const, so_not, so_and, so_or, so_xor, so_pick, idx_tup, q1, q2, q3, q4, q5, q6, q7, q8, q9, q10, q11, q12, q13, q14, q15, idx_lst, cut1_1, cut1_2, cut1_3, -beq_eq_false_iff_ne, -beq_iff_eq, g2, e3]
    have eb : bop .add (.lst td) (.lst rd) = some (.lst sd) := by
      simp [evSs, evS, G.ev, evTs, evBs, evCs, evPs, evI, evQ, Res.bind, Res.sr, SR.seq, ofO, ofS, force, forces, Sl.get, ixN, bop, uop, RV.new, RV.held, D.sh, D.shs, D.ok, D.eqv, D.eqvs, truthOf, D.truth, G.take, setL, getL, ownL, reown, asgT, G.prim, isInts, G.elems, G.items, itemsR, walkB, retR, outOf, iosOf, noOw, fzAt, plainSl_some, pln_un, pln_fz, G.lock, G.unlock, G.back, wipeE, SR.unl, G.guard, argsS, argS, apart, slotOf, putBack, G.chk, outR, mutD, rangeOf, optI, G.slc, at3_0, at3_1, at3_2, at3_3, so_const, so_not, so_and, so_or, so_xor, so_pick, idx_tup, q1, q2, q3, q4, q5, q6, q7, q8, q9, q10, q11, q12, q13, q14, q15, idx_lst, cut1_1, cut1_2, cut1_3, -beq_eq_false_iff_ne, -beq_iff_eq, e4, e5]
    unfold sdSs sdE
    generalize (E.prim .list (.cons (.sli false true (.var 0) (.con .non) (.var 1)) .nil)) = ae at g1 ⊢
    generalize (E.bin .mul (.lst (.cons (.con (.int 0)) .nil)) (.bin .sub (.var 1) (.prim .len (.cons (.var 0) .nil)))) = be at g3 ⊢
    simp [evSs, evS, G.ev, evTs, evBs, evCs, evPs, evI, evQ, Res.bind, Res.sr, SR.seq, ofO, ofS, force, forces, Sl.get, ixN, uop, RV.new, RV.held, D.sh, D.shs, D.ok, D.eqv, D.eqvs, truthOf, D.truth, G.take, setL, getL, ownL, reown, asgT, G.prim, isInts, G.elems, G.items, itemsR, walkB, retR, outOf, iosOf, noOw, fzAt, plainSl_some, pln_un, pln_fz, G.lock, G.unlock, G.back, wipeE, SR.unl, G.guard, argsS, argS, apart, slotOf, putBack, G.chk, outR, mutD, rangeOf, optI, G.slc, at3_0, at3_1, at3_2, at3_3, so_const, so_not, so_and, so_or, so_xor, so_pick, idx_tup, q1, q2, q3, q4, q5, q6, q7, q8, q9, q10, q11, q12, q13, q14, q15, idx_lst, cut1_1, cut1_2, cut1_3, -beq_eq_false_iff_ne, -beq_iff_eq, g1, g3, eb]
  rw [callN_eq t13 rfl rfl]
  exact congrArg (outOf [.fz (iT bits), .fz (.int (m : Nat))]) (gen hcut hlen hm hz hs)
end K21
end

section
set_option Elab.async false
set_option linter.all false
set_option maxRecDepth 100000
set_option maxHeartbeats 4000000
/-! k21: least_feedback finds taps that make the bits. -/
namespace K21
open PySem PySem.Spec PyProof.Rows L2 G
structure FitsB (bits taps seed : List Int) : Prop where
  tb : Bits taps
  l1 : 1 ≤ taps.length
  l2 : taps.length ≤ 8
  sd : seed = sdF bits taps.length
  made : mbF taps seed bits.length = bits
section
variable {F : Fn} {wf : Nat} {bits : List Int} (hb : Bits bits) (h1 : 1 ≤ bits.length) (h8 : bits.length ≤ 8)
  (f9 : ∀ m : Nat, m ≤ 9 → F 9 [.fz (.int (m : Nat))] = .rt true (.lst ((rowsF m).map iT)) [])
  (f13 : ∀ m : Nat, m ≤ 9 → F 13 [.fz (iT bits), .fz (.int (m : Nat))] = .rt false (iT (sdF bits m)) [])
  (f11 : ∀ (taps seed : List Int), taps.length ≤ seed.length → seed.length < 800 → F 11 [.fz (iT taps), .fz (iT seed), .fz (.int (bits.length : Nat))] = .rt false (iT (mbF taps seed bits.length)) [])
theorem lf_call {m : Nat} {t : List Int} (e13 : F 13 [.fz (iT bits), .fz (.int (m : Nat))] = .rt false (iT (sdF bits m)) []) : ev F (.call 13 [false, false] (.cons (.var 0) (.cons (.var 1) .nil))) [.fz (iT bits), .fz (.int (m : Nat)), .fz (iT t)] = .ok (.val (iT (sdF bits m))) [.fz (iT bits), .fz (.int (m : Nat)), .fz (iT t)] := by
  generalize iT bits = bd at e13 ⊢
  generalize iT t = td
  generalize iT (sdF bits m) = sd at e13 ⊢
  simp [evSs, evS, G.ev, evTs, evBs, evCs, evPs, evI, evQ, Res.bind, Res.sr, SR.seq, ofO, ofS, force, forces, Sl.get, ixN, bop, uop, RV.new, RV.held, D.sh, D.shs, D.ok, D.eqv, D.eqvs, truthOf, D.truth, G.take, setL, getL, ownL, reown, asgT, G.prim, isInts, G.elems, G.items, itemsR, walkB, retR, outOf, iosOf, noOw, fzAt, plainSl_some, pln_un, pln_fz, G.lock, G.unlock, G.back, wipeE, SR.unl, G.guard, argsS, argS, apart, slotOf, putBack, G.chk, outR, mutD, rangeOf, optI, G.slc, at3_0, at3_1, at3_2, at3_3, so_const, so_not, so_and, so_or, so_xor, so_pick, idx_tup, q1, q2, q3, q4, q5, q6, q7, q8, q9, q10, q11, q12, q13, q14, q15, idx_lst, cut1_1, cut1_2, cut1_3, -beq_eq_false_iff_ne, -beq_iff_eq, e13]
include f13 f11 in
theorem lf_body {m : Nat} {t : List Int} (hm : m ≤ 8) (ht : t.length = m) :
    evSs F wf (.cons lfIf .nil) [.fz (iT bits), .fz (.int (m : Nat)), .fz (iT t)] = if mbF t (sdF bits m) bits.length = bits then .rt false (.tup [iT t, iT (sdF bits m)]) [.fz (iT bits), .fz (.int (m : Nat)), .fz (iT t)] else .nx [.fz (iT bits), .fz (.int (m : Nat)), .fz (iT t)] := by
  have e13 := f13 m (by omega)
  have c13 := lf_call (t := t) e13
  have e11 := f11 t (sdF bits m) (by rw [sdF_len]; omega) (by rw [sdF_len]; omega)
  have hlen : prim .len [iT bits] = some (.int (bits.length : Nat)) := by show some (D.int ((bits.map D.int).length : Nat)) = _; rw [List.length_map]
  have cl : ev F (.prim .len (.cons (.var 0) .nil)) [.fz (iT bits), .fz (.int (m : Nat)), .fz (iT t)] = .ok (.val (.int (bits.length : Nat))) [.fz (iT bits), .fz (.int (m : Nat)), .fz (iT t)] := by
    generalize iT bits = bd at hlen ⊢
    generalize ((bits.length : Nat) : Int) = l at hlen ⊢
    generalize iT t = td
    simp [evSs, evS, G.ev, evTs, evBs, evCs, evPs, evI, evQ, Res.bind, Res.sr, SR.seq, ofO, ofS, force, forces, Sl.get, ixN, bop, uop, RV.new, RV.held, D.sh, D.shs, D.ok, D.eqv, D.eqvs, truthOf, D.truth, G.take, setL, getL, ownL, reown, asgT, isInts, G.elems, G.items, itemsR, walkB, retR, outOf, iosOf, noOw, fzAt, plainSl_some, pln_un, pln_fz, G.lock, G.unlock, G.back, wipeE, SR.unl, G.guard, argsS, argS, apart, slotOf, putBack, G.chk, outR, mutD, rangeOf, optI, G.slc, at3_0, at3_1, at3_2, at3_3, so_const, so_not, so_and, so_or, so_xor, so_pick, idx_tup, q1, q2, q3, q4, q5, q6, q7, q8, q9, q10, q11, q12, q13, q14, q15, idx_lst, cut1_1, cut1_2, cut1_3, -beq_eq_false_iff_ne, -beq_iff_eq, hlen]
  have g1 : ev F (.call 11 [false, false, false] (.cons (.var 2) (.cons (.call 13 [false, false] (.cons (.var 0) (.cons (.var 1) .nil))) (.cons (.prim .len (.cons (.var 0) .nil)) .nil)))) [.fz (iT bits), .fz (.int (m : Nat)), .fz (iT t)] = .ok (.val (iT (mbF t (sdF bits m) bits.length))) [.fz (iT bits), .fz (.int (m : Nat)), .fz (iT t)] := by
    generalize (E.call 13 [false, false] (.cons (.var 0) (.cons (.var 1) .nil))) = ce at c13 ⊢
    generalize (E.prim .len (.cons (.var 0) .nil)) = le at cl ⊢
    generalize iT (mbF t (sdF bits m) bits.length) = od at e11 ⊢
    generalize iT (sdF bits m) = sd at c13 e11 ⊢
    generalize iT bits = bd at c13 cl ⊢
    generalize iT t = td at c13 cl e11 ⊢
    generalize ((bits.length : Nat) : Int) = l at cl e11 ⊢
    simp [evSs, evS, G.ev, evTs, evBs, evCs, evPs, evI, evQ, Res.bind, Res.sr, SR.seq, ofO, ofS, force, forces, Sl.get, ixN, bop, uop, RV.new, RV.held, D.sh, D.shs, D.ok, D.eqv, D.eqvs, truthOf, D.truth, G.take, setL, getL, ownL, reown, asgT, G.prim, isInts, G.elems, G.items, itemsR, walkB, retR, outOf, iosOf, noOw, fzAt, plainSl_some, pln_un, pln_fz, G.lock, G.unlock, G.back, wipeE, SR.unl, G.guard, argsS, argS, apart, slotOf, putBack, G.chk, outR, mutD, rangeOf, optI, G.slc, at3_0, at3_1, at3_2, at3_3, so_const, so_not, so_and, so_or, so_xor, so_pick, idx_tup, q1, q2, q3, q4, q5, q6, q7, q8, q9, q10, q11, q12, q13, q14, q15, idx_lst, cut1_1, cut1_2, cut1_3, -beq_eq_false_iff_ne, -beq_iff_eq, c13, cl, e11]
  have g2 : ev F (.prim .tuple (.cons (.var 0) .nil)) [.fz (iT bits), .fz (.int (m : Nat)), .fz (iT t)] = .ok (.val (iT bits)) [.fz (iT bits), .fz (.int (m : Nat)), .fz (iT t)] := rfl
  have c := eq_ev2 (q := decide (mbF t (sdF bits m) bits.length = bits)) g1 rfl g2 rfl (shT (sh_ints _)) (shT (sh_ints _)) (show D.eqv _ _ = _ from by rw [iT, iT, D.eqv, eqvs_ints])
  unfold lfIf
  have hr : evSs F wf (.cons (.ret (.tup (.cons (.var 2) (.cons (.call 13 [false, false] (.cons (.var 0) (.cons (.var 1) .nil))) .nil)))) .nil) [.fz (iT bits), .fz (.int (m : Nat)), .fz (iT t)] = .rt false (.tup [iT t, iT (sdF bits m)]) [.fz (iT bits), .fz (.int (m : Nat)), .fz (iT t)] := by
    refine ss_ret ?_
    generalize (E.call 13 [false, false] (.cons (.var 0) (.cons (.var 1) .nil))) = ce at c13 ⊢
    generalize iT (sdF bits m) = sd at c13 ⊢
    generalize iT bits = bd at c13 ⊢
    generalize iT t = td at c13 ⊢
    simp [evSs, evS, G.ev, evTs, evBs, evCs, evPs, evI, evQ, Res.bind, Res.sr, SR.seq, ofO, ofS, force, forces, Sl.get, ixN, bop, uop, RV.new, RV.held, D.sh, D.shs, D.ok, D.eqv, D.eqvs, truthOf, D.truth, G.take, setL, getL, ownL, reown, asgT, G.prim, isInts, G.elems, G.items, itemsR, walkB, retR, outOf, iosOf, noOw, fzAt, plainSl_some, pln_un, pln_fz, G.lock, G.unlock, G.back, wipeE, SR.unl, G.guard, argsS, argS, apart, slotOf, putBack, G.chk, outR, mutD, rangeOf, optI, G.slc, at3_0, at3_1, at3_2, at3_3, so_const, so_not, so_and, so_or, so_xor, so_pick, idx_tup, q1, q2, q3, q4, q5, q6, q7, q8, q9, q10, q11, q12, q13, q14, q15, idx_lst, cut1_1, cut1_2, cut1_3, -beq_eq_false_iff_ne, -beq_iff_eq, c13]
  have hi := ite_ev (F := F) (wf := wf) (A := .cons (.ret (.tup (.cons (.var 2) (.cons (.call 13 [false, false] (.cons (.var 0) (.cons (.var 1) .nil))) .nil)))) .nil) (B := .nil) c rfl
  by_cases h : mbF t (sdF bits m) bits.length = bits
  · rw [if_pos h]
    rw [decide_eq_true h, if_pos rfl, hr] at hi
    exact ss_ret hi
  · rw [if_neg h]
    rw [decide_eq_false h, if_neg (by decide)] at hi
    exact ss_last hi
include hb h1 h8 f9 f13 f11
theorem lf_for {m : Nat} {y2 : Sl} (m1 : 1 ≤ m) (hm : m ≤ 8) (p2 : y2.nio = true) :
    (∃ y3 : Sl, y3.nio = true ∧ (∀ t ∈ rowsF m, mbF t (sdF bits m) bits.length ≠ bits) ∧ evS F wf lfFor [.fz (iT bits), .fz (.int (m : Nat)), y2] = .nx [.fz (iT bits), .fz (.int (m : Nat)), y3]) ∨
    ∃ (t seed : List Int) (ρ : Ev), FitsB bits t seed ∧ t.length = m ∧ evS F wf lfFor [.fz (iT bits), .fz (.int (m : Nat)), y2] = .rt false (.tup [iT t, iT seed]) (.fz (iT bits) :: ρ) := by
  have e9 := f9 m (by omega)
  have hi : evI F (.val (.call 9 [false] (.cons (.var 1) .nil))) [.fz (iT bits), .fz (.int (m : Nat)), y2] = .ok ((rowsF m).map iT, [.own (.lst ((rowsF m).map iT))]) [.fz (iT bits), .fz (.int (m : Nat)), y2] := by
    generalize (rowsF m).map iT = rd at e9 ⊢
    generalize iT bits = bd
    generalize ((m : Nat) : Int) = mi at e9 ⊢
    simp [evSs, evS, G.ev, evTs, evBs, evCs, evPs, evI, evQ, Res.bind, Res.sr, SR.seq, ofO, ofS, force, forces, Sl.get, ixN, bop, uop, RV.new, RV.held, D.sh, D.shs, D.ok, D.eqv, D.eqvs, truthOf, D.truth, G.take, setL, getL, ownL, reown, asgT, G.prim, isInts, G.elems, G.items, itemsR, walkB, retR, outOf, iosOf, noOw, fzAt, plainSl_some, pln_un, pln_fz, G.lock, G.unlock, G.back, wipeE, SR.unl, G.guard, argsS, argS, apart, slotOf, putBack, G.chk, outR, mutD, rangeOf, optI, G.slc, at3_0, at3_1, at3_2, at3_3, so_const, so_not, so_and, so_or, so_xor, so_pick, idx_tup, q1, q2, q3, q4, q5, q6, q7, q8, q9, q10, q11, q12, q13, q14, q15, idx_lst, cut1_1, cut1_2, cut1_3, -beq_eq_false_iff_ne, -beq_iff_eq, e9]
  rcases for_find (F := F) (wf := wf) (t := .nm 2) (b := .cons lfIf .nil) hi
    (fun i ρ => ∃ y2 : Sl, ρ = [.fz (iT bits), .fz (.int (m : Nat)), y2] ∧ y2.nio = true ∧ ∀ j t, j < i → (rowsF m)[j]? = some t → mbF t (sdF bits m) bits.length ≠ bits)
    (fun o v ρ => ∃ (t : List Int), o = false ∧ FitsB bits t (sdF bits m) ∧ t.length = m ∧ v = .tup [iT t, iT (sdF bits m)] ∧ ∃ ρ2, ρ = .fz (iT bits) :: ρ2)
    ⟨y2, rfl, p2, fun j t h => by omega⟩
    (fun i d ρ hd ⟨y2, e', p2, hj⟩ => by
      rw [List.getElem?_map] at hd
      obtain ⟨t, ht, rfl⟩ := Option.map_eq_some_iff.mp hd
      subst e'
      have htm := rowsF_mem (List.mem_of_getElem? ht)
      have eb := lf_body (wf := wf) f13 f11 hm htm.1
      refine ⟨[.fz (iT bits), .fz (.int (m : Nat)), .fz (iT t)], setS_nio rfl p2, ?_⟩
      rw [eb]
      by_cases h : mbF t (sdF bits m) bits.length = bits
      · rw [if_pos h]
        exact .inr ⟨_, _, _, rfl, t, rfl, ⟨htm.2, by omega, by omega, by rw [htm.1], h⟩, htm.1, rfl, _, rfl⟩
      · rw [if_neg h]
        refine .inl ⟨_, rfl, _, rfl, rfl, fun j t2 hjl ht2 => ?_⟩
        by_cases hji : j < i
        · exact hj j t2 hji ht2
        · rw [show j = i by omega, ht] at ht2
          cases ht2
          exact h) with ⟨ρ', ⟨y2', rfl, q2, hj⟩, e⟩ | ⟨o, v, ρ', ⟨t, rfl, hf, hl, rfl, ρ2, rfl⟩, e⟩
  · refine .inl ⟨y2', q2, fun t ht => ?_, e⟩
    obtain ⟨j, hj2⟩ := List.getElem?_of_mem ht
    exact hj j t (by rw [List.length_map]; exact (List.getElem?_eq_some_iff.mp hj2).1) hj2
  · exact .inr ⟨t, _, _, hf, hl, e⟩
theorem lf_while : ∀ (d n m : Nat) (y2 : Sl), m + d = bits.length → d < n → 1 ≤ m → y2.nio = true →
    ∃ (t seed : List Int) (ρ : Ev), FitsB bits t seed ∧ whN (fun ρ => (ev F (.con (.bl true)) ρ).bind fun r ρ => truthOf ρ r) (evSs F wf lfB) n [.fz (iT bits), .fz (.int (m : Nat)), y2] = .rt false (.tup [iT t, iT seed]) (.fz (iT bits) :: ρ)
  | d, 0, m, y2, _, hn, _, _ => by omega
  | d, n + 1, m, y2, hd, hn, m1, p2 => by
    rcases lf_for (wf := wf) hb h1 h8 f9 f13 f11 m1 (show m ≤ 8 by omega) p2 with ⟨y2', q2, hno, e⟩ | ⟨t, seed, ρ, hf, _, e⟩
    · cases d with
      | zero =>
        exfalso
        have hm : m = bits.length := by omega
        have hne : List.replicate m (0 : Int) ∈ rowsF m := rowsF_all List.length_replicate fun x hx => .inl (List.mem_replicate.mp hx).2
        refine hno _ hne ?_
        subst hm
        have hs : sdF bits bits.length = bits := by unfold sdF; rw [List.take_length, Nat.sub_self]; simp [evSs, evS, G.ev, evTs, evBs, evCs, evPs, evI, evQ, Res.bind, Res.sr, SR.seq, ofO, ofS, force, forces, Sl.get, ixN, bop, uop, RV.new, RV.held, D.sh, D.shs, D.ok, D.eqv, D.eqvs, truthOf, D.truth, G.take, setL, getL, ownL, reown, asgT, G.prim, isInts, G.elems, G.items, itemsR, walkB, retR, outOf, iosOf, noOw, fzAt, plainSl_some, pln_un, pln_fz, G.lock, G.unlock, G.back, wipeE, SR.unl, G.guard, argsS, argS, apart, slotOf, putBack, G.chk, outR, mutD, rangeOf, optI, G.slc, at3_0, at3_1, at3_2, at3_3, so_const, so_not, so_and, so_or, so_xor, so_pick, idx_tup, q1, q2, q3, q4, q5, q6, q7, q8, q9, q10, q11, q12, q13, q14, q15, idx_lst, cut1_1, cut1_2, cut1_3, -beq_eq_false_iff_ne, -beq_iff_eq]
        unfold mbF
        rw [hs, Nat.sub_self]
        show bits.take bits.length = bits
        exact List.take_length
      | succ d =>
        obtain ⟨t, seed, ρ, hf, ew⟩ := lf_while d n (m + 1) y2' (by omega) (by omega) (by omega) q2
        refine ⟨t, seed, ρ, hf, ?_⟩
        have sb : evSs F wf lfB [.fz (iT bits), .fz (.int (m : Nat)), y2] = .nx [.fz (iT bits), .fz (.int ((m + 1 : Nat) : Int)), y2'] := by
          unfold lfB
          rw [ss_step e]
          refine ss_last ?_
          have : ((m + 1 : Nat) : Int) = ((m : Nat) : Int) + 1 := by omega
          rw [this]
          generalize ((m : Nat) : Int) = mi
          generalize iT bits = bd
          simp [evSs, evS, G.ev, evTs, evBs, evCs, evPs, evI, evQ, Res.bind, Res.sr, SR.seq, ofO, ofS, force, forces, Sl.get, ixN, bop, uop, RV.new, RV.held, D.sh, D.shs, D.ok, D.eqv, D.eqvs, truthOf, D.truth, G.take, setL, getL, ownL, reown, asgT, G.prim, isInts, G.elems, G.items, itemsR, walkB, retR, outOf, iosOf, noOw, fzAt, plainSl_some, pln_un, pln_fz, G.lock, G.unlock, G.back, wipeE, SR.unl, G.guard, argsS, argS, apart, slotOf, putBack, G.chk, outR, mutD, rangeOf, optI, G.slc, at3_0, at3_1, at3_2, at3_3, so_const, so_not, so_and, so_or, so_xor, so_pick, idx_tup, q1, q2, q3, q4, q5, q6, q7, q8, q9, q10, q11, q12, q13, q14, q15, idx_lst, cut1_1, cut1_2, cut1_3, -beq_eq_false_iff_ne, -beq_iff_eq, aop, setS]
        rw [whN]
        show (match evSs F wf lfB [.fz (iT bits), .fz (.int (m : Nat)), y2] with | .nx ρ => whN _ _ n ρ | .ct ρ => whN _ _ n ρ | .bk ρ => SR.nx ρ | r => r) = _
        rw [sb]
        exact ew
    · refine ⟨t, seed, ρ, hf, ?_⟩
      have sb : evSs F wf lfB [.fz (iT bits), .fz (.int (m : Nat)), y2] = .rt false (.tup [iT t, iT seed]) (.fz (iT bits) :: ρ) := by
        unfold lfB
        exact ss_ret e
      rw [whN]
      show (match evSs F wf lfB [.fz (iT bits), .fz (.int (m : Nat)), y2] with | .nx ρ => whN _ _ n ρ | .ct ρ => whN _ _ n ρ | .bk ρ => SR.nx ρ | r => r) = _
      rw [sb]
end
theorem lf_fn {wf k : Nat} (hwf : 1000 ≤ wf) {bits : List Int} (hb : Bits bits) (h1 : 1 ≤ bits.length) (h8 : bits.length ≤ 8) : ∃ t seed : List Int, FitsB bits t seed ∧ callN T wf (k + 2) 12 [.fz (iT bits)] = .rt false (.tup [iT t, iT seed]) [] := by
  have f9 : ∀ m : Nat, m ≤ 9 → callN T wf (k + 1) 9 [.fz (.int (m : Nat))] = .rt true (.lst ((rowsF m).map iT)) [] := fun m hm => ar_fn t9 hm
  have f13 : ∀ m : Nat, m ≤ 9 → callN T wf (k + 1) 13 [.fz (iT bits), .fz (.int (m : Nat))] = .rt false (iT (sdF bits m)) [] := fun m hm => sd_fn (by omega) (by omega)
  have f11 : ∀ (taps seed : List Int), taps.length ≤ seed.length → seed.length < 800 → callN T wf (k + 1) 11 [.fz (iT taps), .fz (iT seed), .fz (.int (bits.length : Nat))] = .rt false (iT (mbF taps seed bits.length)) [] := fun taps seed hl h => mb_any hwf hl h (by omega)
  obtain ⟨t, seed, ρ, hf, ew⟩ := lf_while (F := callN T wf (k + 1)) (wf := wf) hb h1 h8 f9 f13 f11 (bits.length - 1) wf 1 .un (by omega) (by omega) (by omega) rfl
  refine ⟨t, seed, hf, ?_⟩
  rw [callN_eq t12 rfl rfl]
  have s1 : evS (callN T wf (k + 1)) wf (.asg (.nm 1) (.con (.int 1))) [.fz (iT bits), .un, .un] = .nx [.fz (iT bits), .fz (.int (1 : Nat)), .un] := rfl
  have s2 : evS (callN T wf (k + 1)) wf (.whl (.con (.bl true)) lfB) [.fz (iT bits), .fz (.int (1 : Nat)), .un] = .rt false (.tup [iT t, iT seed]) (.fz (iT bits) :: ρ) := by rw [evS]; exact ew
  refine (congrArg (outOf [.fz (iT bits)]) ((ss_step s1).trans (ss_ret s2))).trans ?_
  rfl
end K21
end

section
set_option Elab.async false
set_option linter.all false
set_option maxRecDepth 100000
set_option maxHeartbeats 4000000
/-! k21: the circuit that feeds itself, in plain lists. -/
namespace K21
open PySem PySem.Spec PyProof.Rows L2 G
def fgo (n : Int) : Int → List Int → List Gt → List Gt × Int
  | told, [], gs => (gs, told)
  | told, u :: us, gs => fgo n (n + (gs.length : Nat)) us (gs ++ [.xor told u])
def fg (n : Int) : List Int → List Gt × Int
  | [] => ([.const 0], n)
  | u :: us => fgo n u us []
/-- the registers that count, from the greatest on -/
def usD (taps : List Int) : List Int := ((List.range taps.length).filter fun k => decide (taps.getD k 0 = 1)).map fun k => (taps.length : Int) - 1 - (k : Nat)
def usA (taps : List Int) : List Int := (usD taps).reverse
def fcC (taps seed : List Int) : Circ := ⟨0, seed, (fg (taps.length : Nat) (usA taps)).1, ((List.range (taps.length - 1)).map fun k => 1 + ((k : Nat) : Int)) ++ [(fg (taps.length : Nat) (usA taps)).2], [0]⟩
def gokB (n : Int) (gs : List Gt) : Bool := (List.range gs.length).all fun i => match gs[i]? with
  | some (.xor a b) => decide (0 ≤ a) && decide (a < n + (i : Nat)) && decide (0 ≤ b) && decide (b < n + (i : Nat))
  | some (.const b) => decide (b = 0)
  | _ => false
theorem gok_of {n : Int} {gs : List Gt} (h : gokB n gs = true) : GatesOk n gs := by
  intro i g hg
  have hi : i < gs.length := (List.getElem?_eq_some_iff.mp hg).1
  have h2 := List.all_eq_true.mp h i (List.mem_range.mpr hi)
  rw [hg] at h2
  cases g with
  | const b =>
    have : b = 0 := by simpa using h2
    exact .inl this
  | xor a b =>
    simp only [Bool.and_eq_true, decide_eq_true_eq] at h2
    exact ⟨⟨h2.1.1.1, h2.1.1.2⟩, h2.1.2, h2.2⟩
  | not a => cases h2
  | and a b => cases h2
  | or a b => cases h2
  | pick a b c => cases h2
theorem fc_all : ∀ n ∈ [1, 2, 3, 4, 5], ∀ taps ∈ rowsF n, sortI (usD taps) = usA taps ∧ gokB (n : Nat) (fg (n : Nat) (usA taps)).1 = true ∧ (∀ x ∈ (fcC taps []).nx, 0 ≤ x ∧ x < (n : Int) + ((fg (n : Nat) (usA taps)).1.length : Nat)) ∧
    (fg (n : Nat) (usA taps)).1.length = (if usD taps = [] then 1 else (usD taps).length - 1) := by decide +kernel
theorem fc_step : ∀ n ∈ [1, 2, 3, 4, 5], ∀ taps ∈ rowsF n, ∀ r ∈ rowsF n, stepF (fcC taps []) r [] = ([r.headD 0], r.tail ++ [nextB taps r]) := by decide +kernel
theorem in5 {n : Nat} (h1 : 1 ≤ n) (h5 : n ≤ 5) : n ∈ [1, 2, 3, 4, 5] := by
  have : n = 1 ∨ n = 2 ∨ n = 3 ∨ n = 4 ∨ n = 5 := by omega
  rcases this with e | e | e | e | e <;> rw [e] <;> simp
section
variable {taps seed : List Int} (ht : Bits taps) (hs : Bits seed) (hl : seed.length = taps.length) (h1 : 1 ≤ taps.length) (h5 : taps.length ≤ 5)
theorem fgo_xor (n : Int) : ∀ (us : List Int) (told : Int) (gs : List Gt), (∀ g ∈ gs, (∃ a b, g = .xor a b) ∨ g = .const 0) → ∀ g ∈ (fgo n told us gs).1, (∃ a b, g = .xor a b) ∨ g = .const 0
  | [], told, gs, h => h
  | u :: us, told, gs, h => fgo_xor n us _ _ fun g hg => (List.mem_append.mp hg).elim (h g) fun hg => .inl ⟨_, _, List.mem_singleton.mp hg⟩
theorem fg_xor (n : Int) (us : List Int) : ∀ g ∈ (fg n us).1, (∃ a b, g = .xor a b) ∨ g = .const 0 := by
  cases us with
  | nil => exact fun g hg => .inr (List.mem_singleton.mp hg)
  | cons u us => exact fgo_xor n us u [] fun g hg => by cases hg
include ht hs hl h1 h5
theorem fc_ok : CircOk (fcC taps seed) := by
  have ha := fc_all taps.length (in5 h1 h5) taps (rowsF_all rfl ht)
  have hm : (fcC taps seed).many = (taps.length : Int) + ((fg (taps.length : Nat) (usA taps)).1.length : Nat) := by
    show (0 : Int) + (seed.length : Nat) + _ = _
    rw [hl]
    show 0 + ((taps.length : Nat) : Int) + (((fg (taps.length : Nat) (usA taps)).1.length : Nat) : Int) = _
    omega
  refine ⟨Int.le_refl _, fun b hb => by have := hs b hb; omega, ?_, ?_, fun x hx => ?_, fun x hx => ?_⟩
  · show GatesOk (0 + ((seed.length : Nat) : Int)) _
    rw [hl, Int.zero_add]
    exact gok_of ha.2.1
  · show (((List.range (taps.length - 1)).map _) ++ [_]).length = seed.length
    rw [List.length_append, List.length_map, List.length_range, List.length_singleton, hl]
    omega
  · rw [hm]
    exact ha.2.2.1 x hx
  · rw [List.mem_singleton.mp hx, hm]
    omega
theorem fc_gl : (fcC taps seed).gs.length = (if usD taps = [] then 1 else (usD taps).length - 1) := (fc_all taps.length (in5 h1 h5) taps (rowsF_all rfl ht)).2.2.2
theorem fc_gl5 : (fcC taps seed).gs.length ≤ 5 := by
  rw [fc_gl ht hs hl h1 h5]
  have : (usD taps).length ≤ taps.length := by
    unfold usD
    rw [List.length_map]
    have := List.length_filter_le (fun k => decide (taps.getD k 0 = 1)) (List.range taps.length)
    rwa [List.length_range] at this
  split <;> omega
theorem fc_fit : Fit (fcC taps seed) := ⟨by show (0 : Int) ≤ 6; decide, by show seed.length ≤ 5; omega, by have := fc_gl5 ht hs hl h1 h5; omega, Nat.le_refl 1, by show 1 ≤ 6; decide⟩
theorem fc_run {w : Nat} (hw : w ≤ 100) : RunOk (fcC taps seed) (List.replicate w []) := by
  have := fc_gl5 ht hs hl h1 h5
  exact ⟨fc_ok ht hs hl h1 h5, by omega, by show 1 ≤ 100; decide, by show (0 : Int) + (seed.length : Nat) ≤ 100; omega, by rw [List.length_replicate]; omega, fun l hl => by rw [(List.mem_replicate.mp hl).2]; exact ⟨fun x hx => (by cases hx), rfl⟩⟩
end
/-! ### the bits -/
theorem told_pre (taps xs r : List Int) : ∀ i, i ≤ taps.length → taps.length ≤ r.length → toldB taps (xs ++ r) i = toldB taps r i
  | 0, _, _ => rfl
  | i + 1, hi, hr => by
    rw [toldB, toldB, told_pre taps xs r i (by omega) hr]
    congr 2
    rw [List.getD_eq_getElem?_getD, List.getD_eq_getElem?_getD, List.length_append, List.getElem?_append_right (by omega)]
    congr 2
    omega
theorem next_drop {taps bits : List Int} {i : Nat} (h : taps.length + i ≤ bits.length) : nextB taps (bits.drop i) = nextB taps bits := by
  have e := told_pre taps (bits.take i) (bits.drop i) taps.length (Nat.le_refl _) (by rw [List.length_drop]; omega)
  rw [List.take_append_drop] at e
  exact e.symm
def bitF (taps seed : List Int) (j : Nat) : Int := (growB taps seed j).getD j 0
theorem grow_at {taps seed : List Int} {j d : Nat} (h : j < seed.length + d) (h0 : 1 ≤ seed.length) : (growB taps seed d).getD j 0 = bitF taps seed j := by
  have pre : ∀ {a b : Nat}, a ≤ b → j < seed.length + a → (growB taps seed b).getD j 0 = (growB taps seed a).getD j 0 := by
    intro a b hab ha
    obtain ⟨t, et⟩ := grow_pre taps (b - a) (growB taps seed a)
    have : growB taps seed b = growB taps (growB taps seed a) (b - a) := by rw [← grow_add, show a + (b - a) = b by omega]
    rw [this, et, List.getD_eq_getElem?_getD, List.getElem?_append_left (by rw [grow_len]; omega), ← List.getD_eq_getElem?_getD]
  unfold bitF
  by_cases hjd : j ≤ d
  · exact pre hjd (by omega)
  · exact (pre (show d ≤ j by omega) h).symm
theorem mb_map {taps seed : List Int} {m : Nat} (h0 : 1 ≤ seed.length) : mbF taps seed m = (List.range m).map (bitF taps seed) := by
  have hl : (mbF taps seed m).length = m := by
    unfold mbF
    rw [List.length_take, grow_len]
    omega
  refine List.ext_getElem (by rw [hl, List.length_map, List.length_range]) fun j h1 h2 => ?_
  have h3 : j < m := by rw [hl] at h1; exact h1
  have e : (mbF taps seed m)[j]'h1 = (growB taps seed (m - seed.length))[j]'(by rw [grow_len]; omega) := by simp only [mbF, List.getElem_take]
  rw [List.getElem_map, List.getElem_range, ← grow_at (d := m - seed.length) (by omega) h0, e, List.getD_eq_getElem?_getD, List.getElem?_eq_getElem (by rw [grow_len]; omega)]
  rfl
section
variable {taps seed : List Int} (ht : Bits taps) (hs : Bits seed) (hl : seed.length = taps.length) (h1 : 1 ≤ taps.length) (h5 : taps.length ≤ 5)
include ht hs hl h1 h5
theorem fc_runP : ∀ i, runP (fcC taps seed) (List.replicate i []) = ((List.range i).map fun j => [bitF taps seed j], (growB taps seed i).drop i)
  | 0 => rfl
  | i + 1 => by
    have hr : ((growB taps seed i).drop i).length = taps.length := by rw [List.length_drop, grow_len]; omega
    have hb : Bits ((growB taps seed i).drop i) := fun x hx => grow_bits ht i seed hs x (List.mem_of_mem_drop hx)
    have es := fc_step taps.length (in5 h1 h5) taps (rowsF_all rfl ht) _ (rowsF_all hr hb)
    have es2 : stepF (fcC taps seed) ((growB taps seed i).drop i) [] = ([((growB taps seed i).drop i).headD 0], ((growB taps seed i).drop i).tail ++ [nextB taps ((growB taps seed i).drop i)]) := es
    rw [List.replicate_succ', runP_snoc, fc_runP i, es2, List.range_succ, List.map_append]
    have hg : growB taps seed (i + 1) = growB taps seed i ++ [nextB taps (growB taps seed i)] := by rw [grow_add taps i 1]; rfl
    refine Prod.ext ?_ ?_
    · show _ ++ [[((growB taps seed i).drop i).headD 0]] = _ ++ [[bitF taps seed i]]
      have : ((growB taps seed i).drop i).headD 0 = bitF taps seed i := by
        unfold bitF
        rw [List.headD_eq_head?_getD, List.head?_drop, List.getD_eq_getElem?_getD]
      rw [this]
    · show ((growB taps seed i).drop i).tail ++ [nextB taps ((growB taps seed i).drop i)] = _
      rw [next_drop (by rw [grow_len]; omega), hg, List.tail_drop, List.drop_append_of_le_length (by rw [grow_len]; omega)]
theorem fc_runF (m : Nat) : runF (fcC taps seed) (List.replicate m []) = (mbF taps seed m).map fun b => [b] := by
  unfold runF
  rw [fc_runP ht hs hl h1 h5, mb_map (by omega), List.map_map]
  rfl
end
end K21
end

section
set_option Elab.async false
set_option linter.all false
set_option maxRecDepth 100000
set_option maxHeartbeats 4000000
/-! k21: what feedback_circuit makes. -/
namespace K21
open PySem PySem.Spec PyProof.Rows L2 G
def usE : E := .comp [6] (.nm 6) (.rng (.cons (.var 2) .nil)) (.idx (.var 0) (.var 6)) (.yld (.bin .sub (.bin .sub (.var 2) (.con (.int 1))) (.var 6)))
def fbB : Ss := .cons (.exp (.mut .append 4 (.cons (.tup (.cons (.con (.str "xor")) (.cons (.var 5) (.cons (.var 6) .nil)))) .nil))) (.cons (.asg (.nm 5) (.bin .sub (.bin .add (.var 2) (.prim .len (.cons (.var 4) .nil))) (.con (.int 1)))) .nil)
def fbA : Ss := .cons (.exp (.mut .append 4 (.cons (.tup (.cons (.con (.str "const")) (.cons (.con (.int 0)) .nil))) .nil))) (.cons (.asg (.nm 5) (.var 2)) .nil)
def fbC : Ss := .cons (.asg (.nm 5) (.idx (.var 3) (.con (.int 0)))) (.cons (.for (.nm 6) (.val (.sli true false (.var 3) (.con (.int 1)) (.con .non))) fbB) .nil)
def nxE : E := .prim .tuple (.cons (.bin .add (.rgl true (.cons (.con (.int 1)) (.cons (.var 2) .nil))) (.lst (.cons (.var 5) .nil))) .nil)
def cE : E := .tup (.cons (.con (.int 0)) (.cons (.prim .tuple (.cons (.var 1) .nil)) (.cons (.prim .tuple (.cons (.var 4) .nil)) (.cons (.var 7) (.cons (.tup (.cons (.con (.int 0)) .nil)) .nil)))))
def fbSs : Ss := .cons (.asg (.nm 2) (.prim .len (.cons (.var 0) .nil))) (.cons (.asg (.nm 3) usE) (.cons (.asg (.nm 3) (.prim .sorted (.cons (.var 3) .nil))) (.cons (.asg (.nm 4) (.lst .nil)) (.cons (.ite (.not (.var 3)) fbA fbC) (.cons (.asg (.nm 7) nxE) (.cons (.ret (.call 10 [false] (.cons cE .nil))) .nil))))))
theorem t14 : T[14]? = some ⟨8, 2, fbSs⟩ := by kernel_rfl
def fe (td sd : D) (n : Int) (s3 s4 s5 s6 s7 : Sl) : Ev := [.fz td, .fz sd, .fz (.int n), s3, s4, s5, s6, s7]
theorem fgo_snoc (n : Int) : ∀ (us : List Int) (told u : Int) (gs : List Gt), fgo n told (us ++ [u]) gs = ((fgo n told us gs).1 ++ [.xor (fgo n told us gs).2 u], n + ((fgo n told us gs).1.length : Nat))
  | [], told, u, gs => rfl
  | v :: us, told, u, gs => fgo_snoc n us _ u _
theorem fgo_len (n : Int) : ∀ (us : List Int) (told : Int) (gs : List Gt), (fgo n told us gs).1.length = gs.length + us.length
  | [], told, gs => rfl
  | v :: us, told, gs => by
    rw [fgo, fgo_len n us, List.length_append, List.length_singleton, List.length_cons]
    omega
section
variable {F : Fn} {wf : Nat} {taps seed : List Int} {sd : D}
theorem us_ev (ht : Bits taps) (hz : taps.length ≤ 100) {s3 s4 s5 s7 : Sl} : ev F usE (fe (iT taps) sd (taps.length : Nat) s3 s4 s5 .un s7) = .ok (.own (.lst ((usD taps).map .int))) (fe (iT taps) sd (taps.length : Nat) s3 s4 s5 .un s7) := by
  have e := comp1 (F := F) (v := 6) (it := .rng (.cons (.var 2) .nil)) (c := .idx (.var 0) (.var 6)) (e := .bin .sub (.bin .sub (.var 2) (.con (.int 1))) (.var 6)) (ρ := fe (iT taps) sd (taps.length : Nat) s3 s4 s5 .un s7) (x := .un) (rs := []) (xs := rangeD 0 taps.length) (p := fun d => match d with | .int k => decide (taps.getD k.toNat 0 = 1) | _ => false) (f := fun d => match d with | .int k => .int ((taps.length : Nat) - 1 - k) | _ => .non)
    (evI_var rfl (by omega)) rfl rfl rfl rfl rfl
    (fun d hd => by
      obtain ⟨k, rfl, k0, k1⟩ := rangeD_mem hd
      obtain ⟨j, rfl⟩ := Int.eq_ofNat_of_zero_le k0
      have ei : idx (iT taps) (.int (j : Nat)) = some (.int (taps.getD j 0)) := by
        have := idx_bits (d := iT taps) (.inl rfl) (a := (j : Nat)) (bits := taps) (by omega) (by omega)
        rw [this]
        unfold bv
        rw [Int.toNat_natCast]
      have hbit : taps.getD j 0 = 0 ∨ taps.getD j 0 = 1 := by
        rw [List.getD_eq_getElem?_getD, List.getElem?_eq_getElem (show j < taps.length by omega)]
        exact ht _ (List.getElem_mem _)
      refine ⟨.val (.int (taps.getD j 0)), ?_, ?_⟩
      · show ev F _ [.fz (iT taps), .fz sd, .fz (.int (taps.length : Nat)), s3, s4, s5, .fz (.int (j : Nat)), s7] = .ok _ [.fz (iT taps), .fz sd, .fz (.int (taps.length : Nat)), s3, s4, s5, .fz (.int (j : Nat)), s7]
        generalize taps.getD j 0 = b at ei
        generalize iT taps = td at ei ⊢
        generalize ((j : Nat) : Int) = jj at ei ⊢
        simp [evSs, evS, G.ev, evTs, evBs, evCs, evPs, evI, evQ, Res.bind, Res.sr, SR.seq, ofO, ofS, force, forces, Sl.get, ixN, bop, uop, RV.new, RV.held, D.sh, D.shs, D.ok, D.eqv, D.eqvs, truthOf, D.truth, G.take, setL, getL, ownL, reown, asgT, G.prim, isInts, G.elems, G.items, itemsR, walkB, retR, outOf, iosOf, noOw, fzAt, plainSl_some, pln_un, pln_fz, G.lock, G.unlock, G.back, wipeE, SR.unl, G.guard, argsS, argS, apart, slotOf, putBack, G.chk, outR, mutD, rangeOf, optI, G.slc, at3_0, at3_1, at3_2, at3_3, so_const, so_not, so_and, so_or, so_xor, so_pick, idx_tup, q1, q2, q3, q4, q5, q6, q7, q8, q9, q10, q11, q12, q13, q14, q15, idx_lst, cut1_1, cut1_2, cut1_3, -beq_eq_false_iff_ne, -beq_iff_eq, ei]
      · show truthOf _ (.val (.int (taps.getD j 0))) = .ok (decide (taps.getD j 0 = 1)) _
        rcases hbit with e | e <;> rw [e] <;> rfl)
    (fun d hd _ => by
      obtain ⟨k, rfl, k0, k1⟩ := rangeD_mem hd
      exact ⟨.val (.int ((taps.length : Nat) - 1 - k)), rfl, rfl⟩)
    (by rw [rangeD_len]; omega)
  have hm : ((rangeD 0 taps.length).filter (fun d => match d with | .int k => decide (taps.getD k.toNat 0 = 1) | _ => false)).map (fun d => match d with | .int k => D.int ((taps.length : Nat) - 1 - k) | _ => .non) = (usD taps).map .int := by
    have hr : rangeD 0 taps.length = ((List.range taps.length).map fun k => ((k : Nat) : Int)).map .int := by
      unfold rangeD
      rw [List.map_map]
      exact List.map_congr_left fun k _ => by show D.int (0 + ((k : Nat) : Int)) = D.int ((k : Nat) : Int); rw [Int.zero_add]
    rw [hr, filter_dint (q := fun k => decide (taps.getD k.toNat 0 = 1)) (fun _ => rfl), map_dint (g := fun k => (taps.length : Nat) - 1 - k) (fun _ => rfl)]
    unfold usD
    rw [List.filter_map]
    simp only [List.map_map]
    rfl
  rw [hm] at e
  exact e
theorem fb_for {td : D} {n : Int} {u0 : Int} {us : List Int} (hz : us.length ≤ 100) {s7 : Sl} :
    ∃ y6 : Sl, y6.nio = true ∧ evS F wf (.for (.nm 6) (.val (.sli true false (.var 3) (.con (.int 1)) (.con .non))) fbB) (fe td sd n (.ow (.lst ((u0 :: us).map .int))) (.ow (.lst [])) (.fz (.int u0)) .un s7) = .nx (fe td sd n (.ow (.lst ((u0 :: us).map .int))) (.ow (.lst ((fgo n u0 us []).1.map Gt.d))) (.fz (.int (fgo n u0 us []).2)) y6 s7) := by
  have hi : evI F (.val (.sli true false (.var 3) (.con (.int 1)) (.con .non))) (fe td sd n (.ow (.lst ((u0 :: us).map .int))) (.ow (.lst [])) (.fz (.int u0)) .un s7) = .ok (us.map .int, [.own (.lst (us.map .int))]) (fe td sd n (.ow (.lst ((u0 :: us).map .int))) (.ow (.lst [])) (.fz (.int u0)) .un s7) := by
    have ec : G.cutD (D.int u0 :: us.map .int) (some 1) none = us.map .int := by
      have e1 : HT.sIx (D.int u0 :: us.map .int).length 0 (some (1 : Int)) = 1 := by
        show (if (1 : Int) < 0 then (1 + ((D.int u0 :: us.map .int).length : Int)).toNat else min (1 : Int).toNat (D.int u0 :: us.map .int).length) = 1
        rw [if_neg (by decide), List.length_cons]
        show min 1 _ = 1
        omega
      unfold G.cutD
      rw [e1]
      show (us.map D.int).take ((D.int u0 :: us.map .int).length - 1) = _
      rw [List.length_cons, Nat.add_sub_cancel, List.take_length]
    unfold fe
    rw [List.map_cons]
    generalize D.int u0 :: us.map .int = ud at ec ⊢
    generalize us.map D.int = rd at ec ⊢
    simp [evSs, evS, G.ev, evTs, evBs, evCs, evPs, evI, evQ, Res.bind, Res.sr, SR.seq, ofO, ofS, force, forces, Sl.get, ixN, bop, uop, RV.new, RV.held, D.sh, D.shs, D.ok, D.eqv, D.eqvs, truthOf, D.truth, G.take, setL, getL, ownL, reown, asgT, G.prim, isInts, G.elems, G.items, itemsR, walkB, retR, outOf, iosOf, noOw, fzAt, plainSl_some, pln_un, pln_fz, G.lock, G.unlock, G.back, wipeE, SR.unl, G.guard, argsS, argS, apart, slotOf, putBack, G.chk, outR, mutD, rangeOf, optI, G.slc, at3_0, at3_1, at3_2, at3_3, so_const, so_not, so_and, so_or, so_xor, so_pick, idx_tup, q1, q2, q3, q4, q5, q6, q7, q8, q9, q10, q11, q12, q13, q14, q15, idx_lst, cut1_1, cut1_2, cut1_3, -beq_eq_false_iff_ne, -beq_iff_eq, ec]
  obtain ⟨ρ', ⟨y6, rfl, q6⟩, ef⟩ := for_ind (F := F) (wf := wf) (t := .nm 6) (b := fbB) hi
    (fun i ρ => ∃ y6 : Sl, ρ = fe td sd n (.ow (.lst ((u0 :: us).map .int))) (.ow (.lst ((fgo n u0 (us.take i) []).1.map Gt.d))) (.fz (.int (fgo n u0 (us.take i) []).2)) y6 s7 ∧ y6.nio = true)
    ⟨.un, rfl, rfl⟩
    (fun i d ρ hd ⟨y6, e', p6⟩ => by
      rw [List.getElem?_map] at hd
      obtain ⟨u, hu, rfl⟩ := Option.map_eq_some_iff.mp hd
      subst e'
      have hlen := fgo_len n (us.take i) u0 []
      have hz2 : ((fgo n u0 (us.take i) []).1.map Gt.d).length < sizeLine := by rw [List.length_map, hlen, List.length_take, sizeLine_eq]; simp [evSs, evS, G.ev, evTs, evBs, evCs, evPs, evI, evQ, Res.bind, Res.sr, SR.seq, ofO, ofS, force, forces, Sl.get, ixN, bop, uop, RV.new, RV.held, D.sh, D.shs, D.ok, D.eqv, D.eqvs, truthOf, D.truth, G.take, setL, getL, ownL, reown, asgT, G.prim, isInts, G.elems, G.items, itemsR, walkB, retR, outOf, iosOf, noOw, fzAt, plainSl_some, pln_un, pln_fz, G.lock, G.unlock, G.back, wipeE, SR.unl, G.guard, argsS, argS, apart, slotOf, putBack, G.chk, outR, mutD, rangeOf, optI, G.slc, at3_0, at3_1, at3_2, at3_3, so_const, so_not, so_and, so_or, so_xor, so_pick, idx_tup, q1, q2, q3, q4, q5, q6, q7, q8, q9, q10, q11, q12, q13, q14, q15, idx_lst, cut1_1, cut1_2, cut1_3, -beq_eq_false_iff_ne, -beq_iff_eq]; omega
      refine ⟨fe td sd n (.ow (.lst ((u0 :: us).map .int))) (.ow (.lst ((fgo n u0 (us.take i) []).1.map Gt.d))) (.fz (.int (fgo n u0 (us.take i) []).2)) (.fz (.int u)) s7, _, setS_nio rfl p6, ?_, .fz (.int u), rfl, rfl⟩
      rw [take_snoc hu, fgo_snoc, List.map_append]
      show _ = SR.nx (fe td sd n (.ow (.lst ((u0 :: us).map .int))) (.ow (.lst ((fgo n u0 (us.take i) []).1.map Gt.d ++ [(Gt.xor (fgo n u0 (us.take i) []).2 u).d]))) (.fz (.int (n + ((fgo n u0 (us.take i) []).1.length : Nat)))) (.fz (.int u)) s7)
      have hl2 : ((fgo n u0 (us.take i) []).1.length : Int) = (((fgo n u0 (us.take i) []).1.map Gt.d).length : Nat) := by rw [List.length_map]
      rw [hl2]
      generalize (fgo n u0 (us.take i) []).1.map Gt.d = gd at hz2 ⊢
      generalize (fgo n u0 (us.take i) []).2 = td'
      generalize (u0 :: us).map D.int = ud
      have hn : n + ((gd.length : Int) + 1) - 1 = n + (gd.length : Int) := by omega
      unfold fbB fe
      simp [evSs, evS, G.ev, evTs, evBs, evCs, evPs, evI, evQ, Res.bind, Res.sr, SR.seq, ofO, ofS, force, forces, Sl.get, ixN, bop, uop, RV.new, RV.held, D.sh, D.shs, D.ok, D.eqv, D.eqvs, truthOf, D.truth, G.take, setL, getL, ownL, reown, asgT, G.prim, isInts, G.elems, G.items, itemsR, walkB, retR, outOf, iosOf, noOw, fzAt, plainSl_some, pln_un, pln_fz, G.lock, G.unlock, G.back, wipeE, SR.unl, G.guard, argsS, argS, apart, slotOf, putBack, G.chk, outR, mutD, rangeOf, optI, G.slc, at3_0, at3_1, at3_2, at3_3, so_const, so_not, so_and, so_or, so_xor, so_pick, idx_tup, q1, q2, q3, q4, q5, q6, q7, q8, q9, q10, q11, q12, q13, q14, q15, idx_lst, cut1_1, cut1_2, cut1_3, -beq_eq_false_iff_ne, -beq_iff_eq, hz2, setS, Gt.d, hn])
  rw [List.length_map, List.take_length] at ef
  exact ⟨y6, q6, ef⟩
end
theorem fb_fn {wf k : Nat} {taps seed : List Int} (ht : Bits taps) (hs : Bits seed) (hl : seed.length = taps.length) (h1 : 1 ≤ taps.length) (h5 : taps.length ≤ 5) : callN T wf (k + 6) 14 [.fz (iT taps), .fz (iT seed)] = .rt false (fcC taps seed).d [] := by
  have hlen : prim .len [iT taps] = some (.int (taps.length : Nat)) := by show some (D.int ((taps.map D.int).length : Nat)) = _; rw [List.length_map]
  have s1 : evS (callN T wf (k + 5)) wf (.asg (.nm 2) (.prim .len (.cons (.var 0) .nil))) [.fz (iT taps), .fz (iT seed), .un, .un, .un, .un, .un, .un] = .nx (fe (iT taps) (iT seed) (taps.length : Nat) .un .un .un .un .un) := by
    have gen : ∀ {F : Fn} {td sd : D} {n : Int}, prim .len [td] = some (.int n) → evS F wf (.asg (.nm 2) (.prim .len (.cons (.var 0) .nil))) [.fz td, .fz sd, .un, .un, .un, .un, .un, .un] = .nx (fe td sd n .un .un .un .un .un) := by
      intro F td sd n h
      unfold fe
      simp [evSs, evS, G.ev, evTs, evBs, evCs, evPs, evI, evQ, Res.bind, Res.sr, SR.seq, ofO, ofS, force, forces, Sl.get, ixN, bop, uop, RV.new, RV.held, D.sh, D.shs, D.ok, D.eqv, D.eqvs, truthOf, D.truth, G.take, setL, getL, ownL, reown, asgT, isInts, G.elems, G.items, itemsR, walkB, retR, outOf, iosOf, noOw, fzAt, plainSl_some, pln_un, pln_fz, G.lock, G.unlock, G.back, wipeE, SR.unl, G.guard, argsS, argS, apart, slotOf, putBack, G.chk, outR, mutD, rangeOf, optI, G.slc, at3_0, at3_1, at3_2, at3_3, so_const, so_not, so_and, so_or, so_xor, so_pick, idx_tup, q1, q2, q3, q4, q5, q6, q7, q8, q9, q10, q11, q12, q13, q14, q15, idx_lst, cut1_1, cut1_2, cut1_3, -beq_eq_false_iff_ne, -beq_iff_eq, h, setS]
    exact gen hlen
  have s2 : evS (callN T wf (k + 5)) wf (.asg (.nm 3) usE) (fe (iT taps) (iT seed) (taps.length : Nat) .un .un .un .un .un) = .nx (fe (iT taps) (iT seed) (taps.length : Nat) (.ow (.lst ((usD taps).map .int))) .un .un .un .un) := asg_own (us_ev ht (by omega)) rfl
  have hso := (fc_all taps.length (in5 h1 h5) taps (rowsF_all rfl ht)).1
  have hul : (usD taps).length ≤ 5 := by
    have : (usD taps).length ≤ taps.length := by
      unfold usD
      rw [List.length_map]
      have := List.length_filter_le (fun k => decide (taps.getD k 0 = 1)) (List.range taps.length)
      rwa [List.length_range] at this
    omega
  have s3 : evS (callN T wf (k + 5)) wf (.asg (.nm 3) (.prim .sorted (.cons (.var 3) .nil))) (fe (iT taps) (iT seed) (taps.length : Nat) (.ow (.lst ((usD taps).map .int))) .un .un .un .un) = .nx (fe (iT taps) (iT seed) (taps.length : Nat) (.ow (.lst ((usA taps).map .int))) .un .un .un .un) := by
    have hp : prim .sorted [.lst ((usD taps).map .int)] = some (.lst ((usA taps).map .int)) := by
      show (isInts ((usD taps).map .int)).bind (fun is => if is.length < 64 then some (D.lst ((sortI is).map .int)) else none) = _
      rw [ints_is, Option.bind_some, if_pos (by omega), hso]
    have gen : ∀ {F : Fn} {td sd : D} {n : Int} {ud vd : List D}, prim .sorted [.lst ud] = some (.lst vd) → evS F wf (.asg (.nm 3) (.prim .sorted (.cons (.var 3) .nil))) (fe td sd n (.ow (.lst ud)) .un .un .un .un) = .nx (fe td sd n (.ow (.lst vd)) .un .un .un .un) := by
      intro F td sd n ud vd h
      unfold fe
      simp [evSs, evS, G.ev, evTs, evBs, evCs, evPs, evI, evQ, Res.bind, Res.sr, SR.seq, ofO, ofS, force, forces, Sl.get, ixN, bop, uop, RV.new, RV.held, D.sh, D.shs, D.ok, D.eqv, D.eqvs, truthOf, D.truth, G.take, setL, getL, ownL, reown, asgT, isInts, G.elems, G.items, itemsR, walkB, retR, outOf, iosOf, noOw, fzAt, plainSl_some, pln_un, pln_fz, G.lock, G.unlock, G.back, wipeE, SR.unl, G.guard, argsS, argS, apart, slotOf, putBack, G.chk, outR, mutD, rangeOf, optI, G.slc, at3_0, at3_1, at3_2, at3_3, so_const, so_not, so_and, so_or, so_xor, so_pick, idx_tup, q1, q2, q3, q4, q5, q6, q7, q8, q9, q10, q11, q12, q13, q14, q15, idx_lst, cut1_1, cut1_2, cut1_3, -beq_eq_false_iff_ne, -beq_iff_eq, h, setS]
    exact gen hp
  have s4 : evS (callN T wf (k + 5)) wf (.asg (.nm 4) (.lst .nil)) (fe (iT taps) (iT seed) (taps.length : Nat) (.ow (.lst ((usA taps).map .int))) .un .un .un .un) = .nx (fe (iT taps) (iT seed) (taps.length : Nat) (.ow (.lst ((usA taps).map .int))) (.ow (.lst [])) .un .un .un) := rfl
  have hual : (usA taps).length ≤ 5 := by unfold usA; rw [List.length_reverse]; exact hul
  have s5 : ∃ y6 : Sl, evS (callN T wf (k + 5)) wf (.ite (.not (.var 3)) fbA fbC) (fe (iT taps) (iT seed) (taps.length : Nat) (.ow (.lst ((usA taps).map .int))) (.ow (.lst [])) .un .un .un) = .nx (fe (iT taps) (iT seed) (taps.length : Nat) (.ow (.lst ((usA taps).map .int))) (.ow (.lst ((fg (taps.length : Nat) (usA taps)).1.map Gt.d))) (.fz (.int (fg (taps.length : Nat) (usA taps)).2)) y6 .un) := by
    cases hu : usA taps with
    | nil =>
      refine ⟨.un, ?_⟩
      have gen : ∀ {F : Fn} {td sd : D} {n : Int}, evS F wf (.ite (.not (.var 3)) fbA fbC) (fe td sd n (.ow (.lst [])) (.ow (.lst [])) .un .un .un) = .nx (fe td sd n (.ow (.lst [])) (.ow (.lst [.tup [.str "const", .int 0]])) (.fz (.int n)) .un .un) := by
        intro F td sd n
        have hz : 0 < sizeLine := by rw [sizeLine_eq]; decide
        unfold fe fbA
        simp [evSs, evS, G.ev, evTs, evBs, evCs, evPs, evI, evQ, Res.bind, Res.sr, SR.seq, ofO, ofS, force, forces, Sl.get, ixN, bop, uop, RV.new, RV.held, D.sh, D.shs, D.ok, D.eqv, D.eqvs, truthOf, D.truth, G.take, setL, getL, ownL, reown, asgT, G.prim, isInts, G.elems, G.items, itemsR, walkB, retR, outOf, iosOf, noOw, fzAt, plainSl_some, pln_un, pln_fz, G.lock, G.unlock, G.back, wipeE, SR.unl, G.guard, argsS, argS, apart, slotOf, putBack, G.chk, outR, mutD, rangeOf, optI, G.slc, at3_0, at3_1, at3_2, at3_3, so_const, so_not, so_and, so_or, so_xor, so_pick, idx_tup, q1, q2, q3, q4, q5, q6, q7, q8, q9, q10, q11, q12, q13, q14, q15, idx_lst, cut1_1, cut1_2, cut1_3, -beq_eq_false_iff_ne, -beq_iff_eq, setS, hz]
      exact gen
    | cons u us =>
      rw [hu, List.length_cons] at hual
      obtain ⟨y6, _, ef⟩ := fb_for (F := callN T wf (k + 5)) (wf := wf) (td := iT taps) (sd := iT seed) (n := (taps.length : Nat)) (u0 := u) (us := us) (by omega) (s7 := .un)
      refine ⟨y6, ?_⟩
      have hc : ev (callN T wf (k + 5)) (.not (.var 3)) (fe (iT taps) (iT seed) (taps.length : Nat) (.ow (.lst ((u :: us).map .int))) (.ow (.lst [])) .un .un .un) = .ok (.val (.bl false)) (fe (iT taps) (iT seed) (taps.length : Nat) (.ow (.lst ((u :: us).map .int))) (.ow (.lst [])) .un .un .un) := rfl
      rw [ite_ev hc rfl, if_neg (by decide)]
      have sa : evS (callN T wf (k + 5)) wf (.asg (.nm 5) (.idx (.var 3) (.con (.int 0)))) (fe (iT taps) (iT seed) (taps.length : Nat) (.ow (.lst ((u :: us).map .int))) (.ow (.lst [])) .un .un .un) = .nx (fe (iT taps) (iT seed) (taps.length : Nat) (.ow (.lst ((u :: us).map .int))) (.ow (.lst [])) (.fz (.int u)) .un .un) := by
        have gen : ∀ {F : Fn} {td sd : D} {n : Int} {rd : List D}, evS F wf (.asg (.nm 5) (.idx (.var 3) (.con (.int 0)))) (fe td sd n (.ow (.lst (.int u :: rd))) (.ow (.lst [])) .un .un .un) = .nx (fe td sd n (.ow (.lst (.int u :: rd))) (.ow (.lst [])) (.fz (.int u)) .un .un) := by
          intro F td sd n rd
          unfold fe
          simp [evSs, evS, G.ev, evTs, evBs, evCs, evPs, evI, evQ, Res.bind, Res.sr, SR.seq, ofO, ofS, force, forces, Sl.get, ixN, bop, uop, RV.new, RV.held, D.sh, D.shs, D.ok, D.eqv, D.eqvs, truthOf, D.truth, G.take, setL, getL, ownL, reown, asgT, G.prim, isInts, G.elems, G.items, itemsR, walkB, retR, outOf, iosOf, noOw, fzAt, plainSl_some, pln_un, pln_fz, G.lock, G.unlock, G.back, wipeE, SR.unl, G.guard, argsS, argS, apart, slotOf, putBack, G.chk, outR, mutD, rangeOf, optI, G.slc, at3_0, at3_1, at3_2, at3_3, so_const, so_not, so_and, so_or, so_xor, so_pick, idx_tup, q1, q2, q3, q4, q5, q6, q7, q8, q9, q10, q11, q12, q13, q14, q15, idx_lst, cut1_1, cut1_2, cut1_3, -beq_eq_false_iff_ne, -beq_iff_eq, setS]
        exact gen
      unfold fbC
      rw [ss_step sa]
      exact ss_last ef
  obtain ⟨y6, s5⟩ := s5
  have s6 : evS (callN T wf (k + 5)) wf (.asg (.nm 7) nxE) (fe (iT taps) (iT seed) (taps.length : Nat) (.ow (.lst ((usA taps).map .int))) (.ow (.lst ((fg (taps.length : Nat) (usA taps)).1.map Gt.d))) (.fz (.int (fg (taps.length : Nat) (usA taps)).2)) y6 .un) = .nx (fe (iT taps) (iT seed) (taps.length : Nat) (.ow (.lst ((usA taps).map .int))) (.ow (.lst ((fg (taps.length : Nat) (usA taps)).1.map Gt.d))) (.fz (.int (fg (taps.length : Nat) (usA taps)).2)) y6 (.fz (iT (fcC taps seed).nx))) := by
    have hr : rangeB [D.int 1, D.int ((taps.length : Nat) : Int)] = some (rangeD 1 (taps.length - 1)) := by
      have i1 := inR_small (i := 1) (by omega) (by omega)
      have i2 := inR_small (i := ((taps.length : Nat) : Int)) (by omega) (by omega)
      show (if (inR 1 && inR ((taps.length : Nat) : Int) && decide (((taps.length : Nat) : Int) - 1 ≤ 16777216)) = true then some (rangeD 1 ((((taps.length : Nat) : Int) - 1).toNat)) else none) = _
      rw [i1, i2, decide_eq_true (show ((taps.length : Nat) : Int) - 1 ≤ 16777216 by omega), show (((taps.length : Nat) : Int) - 1).toNat = taps.length - 1 by omega]
      rfl
    have hnx : rangeD 1 (taps.length - 1) ++ [D.int (fg (taps.length : Nat) (usA taps)).2] = (fcC taps seed).nx.map .int := by
      show _ = (((List.range (taps.length - 1)).map fun k => 1 + ((k : Nat) : Int)) ++ [(fg (taps.length : Nat) (usA taps)).2]).map D.int
      rw [List.map_append, List.map_map]
      rfl
    have hz : (rangeD 1 (taps.length - 1)).length + 1 ≤ sizeLine := sizeLine_big (by rw [rangeD_len]; omega)
    have gen : ∀ {F : Fn} {td sd : D} {n told : Int} {a3 a4 a6 : Sl} {rd od : List D}, rangeB [.int 1, .int n] = some rd → rd.length + 1 ≤ sizeLine → rd ++ [.int told] = od → evS F wf (.asg (.nm 7) nxE) (fe td sd n a3 a4 (.fz (.int told)) a6 .un) = .nx (fe td sd n a3 a4 (.fz (.int told)) a6 (.fz (.tup od))) := by
      intro F td sd n told a3 a4 a6 rd od h1 h2 h3
      have g1 : ev F (.rgl true (.cons (.con (.int 1)) (.cons (.var 2) .nil))) (fe td sd n a3 a4 (.fz (.int told)) a6 .un) = .ok (.own (.lst rd)) (fe td sd n a3 a4 (.fz (.int told)) a6 .un) := by
        unfold fe
        simp [evSs, evS, G.ev, evTs, evBs, evCs, evPs, evI, evQ, Res.bind, Res.sr, SR.seq, ofO, ofS, force, forces, Sl.get, ixN, bop, uop, RV.new, RV.held, D.sh, D.shs, D.ok, D.eqv, D.eqvs, truthOf, D.truth, G.take, setL, getL, ownL, reown, asgT, G.prim, isInts, G.elems, G.items, itemsR, walkB, retR, outOf, iosOf, noOw, fzAt, plainSl_some, pln_un, pln_fz, G.lock, G.unlock, G.back, wipeE, SR.unl, G.guard, argsS, argS, apart, slotOf, putBack, G.chk, outR, mutD, rangeOf, optI, G.slc, at3_0, at3_1, at3_2, at3_3, so_const, so_not, so_and, so_or, so_xor, so_pick, idx_tup, q1, q2, q3, q4, q5, q6, q7, q8, q9, q10, q11, q12, q13, q14, q15, idx_lst, cut1_1, cut1_2, cut1_3, -beq_eq_false_iff_ne, -beq_iff_eq, h1]
      unfold nxE
      generalize (E.rgl true (.cons (.con (.int 1)) (.cons (.var 2) .nil))) = re at g1 ⊢
      unfold fe at g1 ⊢
      simp [evSs, evS, G.ev, evTs, evBs, evCs, evPs, evI, evQ, Res.bind, Res.sr, SR.seq, ofO, ofS, force, forces, Sl.get, ixN, bop, uop, RV.new, RV.held, D.sh, D.shs, D.ok, D.eqv, D.eqvs, truthOf, D.truth, G.take, setL, getL, ownL, reown, asgT, G.prim, isInts, G.elems, G.items, itemsR, walkB, retR, outOf, iosOf, noOw, fzAt, plainSl_some, pln_un, pln_fz, G.lock, G.unlock, G.back, wipeE, SR.unl, G.guard, argsS, argS, apart, slotOf, putBack, G.chk, outR, mutD, rangeOf, optI, G.slc, at3_0, at3_1, at3_2, at3_3, so_const, so_not, so_and, so_or, so_xor, so_pick, idx_tup, q1, q2, q3, q4, q5, q6, q7, q8, q9, q10, q11, q12, q13, q14, q15, idx_lst, cut1_1, cut1_2, cut1_3, -beq_eq_false_iff_ne, -beq_iff_eq, g1, h2, h3, setS]
    exact gen hr hz hnx
  have s7 : evS (callN T wf (k + 5)) wf (.ret (.call 10 [false] (.cons cE .nil))) (fe (iT taps) (iT seed) (taps.length : Nat) (.ow (.lst ((usA taps).map .int))) (.ow (.lst ((fg (taps.length : Nat) (usA taps)).1.map Gt.d))) (.fz (.int (fg (taps.length : Nat) (usA taps)).2)) y6 (.fz (iT (fcC taps seed).nx))) = .rt false (fcC taps seed).d (fe (iT taps) (iT seed) (taps.length : Nat) (.ow (.lst ((usA taps).map .int))) (.ow (.lst ((fg (taps.length : Nat) (usA taps)).1.map Gt.d))) (.fz (.int (fg (taps.length : Nat) (usA taps)).2)) y6 (.fz (iT (fcC taps seed).nx))) := by
    have e10 := checked_fn (T := T) (wf := wf) (k := k) ck t10 (fc_ok ht hs hl h1 h5) (fc_fit ht hs hl h1 h5)
    have gen : ∀ {F : Fn} {td nd : D} {sd gd : List D} {n : Int} {a3 a5 a6 : Sl} {cd : D}, D.tup [.int 0, .tup sd, .tup gd, nd, .tup [.int 0]] = cd → F 10 [.fz cd] = .rt false cd [] → evS F wf (.ret (.call 10 [false] (.cons cE .nil))) (fe td (.tup sd) n a3 (.ow (.lst gd)) a5 a6 (.fz nd)) = .rt false cd (fe td (.tup sd) n a3 (.ow (.lst gd)) a5 a6 (.fz nd)) := by
      intro F td nd sd gd n a3 a5 a6 cd h e
      have g1 : ev F cE (fe td (.tup sd) n a3 (.ow (.lst gd)) a5 a6 (.fz nd)) = .ok (.val cd) (fe td (.tup sd) n a3 (.ow (.lst gd)) a5 a6 (.fz nd)) := by
        unfold cE fe
        rw [← h]
        simp [evSs, evS, G.ev, evTs, evBs, evCs, evPs, evI, evQ, Res.bind, Res.sr, SR.seq, ofO, ofS, force, forces, Sl.get, ixN, bop, uop, RV.new, RV.held, D.sh, D.shs, D.ok, D.eqv, D.eqvs, truthOf, D.truth, G.take, setL, getL, ownL, reown, asgT, G.prim, isInts, G.elems, G.items, itemsR, walkB, retR, outOf, iosOf, noOw, fzAt, plainSl_some, pln_un, pln_fz, G.lock, G.unlock, G.back, wipeE, SR.unl, G.guard, argsS, argS, apart, slotOf, putBack, G.chk, outR, mutD, rangeOf, optI, G.slc, at3_0, at3_1, at3_2, at3_3, so_const, so_not, so_and, so_or, so_xor, so_pick, idx_tup, q1, q2, q3, q4, q5, q6, q7, q8, q9, q10, q11, q12, q13, q14, q15, idx_lst, cut1_1, cut1_2, cut1_3, -beq_eq_false_iff_ne, -beq_iff_eq]
      generalize cE = ce at g1 ⊢
      generalize fe td (.tup sd) n a3 (.ow (.lst gd)) a5 a6 (.fz nd) = ρ at g1 ⊢
      simp [evSs, evS, G.ev, evTs, evBs, evCs, evPs, evI, evQ, Res.bind, Res.sr, SR.seq, ofO, ofS, force, forces, Sl.get, ixN, bop, uop, RV.new, RV.held, D.sh, D.shs, D.ok, D.eqv, D.eqvs, truthOf, D.truth, G.take, setL, getL, ownL, reown, asgT, G.prim, isInts, G.elems, G.items, itemsR, walkB, retR, outOf, iosOf, noOw, fzAt, plainSl_some, pln_un, pln_fz, G.lock, G.unlock, G.back, wipeE, SR.unl, G.guard, argsS, argS, apart, slotOf, putBack, G.chk, outR, mutD, rangeOf, optI, G.slc, at3_0, at3_1, at3_2, at3_3, so_const, so_not, so_and, so_or, so_xor, so_pick, idx_tup, q1, q2, q3, q4, q5, q6, q7, q8, q9, q10, q11, q12, q13, q14, q15, idx_lst, cut1_1, cut1_2, cut1_3, -beq_eq_false_iff_ne, -beq_iff_eq, g1, e]
    exact gen rfl e10
  rw [callN_eq t14 rfl rfl]
  exact (congrArg (outOf [.fz (iT taps), .fz (iT seed)]) ((ss_step s1).trans ((ss_step s2).trans ((ss_step s3).trans ((ss_step s4).trans ((ss_step s5).trans ((ss_step s6).trans (ss_ret s7)))))))).trans rfl
end K21
end

section
set_option Elab.async false
set_option linter.all false
set_option maxRecDepth 100000
set_option maxHeartbeats 4000000
/-! k21: the law. -/
namespace K21
open PySem PySem.Spec PyProof.Rows L2 G
def bE (it : G.It) : E := .prim .tuple (.cons (.comp [12] (.nm 12) it (.con (.bl true)) (.yld (tkE 16 1 2))) .nil)
def a1 : S := .asg (.nm 1) (.call 15 [false] (.cons (.var 0) .nil))
def a2 : S := .asg (.nm 2) (.bin .add (.con (.int 1)) (tkE 16 1 5))
def a3 : S := .asg (.tp [3, 4]) (.tup (.cons (bE (.rng (.cons (.var 2) .nil))) (.cons (bE (.rng (.cons (.var 2) .nil))) .nil)))
def a5 : S := .asg (.nm 5) (.call 14 [false, false] (.cons (.var 3) (.cons (.var 4) .nil)))
def us2E : E := .comp [12] (.nm 12) (.rng (.cons (.var 2) .nil)) (.bin .eq (.idx (.var 3) (.var 12)) (.con (.int 1))) (.yld (.bin .sub (.bin .sub (.var 2) (.con (.int 1))) (.var 12)))
def a6 : S := .asg (.nm 6) us2E
def dueE : E := .ite (.bin .ne (.var 6) (.lst .nil)) (.prim .max2 (.cons (.bin .sub (.prim .len (.cons (.var 6) .nil)) (.con (.int 1))) (.cons (.con (.int 0)) .nil))) (.con (.int 1))
def a7 : S := .asg (.nm 7) dueE
def okE : E := .or (.un .notN (.call 4 [false] (.cons (.var 5) .nil))) (.or (.bin .ne (.idx (.var 5) (.con (.int 0))) (.con (.int 0))) (.or (.bin .ne (.idx (.var 5) (.con (.int 1))) (.var 4)) (.or (.bin .ne (.prim .len (.cons (.idx (.var 5) (.con (.int 2))) .nil)) (.var 7)) (.bin .ne (.prim .len (.cons (.idx (.var 5) (.con (.int 4))) .nil)) (.con (.int 1))))))
def rF : Ss := .cons (.ret (.con (.bl false))) .nil
def a8 : S := .ite okE rF .nil
def badE : E := .comp [13] (.nm 13) (.val (.idx (.var 5) (.con (.int 2)))) (.and (.bin .ne (.idx (.var 13) (.con (.int 0))) (.con (.str "xor"))) (.bin .ne (.var 13) (.tup (.cons (.con (.str "const")) (.cons (.con (.int 0)) .nil))))) (.yld (.var 13))
def a9 : S := .ite (.bin .ne badE (.lst .nil)) rF .nil
def a10 : S := .asg (.nm 8) (tkE 16 1 24)
def nilE (e : E) : E := .bin .mul (.tup (.cons (.tup .nil) .nil)) e
def rowsE (e : E) : E := .prim .tuple (.cons (.comp [14] (.nm 14) (.val e) (.con (.bl true)) (.yld (.tup (.cons (.var 14) .nil)))) .nil)
def a11 : S := .ite (.bin .ne (.call 8 [false, false] (.cons (.var 5) (.cons (nilE (.var 8)) .nil))) (rowsE (.call 11 [false, false, false] (.cons (.var 3) (.cons (.var 4) (.cons (.var 8) .nil)))))) rF .nil
def a12 : S := .asg (.nm 9) (bE (.rng (.cons (.bin .add (.con (.int 1)) (tkE 16 1 8)) .nil)))
def a13 : S := .asg (.tp [10, 11]) (.call 12 [false] (.cons (.var 9) .nil))
def a14 : S := .ite (.bin .gt (.prim .len (.cons (.var 10) .nil)) (.con (.int 5))) (.cons (.ret (.con (.bl true))) .nil) .nil
def a15 : S := .ret (.bin .eq (.call 8 [false, false] (.cons (.call 14 [false, false] (.cons (.var 10) (.cons (.var 11) .nil))) (.cons (nilE (.prim .len (.cons (.var 9) .nil))) .nil))) (rowsE (.var 9)))
def lwSs : Ss := .cons a1 (.cons a2 (.cons a3 (.cons a5 (.cons a6 (.cons a7 (.cons a8 (.cons a9 (.cons a10 (.cons a11 (.cons a12 (.cons a13 (.cons a14 (.cons a15 .nil)))))))))))))
theorem t17 : T[17]? = some ⟨15, 1, lwSs⟩ := by kernel_rfl
section
variable {F : Fn} {wf : Nat} {taps seed : List Int}
/-- the law's own row of registers -/
theorem us2_vl {ρ : Ev} (ht : Bits taps) (hz : taps.length ≤ 100) (h2 : ρ[2]? = some (.fz (.int (taps.length : Nat)))) (h3 : ρ[3]? = some (.fz (iT taps))) (h12 : ρ[12]? = some .un) : Vl F ρ us2E true (.lst ((usD taps).map .int)) := by
  have hl12 := (List.getElem?_eq_some_iff.mp h12).1
  have h := Vl.comp (F := F) (ρ := ρ) (v := 12) (c := .bin .eq (.idx (.var 3) (.var 12)) (.con (.int 1))) (e := .bin .sub (.bin .sub (.var 2) (.con (.int 1))) (.var 12)) (xs := rangeD 0 taps.length) (rs := []) (p := fun d => match d with | .int k => decide (taps.getD k.toNat 0 = 1) | _ => false) (f := fun d => match d with | .int k => .int ((taps.length : Nat) - 1 - k) | _ => .non)
    (it_rng (Vl.var h2).rd (by omega)) rfl (fun _ => rfl) h12 rfl
    (fun d hd => by
      obtain ⟨k, rfl, k0, k1⟩ := rangeD_mem hd
      obtain ⟨j, rfl⟩ := Int.eq_ofNat_of_zero_le k0
      have ei : idx (iT taps) (.int (j : Nat)) = some (.int (taps.getD j 0)) := by
        have := idx_bits (d := iT taps) (.inl rfl) (a := (j : Nat)) (bits := taps) (by omega) (by omega)
        rw [this]
        unfold bv
        rw [Int.toNat_natCast]
      have g3 : (ρ.set 12 (.fz (.int (j : Nat))))[3]? = some (.fz (iT taps)) := by rw [List.getElem?_set_ne (by decide)]; exact h3
      have g12 : (ρ.set 12 (.fz (.int (j : Nat))))[12]? = some (.fz (.int (j : Nat))) := List.getElem?_set_self hl12
      exact ⟨_, (Vl.eq (Vl.idx (Vl.var g3).rd (Vl.var g12).rd ei).rd Vl.con.rd rfl rfl (eqvI _ _)).rd, rfl⟩)
    (fun d hd _ => by
      obtain ⟨k, rfl, k0, k1⟩ := rangeD_mem hd
      have g2 : (ρ.set 12 (.fz (.int k)))[2]? = some (.fz (.int (taps.length : Nat))) := by rw [List.getElem?_set_ne (by decide)]; exact h2
      have g12 : (ρ.set 12 (.fz (.int k)))[12]? = some (.fz (.int k)) := List.getElem?_set_self hl12
      exact ⟨_, Vl.bin (Vl.bin (p := .sub) (Vl.var g2).rd Vl.con.rd rfl).rd (Vl.var g12).rd rfl⟩)
    (by rw [rangeD_len]; omega)
  have hm : ((rangeD 0 taps.length).filter (fun d => match d with | .int k => decide (taps.getD k.toNat 0 = 1) | _ => false)).map (fun d => match d with | .int k => D.int ((taps.length : Nat) - 1 - k) | _ => .non) = (usD taps).map .int := by
    have hr : rangeD 0 taps.length = ((List.range taps.length).map fun k => ((k : Nat) : Int)).map .int := by
      unfold rangeD
      rw [List.map_map]
      exact List.map_congr_left fun k _ => by show D.int (0 + ((k : Nat) : Int)) = D.int ((k : Nat) : Int); rw [Int.zero_add]
    rw [hr, filter_dint (q := fun k => decide (taps.getD k.toNat 0 = 1)) (fun _ => rfl), map_dint (g := fun k => (taps.length : Nat) - 1 - k) (fun _ => rfl)]
    unfold usD
    rw [List.filter_map]
    simp only [List.map_map]
    rfl
  rw [hm] at h
  exact h
def dueF (us : List Int) : Int := if us = [] then 1 else ((us.length - 1 : Nat) : Int)
theorem due_vl {ρ : Ev} {us : List Int} (h6 : ρ[6]? = some (.ow (.lst (us.map .int)))) : Vl F ρ dueE false (.int (dueF us)) := by
  have hnil : Rd F ρ (.lst .nil) (.lst []) := (Vl.lst Vls.nil).rd
  have hne : Vl F ρ (.bin .ne (.var 6) (.lst .nil)) false (.bl (!decide (us = []))) := Vl.ne (Rd.var h6) hnil (sh_ints us) rfl (by
    cases us with
    | nil => rfl
    | cons u us => rfl)
  have hlen : prim .len [.lst (us.map .int)] = some (.int (us.length : Nat)) := by show some (D.int ((us.map D.int).length : Nat)) = _; rw [List.length_map]
  by_cases h : us = []
  · rw [dueF, if_pos h]
    rw [decide_eq_true h] at hne
    exact Vl.ite_f hne.rd rfl Vl.con
  · have hp : 0 < us.length := List.length_pos_iff.mpr h
    rw [dueF, if_neg h]
    rw [decide_eq_false h] at hne
    refine Vl.ite_t hne.rd rfl ?_
    have hm := max2_eq (((us.length : Nat) : Int) - 1) 0
    rw [if_neg (by omega), show ((us.length : Nat) : Int) - 1 = ((us.length - 1 : Nat) : Int) by omega] at hm
    have hs : bop .sub (.int (us.length : Nat)) (.int 1) = some (.int ((us.length - 1 : Nat) : Int)) := by
      show some (D.int (((us.length : Nat) : Int) - 1)) = _
      rw [show ((us.length : Nat) : Int) - 1 = ((us.length - 1 : Nat) : Int) by omega]
    exact Vl.prim2 (p := .max2) (Vl.bin (p := .sub) (Vl.prim1 (p := .len) (Rd.var h6) hlen).rd Vl.con.rd hs).rd Vl.con.rd hm
theorem due_eq (ht : Bits taps) (hs : Bits seed) (hl : seed.length = taps.length) (h1 : 1 ≤ taps.length) (h5 : taps.length ≤ 5) : (((fcC taps seed).gs.length : Nat) : Int) = dueF (usD taps) := by
  rw [fc_gl ht hs hl h1 h5, dueF]
  split <;> rfl
theorem ok_vl {ρ : Ev} (ht : Bits taps) (hs : Bits seed) (hl : seed.length = taps.length) (h1 : 1 ≤ taps.length) (h5 : taps.length ≤ 5) (g4 : ρ[4]? = some (.fz (iT seed))) (g5 : ρ[5]? = some (.fz (fcC taps seed).d)) (g7 : ρ[7]? = some (.fz (.int (dueF (usD taps))))) (e4 : F 4 [.fz (fcC taps seed).d] = .rt false .non []) :
    Vl F ρ okE false (.bl false) := by
  have hc := (Vl.var (F := F) g5)
  have c1 : Vl F ρ (.un .notN (.call 4 [false] (.cons (.var 5) .nil))) false (.bl false) := Vl.un (p := .notN) (Vl.call (xs := [(fcC taps seed).d]) (.cons hc .nil) rfl e4).rd rfl
  have c2 : Vl F ρ (.bin .ne (.idx (.var 5) (.con (.int 0))) (.con (.int 0))) false (.bl false) := Vl.ne (Vl.idx hc.rd Vl.con.rd (ci0 (c := fcC taps seed))).rd Vl.con.rd rfl rfl rfl
  have c3 : Vl F ρ (.bin .ne (.idx (.var 5) (.con (.int 1))) (.var 4)) false (.bl false) := Vl.ne (q := true) (Vl.idx hc.rd Vl.con.rd (ci1 (c := fcC taps seed))).rd (Vl.var g4).rd (shT (sh_ints _)) (shT (sh_ints _)) (eqvT (eqv_ints _))
  have hgl : prim .len [.tup ((fcC taps seed).gs.map Gt.d)] = some (.int (dueF (usD taps))) := by
    show some (D.int (((fcC taps seed).gs.map Gt.d).length : Nat)) = _
    rw [List.length_map, due_eq ht hs hl h1 h5]
  have c4 : Vl F ρ (.bin .ne (.prim .len (.cons (.idx (.var 5) (.con (.int 2))) .nil)) (.var 7)) false (.bl false) := Vl.ne (q := true) (Vl.prim1 (p := .len) (Vl.idx hc.rd Vl.con.rd (ci2 (c := fcC taps seed))).rd hgl).rd (Vl.var g7).rd rfl rfl (by rw [eqvI, decide_eq_true rfl])
  have c5 : Vl F ρ (.bin .ne (.prim .len (.cons (.idx (.var 5) (.con (.int 4))) .nil)) (.con (.int 1))) false (.bl false) := Vl.ne (q := true) (Vl.prim1 (p := .len) (Vl.idx hc.rd Vl.con.rd (ci4 (c := fcC taps seed))).rd (len_iT _)).rd Vl.con.rd rfl rfl rfl
  exact Vl.or_f c1.rd rfl (Vl.or_f c2.rd rfl (Vl.or_f c3.rd rfl (Vl.or_f c4.rd rfl c5)))
theorem bad_vl {ρ : Ev} (hz : (fcC taps seed).gs.length ≤ 100) (g5 : ρ[5]? = some (.fz (fcC taps seed).d)) (g13 : ρ[13]? = some .un) : Vl F ρ badE true (.lst []) := by
  have hl13 := (List.getElem?_eq_some_iff.mp g13).1
  obtain ⟨r, i1, i2, i3⟩ := it_vl (F := F) (Vl.idx (Vl.var g5).rd Vl.con.rd (ci2 (c := fcC taps seed))) rfl
  have h := Vl.comp (F := F) (ρ := ρ) (v := 13) (c := .and (.bin .ne (.idx (.var 13) (.con (.int 0))) (.con (.str "xor"))) (.bin .ne (.var 13) (.tup (.cons (.con (.str "const")) (.cons (.con (.int 0)) .nil))))) (e := .var 13) (p := fun _ => false) (f := fun d => d) i1 i2 i3 g13 rfl
    (fun d hd => by
      obtain ⟨g, hg, rfl⟩ := List.mem_map.mp hd
      have v13 : Vl F (ρ.set 13 (.fz g.d)) (.var 13) false g.d := Vl.var (List.getElem?_set_self hl13)
      rcases fg_xor _ _ g hg with ⟨a, b, rfl⟩ | rfl
      · have c : Vl F (ρ.set 13 (.fz (Gt.xor a b).d)) (.bin .ne (.idx (.var 13) (.con (.int 0))) (.con (.str "xor"))) false (.bl false) := Vl.ne (q := true) (Vl.idx (z := .str "xor") v13.rd Vl.con.rd rfl).rd Vl.con.rd (by decide +kernel) (by decide +kernel) (by decide +kernel)
        exact ⟨_, (Vl.and_f c rfl).rd, rfl⟩
      · have c : Vl F (ρ.set 13 (.fz (Gt.const 0).d)) (.bin .ne (.idx (.var 13) (.con (.int 0))) (.con (.str "xor"))) false (.bl true) := Vl.ne (q := false) (Vl.idx (z := .str "const") v13.rd Vl.con.rd rfl).rd Vl.con.rd (by decide +kernel) (by decide +kernel) (by decide +kernel)
        have c2 : Vl F (ρ.set 13 (.fz (Gt.const 0).d)) (.bin .ne (.var 13) (.tup (.cons (.con (.str "const")) (.cons (.con (.int 0)) .nil)))) false (.bl false) := Vl.ne (q := true) v13.rd (Vl.tup (.cons Vl.con (.cons Vl.con .nil))).rd (by decide +kernel) (by decide +kernel) (by decide +kernel)
        exact ⟨_, (Vl.and_t c.rd rfl c2).rd, rfl⟩)
    (fun d hd h => by cases h)
    (by rw [List.length_map]; omega)
  have hf : ∀ xs : List D, (xs.filter fun _ => false).map (fun d => d) = [] := fun xs => by rw [List.map_id', List.filter_eq_nil_iff]; simp [evSs, evS, G.ev, evTs, evBs, evCs, evPs, evI, evQ, Res.bind, Res.sr, SR.seq, ofO, ofS, force, forces, Sl.get, ixN, bop, uop, RV.new, RV.held, D.sh, D.shs, D.ok, D.eqv, D.eqvs, truthOf, D.truth, G.take, setL, getL, ownL, reown, asgT, G.prim, isInts, G.elems, G.items, itemsR, walkB, retR, outOf, iosOf, noOw, fzAt, plainSl_some, pln_un, pln_fz, G.lock, G.unlock, G.back, wipeE, SR.unl, G.guard, argsS, argS, apart, slotOf, putBack, G.chk, outR, mutD, rangeOf, optI, G.slc, at3_0, at3_1, at3_2, at3_3, so_const, so_not, so_and, so_or, so_xor, so_pick, idx_tup, q1, q2, q3, q4, q5, q6, q7, q8, q9, q10, q11, q12, q13, q14, q15, idx_lst, cut1_1, cut1_2, cut1_3, -beq_eq_false_iff_ne, -beq_iff_eq]
  rw [hf] at h
  exact h
/-- rows of one bit -/
theorem rows_vl {ρ : Ev} {e : E} {o : Bool} {bits : List Int} (he : Vl F ρ e o (iT bits)) (g14 : ρ[14]? = some .un) (hz : bits.length ≤ 1000) : Vl F ρ (rowsE e) false (.tup ((bits.map fun b => [b]).map iT)) := by
  have hl14 := (List.getElem?_eq_some_iff.mp g14).1
  obtain ⟨r, i1, i2, i3⟩ := it_vl he (ds := bits.map .int) rfl
  have h := Vl.map (F := F) (ρ := ρ) (v := 14) (e := .tup (.cons (.var 14) .nil)) (f := fun d => .tup [d]) i1 i2 i3 g14 rfl
    (fun d hd => ⟨false, Vl.tup (.cons (Vl.var (List.getElem?_set_self hl14)) .nil)⟩)
    (by rw [List.length_map]; exact hz)
  have hm : (bits.map D.int).map (fun d => D.tup [d]) = (bits.map fun b => [b]).map iT := by
    rw [List.map_map, List.map_map]
    rfl
  rw [hm] at h
  exact Vl.tuple h
theorem nil_vl {ρ : Ev} {e : E} {n : Nat} (he : Rd F ρ e (.int (n : Nat))) (hn : n ≤ 1000) : Vl F ρ (nilE e) false (.tup ((List.replicate n ([] : List Int)).map iT)) := by
  have hm : (List.replicate n ([] : List Int)).map iT = List.replicate n (D.tup []) := by rw [List.map_replicate]; rfl
  rw [hm]
  exact Vl.bin (p := .mul) (Vl.tup (.cons (Vl.tup .nil) .nil)).rd he (mulT hn)
def en (sd d1 : D) (n : Int) (s3 s4 s5 s6 s7 s8 s9 s10 s11 s12 : Sl) : Ev := [.fz sd, .ow d1, .fz (.int n), s3, s4, s5, s6, s7, s8, s9, s10, s11, s12, .un, .un]
end
theorem lw_fn {wf j : Nat} (hwf : 1000 ≤ wf) {ns : List Int} (hn : ns.length ≤ 63) : callN T wf (j + 8) 17 [.fz (.frl (ns.map .int))] = .rt false (.bl true) [] := by
  obtain ⟨r, hr, ed⟩ := draw_fn (T := T) (wf := wf) (k := j + 6) t15 (ns := ns) (by omega)
  generalize D.frl (ns.map .int) = sd at ed ⊢
  have hT : TkF (callN T wf (j + 7)) 16 := fun r m h h0 h1 => take_fn (k := j + 6) t16 h h0 h1
  have f14 : ∀ {taps seed : List Int}, Bits taps → Bits seed → seed.length = taps.length → 1 ≤ taps.length → taps.length ≤ 5 → callN T wf (j + 7) 14 [.fz (iT taps), .fz (iT seed)] = .rt false (fcC taps seed).d [] := fun h1 h2 h3 h4 h5 => fb_fn (k := j + 1) h1 h2 h3 h4 h5
  have f4 : ∀ {taps seed : List Int}, Bits taps → Bits seed → seed.length = taps.length → 1 ≤ taps.length → taps.length ≤ 5 → callN T wf (j + 7) 4 [.fz (fcC taps seed).d] = .rt false .non [] := fun h1 h2 h3 h4 h5 => chk_fn ck (k := j + 2) t4 (fc_ok h1 h2 h3 h4 h5) (fc_fit h1 h2 h3 h4 h5)
  have f8 : ∀ {taps seed : List Int}, Bits taps → Bits seed → seed.length = taps.length → 1 ≤ taps.length → taps.length ≤ 5 → ∀ m : Nat, m ≤ 100 → callN T wf (j + 7) 8 [.fz (fcC taps seed).d, .fz (.tup ((List.replicate m ([] : List Int)).map iT))] = .rt false (.tup (((mbF taps seed m).map fun b => [b]).map iT)) [] := fun {taps seed} h1 h2 h3 h4 h5 m hm => by
    have e := run_fn (T := T) (wf := wf) (k := j + 3) t5 t6 t7 t8 (fc_run h1 h2 h3 h4 h5 (w := m) hm)
    rwa [fc_runF h1 h2 h3 h4 h5] at e
  have f11 : ∀ {taps seed : List Int}, seed.length = taps.length → taps.length ≤ 5 → ∀ m : Nat, m ≤ 100 → callN T wf (j + 7) 11 [.fz (iT taps), .fz (iT seed), .fz (.int m)] = .rt false (iT (mbF taps seed m)) [] := fun h3 h5 m hm => mb_any (k := j + 6) hwf (by omega) (by omega) (by omega)
  have f12 : ∀ {bits : List Int}, Bits bits → 1 ≤ bits.length → bits.length ≤ 8 → ∃ t seed : List Int, FitsB bits t seed ∧ callN T wf (j + 7) 12 [.fz (iT bits)] = .rt false (.tup [iT t, iT seed]) [] := fun h1 h2 h3 => lf_fn (k := j + 5) hwf h1 h2 h3
  have main : ∃ ρ, evSs (callN T wf (j + 7)) wf lwSs (.fz sd :: List.replicate 14 .un) = .rt false (.bl true) (.fz sd :: ρ) := by
    have e15 : callN T wf (j + 7) 15 [.fz sd] = .rt true r.d [] := ed
    generalize callN T wf (j + 7) = F at hT f14 f4 f8 f11 f12 e15
    have s1 : evS F wf a1 (.fz sd :: List.replicate 14 .un) = .nx (.fz sd :: .ow r.d :: List.replicate 13 .un) := st_asg (Vl.call (xs := [sd]) (.cons (Vl.var rfl) .nil) rfl e15) rfl
    obtain ⟨h2, m0, m1⟩ := takeF_ok hr (m := 5) (by omega)
    have s2 : ∃ n : Nat, 1 ≤ n ∧ n ≤ 5 ∧ evS F wf a2 (.fz sd :: .ow r.d :: List.replicate 13 .un) = .nx (en sd (takeF r 5).2.d n .un .un .un .un .un .un .un .un .un .un) := by
      refine ⟨(1 + (takeF r 5).1).toNat, by omega, by omega, ?_⟩
      rw [Int.toNat_of_nonneg (by omega)]
      exact asg_ev (add1_ev (take_ev hT (i := 1) rfl hr (m := 5) (by decide) (by decide))) rfl
    obtain ⟨n, n1, n5, s2⟩ := s2
    generalize (takeF r 5).2 = r2 at h2 s2
    obtain ⟨taps, r3, h3, lt, bt, e3⟩ := bits_ev hT (i := 1) (ρ := en sd r2.d n .un .un .un .un .un .un .un .un .un .un) (r := r2) (v := 12) (n := n) (it_rng (Vl.var (i := 2) rfl).rd (by omega)) rfl h2 rfl rfl (by decide) (by omega)
    obtain ⟨seed, r4, h4, ls, bs, e4⟩ := bits_ev hT (i := 1) (ρ := en sd r3.d n .un .un .un .un .un .un .un .un .un .un) (r := r3) (v := 12) (n := n) (it_rng (Vl.var (i := 2) rfl).rd (by omega)) rfl h3 rfl rfl (by decide) (by omega)
    have s3 : evS F wf a3 (en sd r2.d n .un .un .un .un .un .un .un .un .un .un) = .nx (en sd r4.d n (.fz (iT taps)) (.fz (iT seed)) .un .un .un .un .un .un .un .un) := by
      have gen : ∀ {f1 f2 : E} {ρ ρ1 ρ2 ρ3 : Ev} {d1 d2 : D}, ev F f1 ρ = .ok (.val d1) ρ1 → ev F f2 ρ1 = .ok (.val d2) ρ2 → setAll ρ2 [3, 4] [d1, d2] = some ρ3 → evS F wf (.asg (.tp [3, 4]) (.tup (.cons f1 (.cons f2 .nil)))) ρ = .nx ρ3 := by
        intro f1 f2 ρ ρ1 ρ2 ρ3 d1 d2 h1 h2 h3
        simp [evSs, evS, G.ev, evTs, evBs, evCs, evPs, evI, evQ, Res.bind, Res.sr, SR.seq, ofO, ofS, force, forces, Sl.get, ixN, bop, uop, RV.new, RV.held, D.sh, D.shs, D.ok, D.eqv, D.eqvs, truthOf, D.truth, G.take, setL, getL, ownL, reown, asgT, G.prim, isInts, G.elems, G.items, itemsR, walkB, retR, outOf, iosOf, noOw, fzAt, plainSl_some, pln_un, pln_fz, G.lock, G.unlock, G.back, wipeE, SR.unl, G.guard, argsS, argS, apart, slotOf, putBack, G.chk, outR, mutD, rangeOf, optI, G.slc, at3_0, at3_1, at3_2, at3_3, so_const, so_not, so_and, so_or, so_xor, so_pick, idx_tup, q1, q2, q3, q4, q5, q6, q7, q8, q9, q10, q11, q12, q13, q14, q15, idx_lst, cut1_1, cut1_2, cut1_3, -beq_eq_false_iff_ne, -beq_iff_eq, h1, h2, h3]
      exact gen e3 e4 rfl
    subst lt
    have hl : seed.length = taps.length := ls
    generalize hnn : ((taps.length : Nat) : Int) = nn at s2 s3
    have s5 : evS F wf a5 (en sd r4.d nn (.fz (iT taps)) (.fz (iT seed)) .un .un .un .un .un .un .un .un) = .nx (en sd r4.d nn (.fz (iT taps)) (.fz (iT seed)) (.fz (fcC taps seed).d) .un .un .un .un .un .un .un) :=
      st_asg (Vl.call (xs := [iT taps, iT seed]) (.cons (Vl.var rfl) (.cons (Vl.var rfl) .nil)) rfl (f14 bt bs hl n1 n5)) rfl
    have s6 : evS F wf a6 (en sd r4.d nn (.fz (iT taps)) (.fz (iT seed)) (.fz (fcC taps seed).d) .un .un .un .un .un .un .un) = .nx (en sd r4.d nn (.fz (iT taps)) (.fz (iT seed)) (.fz (fcC taps seed).d) (.ow (.lst ((usD taps).map .int))) .un .un .un .un .un .un) :=
      st_asg (us2_vl bt (by omega) (by rw [hnn]; rfl) rfl rfl) rfl
    have s7 : evS F wf a7 (en sd r4.d nn (.fz (iT taps)) (.fz (iT seed)) (.fz (fcC taps seed).d) (.ow (.lst ((usD taps).map .int))) .un .un .un .un .un .un) = .nx (en sd r4.d nn (.fz (iT taps)) (.fz (iT seed)) (.fz (fcC taps seed).d) (.ow (.lst ((usD taps).map .int))) (.fz (.int (dueF (usD taps)))) .un .un .un .un .un) :=
      st_asg (due_vl rfl) rfl
    have s8 : evS F wf a8 (en sd r4.d nn (.fz (iT taps)) (.fz (iT seed)) (.fz (fcC taps seed).d) (.ow (.lst ((usD taps).map .int))) (.fz (.int (dueF (usD taps)))) .un .un .un .un .un) = .nx (en sd r4.d nn (.fz (iT taps)) (.fz (iT seed)) (.fz (fcC taps seed).d) (.ow (.lst ((usD taps).map .int))) (.fz (.int (dueF (usD taps)))) .un .un .un .un .un) :=
      st_if (ok_vl bt bs hl n1 n5 rfl rfl rfl (f4 bt bs hl n1 n5)).rd rfl
    have s9 : evS F wf a9 (en sd r4.d nn (.fz (iT taps)) (.fz (iT seed)) (.fz (fcC taps seed).d) (.ow (.lst ((usD taps).map .int))) (.fz (.int (dueF (usD taps)))) .un .un .un .un .un) = .nx (en sd r4.d nn (.fz (iT taps)) (.fz (iT seed)) (.fz (fcC taps seed).d) (.ow (.lst ((usD taps).map .int))) (.fz (.int (dueF (usD taps)))) .un .un .un .un .un) :=
      st_if (Vl.ne (q := true) (bad_vl (taps := taps) (seed := seed) (by have := fc_gl5 bt bs hl n1 n5; omega) rfl rfl).rd (Vl.lst .nil).rd rfl rfl rfl).rd rfl
    obtain ⟨h5, k0, k1⟩ := takeF_ok h4 (m := 24) (by omega)
    have s10 : ∃ m : Nat, m ≤ 24 ∧ evS F wf a10 (en sd r4.d nn (.fz (iT taps)) (.fz (iT seed)) (.fz (fcC taps seed).d) (.ow (.lst ((usD taps).map .int))) (.fz (.int (dueF (usD taps)))) .un .un .un .un .un) = .nx (en sd (takeF r4 24).2.d nn (.fz (iT taps)) (.fz (iT seed)) (.fz (fcC taps seed).d) (.ow (.lst ((usD taps).map .int))) (.fz (.int (dueF (usD taps)))) (.fz (.int m)) .un .un .un .un) := by
      refine ⟨(takeF r4 24).1.toNat, by omega, ?_⟩
      rw [Int.toNat_of_nonneg (by omega)]
      exact asg_ev (take_ev hT (i := 1) rfl h4 (m := 24) (by decide) (by decide)) rfl
    obtain ⟨m, hm, s10⟩ := s10
    generalize (takeF r4 24).2 = r5 at h5 s10
    have s11 : evS F wf a11 (en sd r5.d nn (.fz (iT taps)) (.fz (iT seed)) (.fz (fcC taps seed).d) (.ow (.lst ((usD taps).map .int))) (.fz (.int (dueF (usD taps)))) (.fz (.int m)) .un .un .un .un) = .nx (en sd r5.d nn (.fz (iT taps)) (.fz (iT seed)) (.fz (fcC taps seed).d) (.ow (.lst ((usD taps).map .int))) (.fz (.int (dueF (usD taps)))) (.fz (.int m)) .un .un .un .un) := by
      have c1 := Vl.call (F := F) (ρ := en sd r5.d nn (.fz (iT taps)) (.fz (iT seed)) (.fz (fcC taps seed).d) (.ow (.lst ((usD taps).map .int))) (.fz (.int (dueF (usD taps)))) (.fz (.int m)) .un .un .un .un) (xs := [(fcC taps seed).d, .tup ((List.replicate m ([] : List Int)).map iT)]) (.cons (Vl.var (i := 5) rfl) (.cons (nil_vl (Vl.var (i := 8) rfl).rd (by omega)) .nil)) rfl (f8 bt bs hl n1 n5 m (by omega))
      have c2 := rows_vl (F := F) (ρ := en sd r5.d nn (.fz (iT taps)) (.fz (iT seed)) (.fz (fcC taps seed).d) (.ow (.lst ((usD taps).map .int))) (.fz (.int (dueF (usD taps)))) (.fz (.int m)) .un .un .un .un) (bits := mbF taps seed m) (Vl.call (xs := [iT taps, iT seed, .int m]) (.cons (Vl.var (i := 3) rfl) (.cons (Vl.var (i := 4) rfl) (.cons (Vl.var (i := 8) rfl) .nil))) rfl (f11 hl n5 m (by omega))) rfl (by rw [mb_map (by omega), List.length_map, List.length_range]; omega)
      exact st_if (Vl.ne (q := true) c1.rd c2.rd (shT (sh_rows _)) (shT (sh_rows _)) (by rw [eqvTT, decide_eq_true rfl])).rd rfl
    obtain ⟨h6, l0, l1⟩ := takeF_ok h5 (m := 8) (by omega)
    have e6 := add1_ev (take_ev hT (i := 1) (ρ := en sd r5.d nn (.fz (iT taps)) (.fz (iT seed)) (.fz (fcC taps seed).d) (.ow (.lst ((usD taps).map .int))) (.fz (.int (dueF (usD taps)))) (.fz (.int m)) .un .un .un .un) rfl h5 (m := 8) (by decide) (by decide))
    obtain ⟨q, hq, hq1, hq8⟩ : ∃ q : Nat, 1 + (takeF r5 8).1 = (q : Int) ∧ 1 ≤ q ∧ q ≤ 8 := ⟨(1 + (takeF r5 8).1).toNat, by omega, by omega, by omega⟩
    rw [hq] at e6
    generalize (takeF r5 8).2 = r6 at h6 e6
    obtain ⟨bits, r7, h7, lb, bb, e7⟩ := bits_ev hT (i := 1) (ρ := en sd r5.d nn (.fz (iT taps)) (.fz (iT seed)) (.fz (fcC taps seed).d) (.ow (.lst ((usD taps).map .int))) (.fz (.int (dueF (usD taps)))) (.fz (.int m)) .un .un .un .un) (r := r6) (v := 12) (n := q) (evI_one e6 rfl (by omega)) rfl h6 rfl rfl (by decide) (by omega)
    have s12 : evS F wf a12 (en sd r5.d nn (.fz (iT taps)) (.fz (iT seed)) (.fz (fcC taps seed).d) (.ow (.lst ((usD taps).map .int))) (.fz (.int (dueF (usD taps)))) (.fz (.int m)) .un .un .un .un) = .nx (en sd r7.d nn (.fz (iT taps)) (.fz (iT seed)) (.fz (fcC taps seed).d) (.ow (.lst ((usD taps).map .int))) (.fz (.int (dueF (usD taps)))) (.fz (.int m)) (.fz (iT bits)) .un .un .un) := asg_ev e7 rfl
    obtain ⟨t, s, hf, e12⟩ := f12 bb (by omega) (by omega)
    have hsl : s.length = t.length := by rw [hf.sd, sdF_len]
    have hsb : Bits s := by rw [hf.sd]; exact sdF_bits bb _
    have s13 : evS F wf a13 (en sd r7.d nn (.fz (iT taps)) (.fz (iT seed)) (.fz (fcC taps seed).d) (.ow (.lst ((usD taps).map .int))) (.fz (.int (dueF (usD taps)))) (.fz (.int m)) (.fz (iT bits)) .un .un .un) = .nx (en sd r7.d nn (.fz (iT taps)) (.fz (iT seed)) (.fz (fcC taps seed).d) (.ow (.lst ((usD taps).map .int))) (.fz (.int (dueF (usD taps)))) (.fz (.int m)) (.fz (iT bits)) (.fz (iT t)) (.fz (iT s)) .un) :=
      st_tp (Vl.call (xs := [iT bits]) (.cons (Vl.var (i := 9) rfl) .nil) rfl e12).rd rfl rfl
    have pre : ∀ {ss : Ss} {R : SR}, evSs F wf ss (en sd r7.d nn (.fz (iT taps)) (.fz (iT seed)) (.fz (fcC taps seed).d) (.ow (.lst ((usD taps).map .int))) (.fz (.int (dueF (usD taps)))) (.fz (.int m)) (.fz (iT bits)) (.fz (iT t)) (.fz (iT s)) .un) = R → evSs F wf (.cons a1 (.cons a2 (.cons a3 (.cons a5 (.cons a6 (.cons a7 (.cons a8 (.cons a9 (.cons a10 (.cons a11 (.cons a12 (.cons a13 ss)))))))))))) (.fz sd :: List.replicate 14 .un) = R := fun h =>
      (ss_step s1).trans ((ss_step s2).trans ((ss_step s3).trans ((ss_step s5).trans ((ss_step s6).trans ((ss_step s7).trans ((ss_step s8).trans ((ss_step s9).trans ((ss_step s10).trans ((ss_step s11).trans ((ss_step s12).trans ((ss_step s13).trans h)))))))))))
    refine ⟨[.ow r7.d, .fz (.int nn), .fz (iT taps), .fz (iT seed), .fz (fcC taps seed).d, .ow (.lst ((usD taps).map .int)), .fz (.int (dueF (usD taps))), .fz (.int m), .fz (iT bits), .fz (iT t), .fz (iT s), .un, .un, .un], pre ?_⟩
    have hgt : Vl F (en sd r7.d nn (.fz (iT taps)) (.fz (iT seed)) (.fz (fcC taps seed).d) (.ow (.lst ((usD taps).map .int))) (.fz (.int (dueF (usD taps)))) (.fz (.int m)) (.fz (iT bits)) (.fz (iT t)) (.fz (iT s)) .un) (.bin .gt (.prim .len (.cons (.var 10) .nil)) (.con (.int 5))) false (.bl (decide (((t.length : Nat) : Int) > 5))) :=
      Vl.bin (p := .gt) (Vl.prim1 (p := .len) (Vl.var (i := 10) rfl).rd (len_iT t)).rd Vl.con.rd rfl
    by_cases ht5 : t.length ≤ 5
    · rw [decide_eq_false (by omega)] at hgt
      refine (ss_step (st_if hgt.rd rfl)).trans (ss_ret ?_)
      have c0 := Vl.call (F := F) (ρ := en sd r7.d nn (.fz (iT taps)) (.fz (iT seed)) (.fz (fcC taps seed).d) (.ow (.lst ((usD taps).map .int))) (.fz (.int (dueF (usD taps)))) (.fz (.int m)) (.fz (iT bits)) (.fz (iT t)) (.fz (iT s)) .un) (xs := [iT t, iT s]) (.cons (Vl.var (i := 10) rfl) (.cons (Vl.var (i := 11) rfl) .nil)) rfl (f14 hf.tb hsb hsl hf.l1 ht5)
      have c1 := Vl.call (xs := [(fcC t s).d, .tup ((List.replicate bits.length ([] : List Int)).map iT)]) (.cons c0 (.cons (nil_vl (Vl.prim1 (p := .len) (Vl.var (i := 9) rfl).rd (len_iT bits)).rd (by omega)) .nil)) rfl (f8 hf.tb hsb hsl hf.l1 ht5 bits.length (by omega))
      rw [hf.made] at c1
      have c2 := rows_vl (F := F) (ρ := en sd r7.d nn (.fz (iT taps)) (.fz (iT seed)) (.fz (fcC taps seed).d) (.ow (.lst ((usD taps).map .int))) (.fz (.int (dueF (usD taps)))) (.fz (.int m)) (.fz (iT bits)) (.fz (iT t)) (.fz (iT s)) .un) (bits := bits) (Vl.var (i := 9) rfl) rfl (by omega)
      exact st_ret (Vl.eq (q := true) c1.rd c2.rd (shT (sh_rows _)) (shT (sh_rows _)) (by rw [eqvTT, decide_eq_true rfl]))
    · rw [decide_eq_true (by omega)] at hgt
      refine ss_ret ?_
      unfold a14
      rw [st_ite hgt.rd rfl, if_pos rfl]
      exact ss_ret (st_ret Vl.con)
  obtain ⟨ρ, e⟩ := main
  rw [callN_eq t17 rfl rfl]
  exact (congrArg (outOf [.fz sd]) e).trans rfl
theorem plain : Plain := fun ns hn => lw_fn (wf := 100000) (j := 22) (by decide) hn
end K21
end
theorem PySem.Challenge.cw_gatesound_k21_circuits_that_feed_themsel_holds : PySem.Challenge.rw_gatesound_k21_circuits_that_feed_themsel.Holds := by
  exact K21.holds K21.plain
