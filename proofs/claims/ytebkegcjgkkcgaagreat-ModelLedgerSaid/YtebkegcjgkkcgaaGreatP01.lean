/- A part of the proof that ModelLedger returns true for every input: what the last part leans on. No condition. -/
import Derived.ChangeKeysEq
import Derived.Deep.Quiet
import Derived.Laws.StructEq
import Derived.Lib.Overlaps
import Derived.Lib.Strings
import Derived.RegionCalls
import Derived.StillTail
import Derived.Tactics
set_option linter.unusedVariables false
set_option linter.unusedSimpArgs false
set_option linter.unusedSectionVars false
set_option linter.deprecated false
set_option maxHeartbeats 1000000
namespace Go.Bk

abbrev Hp := Nat → Option Obj
def un (h k : Hp) : Hp := fun b => match h b with
 | some o => some o
 | none => k b
def dj (h k : Hp) : Prop := ∀ b, h b = none ∨ k b = none
def upd (h : Hp) (b : Nat) (o : Obj) : Hp := fun c => if c = b then some o else h c
abbrev Asn := Hp → Prop
def pt (b : Nat) (o : Obj) : Asn := fun h => h b = some o
def tt : Asn := fun _ => True
def star : List Asn → Asn
 | [] => fun _ => True
 | A :: Γ => fun h => ∃ h1 h2, h = un h1 h2 ∧ dj h1 h2 ∧ A h1 ∧ star Γ h2

theorem un_none {h k : Hp} {b : Nat} : un h k b = none ↔ h b = none ∧ k b = none := by
 unfold un; cases h b <;> simp
theorem un_left {h k : Hp} {b : Nat} {o : Obj} (e : h b = some o) : un h k b = some o := by simp [un, e]
theorem un_right {h k : Hp} {b : Nat} (e : h b = none) : un h k b = k b := by simp [un, e]
theorem un_some {h k : Hp} {b : Nat} {o : Obj} (e : un h k b = some o) : h b = some o ∨ (h b = none ∧ k b = some o) := by
 cases he : h b with
 | some x => left; rw [un_left he] at e; exact e
 | none => right; rw [un_right he] at e; exact ⟨rfl, e⟩
theorem un_assoc (h k l : Hp) : un (un h k) l = un h (un k l) := by
 funext b; unfold un; cases h b <;> simp
theorem dj_comm {h k : Hp} (d : dj h k) : dj k h := fun b => (d b).symm
theorem un_comm {h k : Hp} (d : dj h k) : un h k = un k h := by
 funext b
 rcases d b with e | e
 ·rw [un_right e]; cases hk : k b with
  | none => rw [un_right hk, e]
  | some o => rw [un_left hk]
 ·rw [un_right (h := k) e]; cases hh : h b with
  | none => rw [un_right hh, e]
  | some o => rw [un_left hh]
theorem dj_un {h k l : Hp} : dj (un h k) l ↔ dj h l ∧ dj k l := by
 constructor
 ·intro d
  exact ⟨fun b => (d b).imp (fun e => (un_none.1 e).1) id, fun b => (d b).imp (fun e => (un_none.1 e).2) id⟩
 ·rintro ⟨d1, d2⟩ b
  rcases d1 b with e1 | e1
  ·rcases d2 b with e2 | e2
   ·exact .inl (un_none.2 ⟨e1, e2⟩)
   ·exact .inr e2
  ·exact .inr e1
theorem dj_un_r {h k l : Hp} : dj l (un h k) ↔ dj l h ∧ dj l k :=
 ⟨fun d => ⟨dj_comm (dj_un.1 (dj_comm d)).1, dj_comm (dj_un.1 (dj_comm d)).2⟩, fun d => dj_comm (dj_un.2 ⟨dj_comm d.1, dj_comm d.2⟩)⟩

theorem star_more : ∀ (Γ : List Asn) {h k : Hp}, dj h k → star Γ h → star Γ (un h k)
 | [], _, _, _, _ => trivial
 | A :: Γ, h, k, d, ⟨h1, h2, e, d12, a, s⟩ => by
  subst e
  have d' := dj_un.1 d
  exact ⟨h1, un h2 k, un_assoc _ _ _, dj_un_r.2 ⟨d12, d'.1⟩, a, star_more Γ d'.2 s⟩
theorem star_weaken {A : Asn} {Γ : List Asn} {h : Hp} (s : star (A :: Γ) h) : star Γ h := by
 obtain ⟨h1, h2, e, d, _, s⟩ := s
 rw [e, un_comm d]
 exact star_more Γ (dj_comm d) s
theorem star_swap {A B : Asn} {Γ : List Asn} {h : Hp} (s : star (A :: B :: Γ) h) : star (B :: A :: Γ) h := by
 obtain ⟨h1, h2, rfl, d, a, h3, h4, rfl, d2, b, s⟩ := s
 have d' := dj_un_r.1 d
 refine ⟨h3, un h1 h4, ?_, dj_un_r.2 ⟨dj_comm d'.1, d2⟩, b, h1, h4, rfl, d'.2, a, s⟩
 rw [← un_assoc, un_comm d'.1, un_assoc]
theorem star_tail {A : Asn} {Γ Γ' : List Asn} {h : Hp} (f : ∀ k, star Γ k → star Γ' k) (s : star (A :: Γ) h) : star (A :: Γ') h := by
 obtain ⟨h1, h2, e, d, a, s⟩ := s
 exact ⟨h1, h2, e, d, a, f _ s⟩
theorem star_head {A B : Asn} {Γ : List Asn} {h : Hp} (f : ∀ k, A k → B k) (s : star (A :: Γ) h) : star (B :: Γ) h := by
 obtain ⟨h1, h2, e, d, a, s⟩ := s
 exact ⟨h1, h2, e, d, f _ a, s⟩
theorem star_app : ∀ (Γ Δ : List Asn) {h : Hp}, star (Γ ++ Δ) h ↔ ∃ h1 h2, h = un h1 h2 ∧ dj h1 h2 ∧ star Γ h1 ∧ star Δ h2
 | [], Δ, h => by
  constructor
  ·intro s; exact ⟨fun _ => none, h, by funext b; simp [un], fun b => .inl rfl, trivial, s⟩
  ·rintro ⟨h1, h2, e, d, _, s⟩; rw [e, un_comm d]; exact star_more Δ (dj_comm d) s
 | A :: Γ, Δ, h => by
  constructor
  ·rintro ⟨h1, h2, e, d, a, s⟩
   obtain ⟨k1, k2, e2, d2, s1, s2⟩ := (star_app Γ Δ).1 s
   subst e2
   have d' := dj_un_r.1 d
   exact ⟨un h1 k1, k2, by rw [e, un_assoc], dj_un.2 ⟨d'.2, d2⟩, ⟨h1, k1, rfl, d'.1, a, s1⟩, s2⟩
  ·rintro ⟨h1, h2, e, d, ⟨k1, k2, e1, d1, a, s1⟩, s2⟩
   subst e1
   have d' := dj_un.1 d
   exact ⟨k1, un k2 h2, by rw [e, un_assoc], dj_un_r.2 ⟨d1, d'.1⟩, a, (star_app Γ Δ).2 ⟨k2, h2, rfl, d'.2, s1, s2⟩⟩

def Agr (w : World) (h : Hp) : Prop := ∀ b o, h b = some o → w.heap[b]? = some o
structure Fr (w0 : World) (h0 : Hp) (w : World) (h : Hp) : Prop where
 os : w.os = w0.os
 tape : w.tape = w0.tape
 output : w.output = w0.output
 drawn : w0.drawn ≤ w.drawn
 size : w0.heap.size ≤ w.heap.size
 old : ∀ b, b < w0.heap.size → h0 b = none → w.heap[b]? = w0.heap[b]?
 own : ∀ b, h b ≠ none → h0 b ≠ none ∨ w0.heap.size ≤ b
def Wd (w0 : World) (h0 : Hp) (Γ : List Asn) (w : World) : Prop := ∃ h, star Γ h ∧ Agr w h ∧ Fr w0 h0 w h

theorem Agr.lt {w : World} {h : Hp} (a : Agr w h) {b : Nat} (hb : h b ≠ none) : b < w.heap.size := by
 cases e : h b with
 | none => exact absurd e hb
 | some o =>
  have := a b o e
  rcases Nat.lt_or_ge b w.heap.size with g | g
  ·exact g
  ·rw [Array.getElem?_eq_none g] at this; cases this
theorem Fr.refl (w : World) (h : Hp) : Fr w h w h := ⟨rfl, rfl, rfl, Nat.le_refl _, Nat.le_refl _, fun _ _ _ => rfl, fun _ hb => .inl hb⟩
theorem Wd.mono {w0 : World} {h0 : Hp} {Γ Δ : List Asn} {w : World} (f : ∀ h, star Γ h → star Δ h) (s : Wd w0 h0 Γ w) : Wd w0 h0 Δ w :=
 let ⟨h, a, b⟩ := s; ⟨h, f h a, b⟩
theorem Wd.drew {w0 : World} {h0 : Hp} {Γ : List Asn} {w : World} (s : Wd w0 h0 Γ w) (n : Nat) (hn : w.drawn ≤ n := by first | omega | exact Nat.le_succ _) : Wd w0 h0 Γ { w with drawn := n } := by
 obtain ⟨h, a, b, c⟩ := s
 exact ⟨h, a, b, ⟨c.os, c.tape, c.output, Nat.le_trans c.drawn hn, c.size, c.old, c.own⟩⟩
theorem Wd.start {Γ : List Asn} {w : World} {h : Hp} (s : star Γ h) (a : Agr w h) : Wd w h Γ w := ⟨h, s, a, Fr.refl _ _⟩

def Tri (P : Program) (f : FuncId) (vs : List Value) (Γ : List Asn) (post : Value → List Asn → Prop) : Prop :=
 ∀ w h, star Γ h → Agr w h → Calls P f vs.toArray w fun e w' => ∃ v Γ', e = .returned v ∧ post v Γ' ∧ Wd w h Γ' w'
def Pur (P : Program) (f : FuncId) (vs : List Value) (v : Value) : Prop := Tri P f vs [] fun v' Γ' => v' = v ∧ Γ' = []

theorem Tri.mono {P : Program} {f : FuncId} {vs : List Value} {Γ : List Asn} {post post' : Value → List Asn → Prop} (h : Tri P f vs Γ post)
  (k : ∀ v Γ', post v Γ' → post' v Γ') : Tri P f vs Γ post' := fun w hp s a =>
 (h w hp s a).mono fun _ _ ⟨v, Γ', e, p, d⟩ => ⟨v, Γ', e, k _ _ p, d⟩

theorem Tri.frame {P : Program} {f : FuncId} {vs : List Value} {Γ Δ : List Asn} {post : Value → List Asn → Prop} (t : Tri P f vs Γ post)
  {w0 : World} {h0 : Hp} {w : World} (s : Wd w0 h0 (Γ ++ Δ) w) :
  Calls P f vs.toArray w fun e w' => ∃ v Γ', e = .returned v ∧ post v Γ' ∧ Wd w0 h0 (Γ' ++ Δ) w' := by
 obtain ⟨h, st, ag, fr⟩ := s
 obtain ⟨h1, h2, e, d, s1, s2⟩ := (star_app Γ Δ).1 st
 subst e
 have ag1 : Agr w h1 := fun b o hb => ag b o (un_left hb)
 have ag2 : Agr w h2 := fun b o hb => ag b o (by
  rcases d b with e | e
  ·rw [un_right e]; exact hb
  ·rw [e] at hb; cases hb)
 refine (t w h1 s1 ag1).mono fun e w' ⟨v, Γ', he, p, h1', st', ag', fr'⟩ => ⟨v, Γ', he, p, ?_⟩
 have d' : dj h1' h2 := fun b => by
  by_cases g : h2 b = none
  ·exact .inr g
  ·left
   by_cases g1 : h1' b = none
   ·exact g1
   ·exfalso
    rcases fr'.own b g1 with g2 | g2
    ·rcases d b with e | e
     ·exact g2 e
     ·exact g e
    ·have := ag2.lt g; omega
 refine ⟨un h1' h2, (star_app _ _).2 ⟨h1', h2, rfl, d', st', s2⟩, ?_, ?_⟩
 ·intro b o hb
  rcases un_some hb with e | ⟨e1, e2⟩
  ·exact ag' b o e
  ·have hlt : b < w.heap.size := ag2.lt (by rw [e2]; simp)
   have h1n : h1 b = none := by
    rcases d b with e | e
    ·exact e
    ·rw [e2] at e; cases e
   rw [fr'.old b hlt h1n]; exact ag2 b o e2
 ·refine ⟨fr'.os.trans fr.os, fr'.tape.trans fr.tape, fr'.output.trans fr.output, Nat.le_trans fr.drawn fr'.drawn, Nat.le_trans fr.size fr'.size, fun b hb h0b => ?_, fun b hb => ?_⟩
  ·have hn : un h1 h2 b = none := by
    by_cases g : un h1 h2 b = none
    ·exact g
    ·rcases fr.own b g with g | g
     ·exact absurd h0b g
     ·omega
   rw [fr'.old b (Nat.lt_of_lt_of_le hb fr.size) (un_none.1 hn).1, fr.old b hb h0b]
  ·by_cases g : h1' b = none
   ·have g2 : h2 b ≠ none := fun e => hb (un_none.2 ⟨g, e⟩)
    exact fr.own b fun e => g2 (un_none.1 e).2
   ·rcases fr'.own b g with g | g
    ·exact fr.own b fun e => g (un_none.1 e).1
    ·right; exact Nat.le_trans fr.size g

theorem Wd.new {w0 : World} {h0 : Hp} {Γ : List Asn} {w : World} (s : Wd w0 h0 Γ w) (o : Obj) :
  Wd w0 h0 (pt w.heap.size o :: Γ) { w with heap := w.heap.push o } := by
 obtain ⟨h, st, ag, fr⟩ := s
 have hn : h w.heap.size = none := by
  by_cases g : h w.heap.size = none
  ·exact g
  ·exact absurd (ag.lt g) (Nat.lt_irrefl _)
 refine ⟨un (fun b => if b = w.heap.size then some o else none) h, ⟨_, h, rfl, fun b => ?_, by simp [pt], st⟩, ?_, ?_⟩
 ·by_cases e : b = w.heap.size
  ·right; rw [e]; exact hn
  ·left; simp [e]
 ·intro b o' hb
  rcases un_some hb with e | ⟨e1, e2⟩
  ·by_cases g : b = w.heap.size
   ·rw [if_pos g] at e; cases e; rw [g]; simp
   ·rw [if_neg g] at e; cases e
  ·have := ag.lt (b := b) (by rw [e2]; simp)
   rw [Array.getElem?_push, if_neg (by omega)]; exact ag b o' e2
 ·refine ⟨fr.os, fr.tape, fr.output, fr.drawn, by have := fr.size; simp; omega, fun b hb h0b => ?_, fun b hb => ?_⟩
  ·have := fr.size
   rw [Array.getElem?_push, if_neg (by omega)]; exact fr.old b hb h0b
  ·by_cases g : b = w.heap.size
   ·right; have := fr.size; omega
   ·exact fr.own b fun e => hb (un_none.2 ⟨by simp [g], e⟩)

def PtAt (Γ : List Asn) (b : Nat) (o : Obj) (K : Obj → List Asn) : Prop :=
 ∀ h, star Γ h → h b = some o ∧ ∀ o', star (K o') (upd h b o')
theorem PtAt.here (b : Nat) (o : Obj) (Γ : List Asn) : PtAt (pt b o :: Γ) b o fun o' => pt b o' :: Γ := by
 rintro h ⟨h1, h2, e, d, a, s⟩
 have a' : h1 b = some o := a
 subst e
 refine ⟨un_left a', fun o' => ⟨upd h1 b o', h2, ?_, ?_, by simp [pt, upd], s⟩⟩
 ·funext c; unfold upd un; by_cases g : c = b
  ·simp [g]
  ·simp [g]
 ·intro c; by_cases g : c = b
  ·right; rcases d c with e | e
   ·rw [g, a'] at e; cases e
   ·exact e
  ·simp only [upd, if_neg g]; exact d c
theorem PtAt.there {b : Nat} {o : Obj} {Γ : List Asn} {K : Obj → List Asn} (A : Asn) (p : PtAt Γ b o K) : PtAt (A :: Γ) b o fun o' => A :: K o' := by
 rintro h ⟨h1, h2, e, d, a, s⟩
 obtain ⟨p1, p2⟩ := p h2 s
 have hn : h1 b = none := by
  rcases d b with e | e
  ·exact e
  ·rw [p1] at e; cases e
 subst e
 refine ⟨by rw [un_right hn]; exact p1, fun o' => ⟨h1, upd h2 b o', ?_, ?_, a, p2 o'⟩⟩
 ·funext c; unfold upd un; by_cases g : c = b
  ·subst g; simp [hn]
  ·simp [g]
 ·intro c; by_cases g : c = b
  ·left; rw [g]; exact hn
  ·simp only [upd, if_neg g]; exact d c

theorem PtAt.get {Γ : List Asn} {b : Nat} {o : Obj} {K : Obj → List Asn} (p : PtAt Γ b o K) {w0 : World} {h0 : Hp} {w : World} (s : Wd w0 h0 Γ w) : w.heap[b]? = some o := by
 obtain ⟨h, st, ag, _⟩ := s
 exact ag b o (p h st).1
theorem PtAt.set {Γ : List Asn} {b : Nat} {o : Obj} {K : Obj → List Asn} (p : PtAt Γ b o K) {w0 : World} {h0 : Hp} {w : World} (s : Wd w0 h0 Γ w) (o' : Obj) :
  Wd w0 h0 (K o') { w with heap := w.heap.setIfInBounds b o' } := by
 obtain ⟨h, st, ag, fr⟩ := s
 obtain ⟨p1, p2⟩ := p h st
 have hlt := ag.lt (b := b) (by rw [p1]; simp)
 refine ⟨upd h b o', p2 o', ?_, ⟨fr.os, fr.tape, fr.output, fr.drawn, by simpa using fr.size, fun c hc h0c => ?_, fun c hc => ?_⟩⟩
 ·intro c x hx
  by_cases g : c = b
  ·simp only [upd, if_pos g] at hx; cases hx; simp [g, hlt]
  ·simp only [upd, if_neg g] at hx
   rw [Array.getElem?_setIfInBounds_ne (by omega)]; exact ag c x hx
 ·have : c ≠ b := fun e => by
   subst e
   rcases fr.own c (by rw [p1]; simp) with g | g
   ·exact g h0c
   ·omega
  rw [Array.getElem?_setIfInBounds_ne (by omega)]; exact fr.old c hc h0c
 ·by_cases g : c = b
  ·subst g; exact fr.own c (by rw [p1]; simp)
  ·simp only [upd, if_neg g] at hc; exact fr.own c hc
end Go.Bk

namespace Go.Bk

abbrev Sl := List (Nat × Value)
def lk : Sl → Nat → Option Value
 | [], _ => none
 | (i, v) :: r, j => match Nat.beq i j with
  | true => some v
  | false => lk r j
structure Fit (n : Nat) (L : Sl) (a : Act) : Prop where
 size : a.tmps.size = n
 defers : a.defers = []
 get : ∀ i v, lk L i = some v → a.tmps[i]? = some v

theorem lk_cons_self (i : Nat) (v : Value) (L : Sl) : lk ((i, v) :: L) i = some v := by simp [lk, Nat.beq_refl]
theorem lk_cons_ne {i j : Nat} (h : i ≠ j) (v : Value) (L : Sl) : lk ((i, v) :: L) j = lk L j := by
 have : Nat.beq i j = false := by
  cases e : Nat.beq i j with
  | false => rfl
  | true => exact absurd (Nat.eq_of_beq_eq_true e) h
 simp [lk, this]
theorem Fit.put {n : Nat} {L : Sl} {a : Act} (f : Fit n L a) (d : Nat) (v : Value) (hd : Nat.blt d n = true) : Fit n ((d, v) :: L) (a.put (some d) v) := by
 have hd' : d < n := by rw [Nat.blt_eq] at hd; exact hd
 refine ⟨by simp [Act.put, f.size], f.defers, fun i u h => ?_⟩
 by_cases e : d = i
 ·subst e
  rw [lk_cons_self] at h; cases h
  simp [Act.put, f.size, hd']
 ·rw [lk_cons_ne e] at h
  simp only [Act.put]
  rw [Array.getElem?_setIfInBounds_ne e]; exact f.get i u h

def ev (L : Sl) : Operand → Option Value
 | .tmp t => lk L t
 | .const v => some v
 | .global g => some (.pointer (some ⟨g, 0, none⟩))
 | .func f => some (.func (.func f) #[] #[])
theorem Fit.ev {n : Nat} {L : Sl} {a : Act} (f : Fit n L a) {x : Operand} {v : Value} (h : ev L x = some v) : a.eval x = v := by
 cases x with
 | tmp t => have := f.get t v h; simp [Act.eval, Array.getD_eq_getD_getElem?, this]
 | const u => cases h; rfl
 | global g => cases h; rfl
 | func g => cases h; rfl
def evs (L : Sl) : List Operand → Option (List Value)
 | [] => some []
 | x :: r => match Bk.ev L x with
  | some v => match evs L r with
   | some vs => some (v :: vs)
   | none => none
  | none => none
theorem Fit.evs {n : Nat} {L : Sl} {a : Act} (f : Fit n L a) : ∀ {xs : List Operand} {vs : List Value}, Bk.evs L xs = some vs → xs.map a.eval = vs
 | [], vs, h => by simp [Bk.evs] at h; simp [h]
 | x :: r, vs, h => by
  simp only [Bk.evs] at h
  split at h
  ·rename_i v hv
   split at h
   ·rename_i us hus; cases h; simp [f.ev hv, f.evs hus]
   ·cases h
  ·cases h
inductive Sub (L : Sl) : Sl → Prop
 | nil : Sub L []
 | cons {i : Nat} {v : Value} {r : Sl} (h : lk L i = some v) (s : Sub L r) : Sub L ((i, v) :: r)
theorem Sub.get {L M : Sl} (s : Sub L M) : ∀ i v, lk M i = some v → lk L i = some v := by
 induction s with
 | nil => intro i v h; simp [lk] at h
 | @cons j u r h s ih =>
  intro i v h'
  by_cases e : j = i
  ·subst e; rw [lk_cons_self] at h'; cases h'; exact h
  ·rw [lk_cons_ne e] at h'; exact ih i v h'
theorem Fit.sub {n : Nat} {L M : Sl} {a : Act} (f : Fit n L a) (s : Sub L M) : Fit n M a := ⟨f.size, f.defers, fun i v h => f.get i v (s.get i v h)⟩

section
variable {P : Program} {w0 : World} {h0 : Hp}

theorem Wd.tt {w0 : World} {h0 : Hp} {Γ : List Asn} : Wd w0 h0 (Bk.tt :: Γ) = Wd w0 h0 Γ := by
 funext w
 refine propext ⟨fun s => s.mono fun h st => star_weaken st, fun s => s.mono fun h st => ⟨fun _ => none, h, ?_, fun b => .inl rfl, trivial, st⟩⟩
 funext b; simp [un]
def wpQD (P : Program) (ops : Array Oper) (C : Asn → World → Prop) (K : Act → Prop) : List Oper → Act → Prop
 | [], a => K a
 | o :: rest, a => if Region.wanted o (yielded ops a.tmps) then ∃ v, (∀ Δ w, C Δ w → o.quietAt P a (C Δ) w v) ∧ wpQD P ops C K rest (a.put o.dst v) else wpQD P ops C K rest (a.put o.dst undef)
theorem wpQD.quiet {P : Program} {ops : Array Oper} {C : Asn → World → Prop} {K : Act → Prop} (Δ : Asn) : ∀ (l : List Oper) (a : Act), wpQD P ops C K l a → wpQuiet P ops (C Δ) K l a
 | [], _, h => h
 | o :: rest, a, h => by
  unfold wpQD at h
  unfold wpQuiet
  split
  ·rename_i hw; rw [if_pos hw] at h
   obtain ⟨v, h1, h2⟩ := h
   exact ⟨v, h1 Δ, wpQD.quiet Δ rest _ h2⟩
  ·rename_i hw; rw [if_neg hw] at h
   exact wpQD.quiet Δ rest _ h
def XL (P : Program) (w0 : World) (h0 : Hp) (q : Bool) (ops : Array Oper) (K : Act → World → Prop) (Q : Exit → Act → World → Prop) (rest : List Oper) (n : Nat) (L : Sl) (Γ : List Asn) : Prop :=
 match q with
 | false => ∀ a w, Fit n L a → Wd w0 h0 Γ w → wpList P ops Q rest a w
 | true => ∀ a, Fit n L a → wpQD P ops (fun Δ => Wd w0 h0 (Δ :: Γ)) (fun a' => ∀ w', Wd w0 h0 Γ w' → K a' w') rest a
theorem XL.quiet {P : Program} {w0 : World} {h0 : Hp} {ops : Array Oper} {K : Act → World → Prop} {Q : Exit → Act → World → Prop} {rest : List Oper} {n : Nat} {L : Sl} {Γ : List Asn} (k : XL P w0 h0 true ops K Q rest n L Γ) {a : Act} (f : Fit n L a) :
  wpQuiet P ops (Wd w0 h0 Γ) (fun a' => ∀ w', Wd w0 h0 Γ w' → K a' w') rest a := by
 have := wpQD.quiet tt rest a (k a f)
 rwa [Wd.tt] at this
def SP (P : Program) (w0 : World) (h0 : Hp) (c : Code) (Q : Exit → Act → World → Prop) (n : Nat) (L : Sl) (Γ : List Asn) : Prop :=
 ∀ a w, Fit n L a → Wd w0 h0 Γ w → c.wp P Q a w
def Jp (w0 : World) (h0 : Hp) (e : Exit) (Q : Exit → Act → World → Prop) (n : Nat) (L : Sl) (Γ : List Asn) : Prop :=
 ∀ a w, Fit n L a → Wd w0 h0 Γ w → Q e a w

variable {q : Bool} {ops : Array Oper} {K : Act → World → Prop} {Q : Exit → Act → World → Prop} {rest : List Oper} {n : Nat} {L : Sl} {Γ Γ' : List Asn} {c c1 c2 : Code}

/-! ### what an operation does -/
def RunV (P : Program) (w0 : World) (h0 : Hp) (n : Nat) (L : Sl) (Γ : List Asn) (o : Oper) (v : Value) : Prop :=
 ∀ a w, Fit n L a → Wd w0 h0 Γ w → (execOp a.eval o).run P w = .ok (.value v) w
def RunW (P : Program) (w0 : World) (h0 : Hp) (n : Nat) (L : Sl) (Γ : List Asn) (o : Oper) (R : Value → List Asn → Prop) : Prop :=
 ∀ a w, Fit n L a → Wd w0 h0 Γ w → ∃ v w' Γ', (execOp a.eval o).run P w = .ok (.value v) w' ∧ R v Γ' ∧ Wd w0 h0 Γ' w'
def RunU (P : Program) (w0 : World) (h0 : Hp) (n : Nat) (L : Sl) (Γ : List Asn) (o : Oper) (Γ' : List Asn) : Prop :=
 ∀ a w, Fit n L a → Wd w0 h0 Γ w → ∃ w', (execOp a.eval o).run P w = .ok .skip w' ∧ Wd w0 h0 Γ' w'
def RunC (P : Program) (w0 : World) (h0 : Hp) (n : Nat) (L : Sl) (Γ : List Asn) (o : Oper) (f : FuncId) (vs : List Value) : Prop :=
 ∀ a w, Fit n L a → Wd w0 h0 Γ w → (execOp a.eval o).run P w = .ok (.enter f vs.toArray) w

theorem wanted_none {o : Oper} (hg : o.guard = none) (y : Nat → Option Bool) : Region.wanted o y = true := by simp [Region.wanted, hg]

theorem XL.value {d : Nat} {op : Op} {ty : TypeId} {pos : String} {af : Array Edge} {v : Value} (hr : RunV P w0 h0 n L Γ ⟨some d, op, ty, pos, af, none⟩ v) (hd : Nat.blt d n = true)
  (k : XL P w0 h0 q ops K Q rest n ((d, v) :: L) Γ) : XL P w0 h0 q ops K Q (⟨some d, op, ty, pos, af, none⟩ :: rest) n L Γ := by
 cases q with
 | false =>
  intro a w f s
  unfold wpList
  rw [if_pos (wanted_none rfl _)]
  left
  unfold Oper.wp
  rw [hr a w f s]
  exact k _ _ (f.put d v hd) s
 | true =>
  intro a f
  unfold wpQD
  rw [if_pos (wanted_none rfl _)]
  refine ⟨v, fun Δ w s => ?_, k _ (f.put d v hd)⟩
  unfold Oper.quietAt
  rw [hr a w f (s.mono fun h st => star_weaken st)]
  exact ⟨rfl, rfl⟩
theorem XL.valueW {d : Nat} {op : Op} {ty : TypeId} {pos : String} {af : Array Edge} {R : Value → List Asn → Prop} (hr : RunW P w0 h0 n L Γ ⟨some d, op, ty, pos, af, none⟩ R) (hd : Nat.blt d n = true)
  (k : ∀ v Γ', R v Γ' → XL P w0 h0 false ops K Q rest n ((d, v) :: L) Γ') : XL P w0 h0 false ops K Q (⟨some d, op, ty, pos, af, none⟩ :: rest) n L Γ := by
 intro a w f s
 unfold wpList
 rw [if_pos (wanted_none rfl _)]
 left
 unfold Oper.wp
 obtain ⟨v, w', Γ', hv, hR, s'⟩ := hr a w f s
 rw [hv]
 exact k v Γ' hR _ _ (f.put d v hd) s'
theorem XL.nothing {op : Op} {ty : TypeId} {pos : String} {af : Array Edge} (hr : RunU P w0 h0 n L Γ ⟨none, op, ty, pos, af, none⟩ Γ')
  (k : XL P w0 h0 false ops K Q rest n L Γ') : XL P w0 h0 false ops K Q (⟨none, op, ty, pos, af, none⟩ :: rest) n L Γ := by
 intro a w f s
 unfold wpList
 rw [if_pos (wanted_none rfl _)]
 left
 unfold Oper.wp
 obtain ⟨w', hv, s'⟩ := hr a w f s
 rw [hv]
 exact k _ _ f s'
theorem XL.callP {d : Nat} {op : Op} {ty : TypeId} {pos : String} {af : Array Edge} {f : FuncId} {vs : List Value} {v : Value} (hr : RunC P w0 h0 n L Γ ⟨some d, op, ty, pos, af, none⟩ f vs)
  (hp : Pur P f vs v) (hd : Nat.blt d n = true) (k : XL P w0 h0 q ops K Q rest n ((d, v) :: L) Γ) : XL P w0 h0 q ops K Q (⟨some d, op, ty, pos, af, none⟩ :: rest) n L Γ := by
 have hc : ∀ Γ w, Wd w0 h0 Γ w → Calls P f vs.toArray w fun e w' => e = .returned v ∧ Wd w0 h0 Γ w' := fun Γ w s =>
  (Tri.frame (Γ := []) hp s).mono fun e w' ⟨v', Γ', he, ⟨hv, hΓ⟩, s'⟩ => by subst hv; subst hΓ; exact ⟨he, s'⟩
 cases q with
 | false =>
  intro a w fi s
  unfold wpList
  rw [if_pos (wanted_none rfl _)]
  left
  unfold Oper.wp
  rw [hr a w fi s]
  exact (hc _ w s).mono fun e w' ⟨he, s'⟩ => by subst he; exact k _ _ (fi.put d v hd) s'
 | true =>
  intro a fi
  unfold wpQD
  rw [if_pos (wanted_none rfl _)]
  refine ⟨v, fun Δ w s => ?_, k _ (fi.put d v hd)⟩
  unfold Oper.quietAt
  rw [hr a w fi (s.mono fun h st => star_weaken st)]
  exact ⟨rfl, hc _ w s⟩
theorem XL.callR {d : Nat} {op : Op} {ty : TypeId} {pos : String} {af : Array Edge} {f : FuncId} {vs : List Value} {v : Value} {Γ1 Γ2 : List Asn} (hr : RunC P w0 h0 n L Γ ⟨some d, op, ty, pos, af, none⟩ f vs)
  (hp : Tri P f vs Γ1 fun v' Γ' => v' = v ∧ Γ' = Γ1) (hs : ∀ h, star Γ h → star (Γ1 ++ Γ2) h) (hs' : ∀ h, star (Γ1 ++ Γ2) h → star Γ h)
  (hd : Nat.blt d n = true) (k : XL P w0 h0 q ops K Q rest n ((d, v) :: L) Γ) : XL P w0 h0 q ops K Q (⟨some d, op, ty, pos, af, none⟩ :: rest) n L Γ := by
 have hc' : ∀ Δ w, Wd w0 h0 (Δ :: Γ) w → Calls P f vs.toArray w fun e w' => e = .returned v ∧ Wd w0 h0 (Δ :: Γ) w' := fun Δ w s =>
  (Tri.frame (Δ := Γ2 ++ [Δ]) hp (s.mono fun h st => by
   have h1 : star ((Γ1 ++ Γ2) ++ [Δ]) h := by
    have h2 := star_tail hs st
    obtain ⟨a, b, e, d, ha, hb⟩ := h2
    exact (star_app _ _).2 ⟨b, a, by rw [e, un_comm d], dj_comm d, hb, ⟨a, fun _ => none, by funext c; unfold un; cases a c <;> rfl, fun c => .inr rfl, ha, trivial⟩⟩
   rwa [List.append_assoc] at h1)).mono fun e w' ⟨v', Γ', he, ⟨hv, hΓ⟩, s'⟩ => by
    subst hv; subst hΓ
    refine ⟨he, s'.mono fun h st => ?_⟩
    rw [← List.append_assoc] at st
    obtain ⟨b, a, e, d, hb, ha⟩ := (star_app _ _).1 st
    obtain ⟨a1, a2, e2, d2, ha1, _⟩ := ha
    subst e2
    have d' := dj_un_r.1 d
    refine ⟨a1, un b a2, ?_, dj_un_r.2 ⟨dj_comm d'.1, d2⟩, ha1, hs' _ (star_more _ d'.2 hb)⟩
    rw [e, ← un_assoc, un_comm d'.1, un_assoc]
 have hc : ∀ w, Wd w0 h0 Γ w → Calls P f vs.toArray w fun e w' => e = .returned v ∧ Wd w0 h0 Γ w' := fun w s => by
  have := hc' tt w (by rw [Wd.tt]; exact s)
  rwa [Wd.tt] at this
 cases q with
 | false =>
  intro a w fi s
  unfold wpList
  rw [if_pos (wanted_none rfl _)]
  left
  unfold Oper.wp
  rw [hr a w fi s]
  exact (hc w s).mono fun e w' ⟨he, s'⟩ => by subst he; exact k _ _ (fi.put d v hd) s'
 | true =>
  intro a fi
  unfold wpQD
  rw [if_pos (wanted_none rfl _)]
  refine ⟨v, fun Δ w s => ?_, k _ (fi.put d v hd)⟩
  unfold Oper.quietAt
  rw [hr a w fi (s.mono fun h st => star_weaken st)]
  exact ⟨rfl, hc' Δ w s⟩
theorem XL.callW {d : Nat} {op : Op} {ty : TypeId} {pos : String} {af : Array Edge} {f : FuncId} {vs : List Value} {Γ1 Γ2 : List Asn} {post : Value → List Asn → Prop}
  (hr : RunC P w0 h0 n L Γ ⟨some d, op, ty, pos, af, none⟩ f vs) (hp : Tri P f vs Γ1 post) (hs : ∀ h, star Γ h → star (Γ1 ++ Γ2) h) (hd : Nat.blt d n = true)
  (k : ∀ v Γ', post v Γ' → XL P w0 h0 false ops K Q rest n ((d, v) :: L) (Γ' ++ Γ2)) : XL P w0 h0 false ops K Q (⟨some d, op, ty, pos, af, none⟩ :: rest) n L Γ := by
 intro a w fi s
 unfold wpList
 rw [if_pos (wanted_none rfl _)]
 left
 unfold Oper.wp
 rw [hr a w fi s]
 exact (Tri.frame hp (s.mono hs)).mono fun e w' ⟨v, Γ', he, p, s'⟩ => by subst he; exact k v Γ' p _ _ (fi.put d v hd) s'
/-! ### guards -/
def yl (ops : Array Oper) (L : Sl) (j : Nat) : Option Bool :=
 match ops[j]? with
 | some o => match o.dst with
  | some d => match lk L d with
   | some (.bool b) => some b
   | _ => none
  | none => none
 | none => none
theorem Fit.yl {a : Act} (f : Fit n L a) {j : Nat} {b : Bool} (h : Bk.yl ops L j = some b) : yielded ops a.tmps j = some b := by
 unfold Bk.yl at h
 unfold yielded
 split at h
 ·rename_i o ho
  split at h
  ·rename_i d hd
   split at h
   ·rename_i b' hb; cases h; simp [ho, hd, f.get d _ hb]
   ·cases h
  ·cases h
 ·cases h
theorem XL.go {dst : Option Tmp} {op : Op} {ty : TypeId} {pos : String} {af : Array Edge} {j : Nat} {b : Bool} (hy : yl ops L j = some b)
  (k : XL P w0 h0 q ops K Q (⟨dst, op, ty, pos, af, none⟩ :: rest) n L Γ) : XL P w0 h0 q ops K Q (⟨dst, op, ty, pos, af, some (j, b)⟩ :: rest) n L Γ := by
 cases q with
 | false =>
  intro a w f s
  have := k a w f s
  unfold wpList at this ⊢
  rw [if_pos (wanted_none rfl _)] at this
  rw [if_pos (by simp [Region.wanted, f.yl hy])]
  exact this
 | true =>
  intro a f
  have := k a f
  unfold wpQD at this ⊢
  rw [if_pos (wanted_none rfl _)] at this
  rw [if_pos (by simp [Region.wanted, f.yl hy])]
  exact this
theorem XL.skip {d : Nat} {op : Op} {ty : TypeId} {pos : String} {af : Array Edge} {j : Nat} {b b' : Bool} (hy : yl ops L j = some b') (hne : (b' == b) = false) (hd : Nat.blt d n = true)
  (k : XL P w0 h0 q ops K Q rest n ((d, undef) :: L) Γ) : XL P w0 h0 q ops K Q (⟨some d, op, ty, pos, af, some (j, b)⟩ :: rest) n L Γ := by
 have hne' : b' ≠ b := by intro e; subst e; simp at hne
 cases q with
 | false =>
  intro a w f s
  unfold wpList
  rw [if_neg (by simp [Region.wanted, f.yl hy, hne'])]
  exact k _ _ (f.put d undef hd) s
 | true =>
  intro a f
  unfold wpQD
  rw [if_neg (by simp [Region.wanted, f.yl hy, hne'])]
  exact k _ (f.put d undef hd)
/-! ### regions -/
theorem XL.nil (k : Jp w0 h0 .normal Q n L Γ) : XL P w0 h0 false ops K Q [] n L Γ := fun a w f s => k a w f s
theorem SP.region {id : Nat} {l : List Oper} (k : XL P w0 h0 false l.toArray (Q .normal) Q l n L Γ) : SP P w0 h0 (.region id l.toArray false) Q n L Γ :=
 fun a w f s => wp_region_lit (k a w f s)
end
end Go.Bk

namespace Go.Bk
section
variable {P : Program} {w0 : World} {h0 : Hp} {ops : Array Oper} {Q : Exit → Act → World → Prop} {rest : List Oper} {n : Nat} {L : Sl} {Γ Γ' : List Asn} {c c1 c2 : Code}

/-! ### jumps -/
theorem Jp.then_normal {Q' : Exit → Act → World → Prop} (k : SP P w0 h0 c Q' n L Γ) : Jp w0 h0 .normal (Exit.then (c.wp P Q') Q) n L Γ := fun a w f s => k a w f s
theorem Jp.then_exit {N : Act → World → Prop} {i : Nat} (k : Jp w0 h0 (.exit i) Q n L Γ) : Jp w0 h0 (.exit i) (Exit.then N Q) n L Γ := fun a w f s => k a w f s
theorem Jp.then_ret {N : Act → World → Prop} (k : Jp w0 h0 .ret Q n L Γ) : Jp w0 h0 .ret (Exit.then N Q) n L Γ := fun a w f s => k a w f s
theorem Jp.block_normal {i : Nat} (k : Jp w0 h0 .normal Q n L Γ) : Jp w0 h0 .normal (Exit.inBlock i Q) n L Γ := fun a w f s => k a w f s
theorem Jp.block_ret {i : Nat} (k : Jp w0 h0 .ret Q n L Γ) : Jp w0 h0 .ret (Exit.inBlock i Q) n L Γ := fun a w f s => k a w f s
theorem Jp.block_here {i : Nat} (k : Jp w0 h0 .normal Q n L Γ) : Jp w0 h0 (.exit i) (Exit.inBlock i Q) n L Γ := fun a w f s => by
 simp only [Exit.inBlock, if_true]; exact k a w f s
theorem Jp.block_there {i j : Nat} (hne : Nat.beq i j = false) (k : Jp w0 h0 (.exit i) Q n L Γ) : Jp w0 h0 (.exit i) (Exit.inBlock j Q) n L Γ := fun a w f s => by
 have : i ≠ j := fun e => by subst e; rw [Nat.beq_refl] at hne; cases hne
 simp only [Exit.inBlock, if_neg this]; exact k a w f s

/-! ### code -/
theorem SP.seq (k : SP P w0 h0 c1 (Exit.then (c2.wp P Q) Q) n L Γ) : SP P w0 h0 (.seq c1 c2) Q n L Γ := fun a w f s => wp_seq (k a w f s)
theorem SP.skip (k : Jp w0 h0 .normal Q n L Γ) : SP P w0 h0 .skip Q n L Γ := fun a w f s => wp_skip (k a w f s)
theorem SP.ret (k : Jp w0 h0 .ret Q n L Γ) : SP P w0 h0 .ret Q n L Γ := fun a w f s => wp_ret (k a w f s)
theorem SP.exit {i : Nat} (k : Jp w0 h0 (.exit i) Q n L Γ) : SP P w0 h0 (.exit i) Q n L Γ := fun a w f s => wp_exit (k a w f s)
theorem SP.block {i : Nat} (k : SP P w0 h0 c (Exit.inBlock i Q) n L Γ) : SP P w0 h0 (.block i c) Q n L Γ := fun a w f s => wp_block (k a w f s)
theorem SP.cond_t {x : Operand} (h : ev L x = some (.bool true)) (k : SP P w0 h0 c1 Q n L Γ) : SP P w0 h0 (.cond x c1 c2) Q n L Γ :=
 fun a w f s => wp_cond_true (f.ev h) (k a w f s)
theorem SP.cond_f {x : Operand} (h : ev L x = some (.bool false)) (k : SP P w0 h0 c2 Q n L Γ) : SP P w0 h0 (.cond x c1 c2) Q n L Γ :=
 fun a w f s => wp_cond_false (f.ev h) (k a w f s)
theorem SP.weaken {M : Sl} (hs : Sub L M) (hΓ : ∀ h, star Γ h → star Γ' h) (k : SP P w0 h0 c Q n M Γ') : SP P w0 h0 c Q n L Γ :=
 fun a w f s => k a w (f.sub hs) (s.mono hΓ)
theorem XL.weaken {K : Act → World → Prop} (hΓ : ∀ h, star Γ h → star Γ' h) (k : XL P w0 h0 false ops K Q rest n L Γ') : XL P w0 h0 false ops K Q rest n L Γ :=
 fun a w f s => k a w f (s.mono hΓ)
theorem Jp.weaken {M : Sl} {e : Exit} (hs : Sub L M) (hΓ : ∀ h, star Γ h → star Γ' h) (k : Jp w0 h0 e Q n M Γ') : Jp w0 h0 e Q n L Γ :=
 fun a w f s => k a w (f.sub hs) (s.mono hΓ)
theorem SP.pure {p : Prop} (hp : ∀ w, Wd w0 h0 Γ w → p) (k : p → SP P w0 h0 c Q n L Γ) : SP P w0 h0 c Q n L Γ := fun a w f s => k (hp w s) a w f s
theorem SP.cut {X : Type} (M : X → Sl) (Δ : X → List Asn) (I : X → Prop)
  (k1 : SP P w0 h0 c1 (Exit.then (fun a w => ∃ x, I x ∧ Fit n (M x) a ∧ Wd w0 h0 (Δ x) w) Q) n L Γ)
  (k2 : ∀ x, I x → SP P w0 h0 c2 Q n (M x) (Δ x)) : SP P w0 h0 (.seq c1 c2) Q n L Γ := fun a w f s =>
 wp_seq (wp_mono (k1 a w f s) fun e a w h => by
  cases e with
  | normal => obtain ⟨x, hI, f', s'⟩ := h; exact k2 x hI a w f' s'
  | _ => exact h)
theorem Jp.meet {X : Type} {M : X → Sl} {Δ : X → List Asn} {I : X → Prop} (x : X) (hI : I x) (hs : Sub L (M x)) (hΓ : ∀ h, star Γ h → star (Δ x) h) :
  Jp w0 h0 .normal (Exit.then (fun a w => ∃ x, I x ∧ Fit n (M x) a ∧ Wd w0 h0 (Δ x) w) Q) n L Γ :=
 fun a w f s => ⟨x, hI, f.sub hs, s.mono hΓ⟩

/-! ### loops -/
theorem SP.loop {X : Type} (M : X → Sl) (Δ : X → List Asn) (I : X → Prop) (μ : X → Nat) (x0 : X) (hI : I x0) (hs : Sub L (M x0)) (hΓ : ∀ h, star Γ h → star (Δ x0) h)
  (round : ∀ x, I x → SP P w0 h0 c (Exit.then (fun a w => ∃ y, (I y ∧ μ y < μ x) ∧ Fit n (M y) a ∧ Wd w0 h0 (Δ y) w) Q) n (M x) (Δ x)) :
  SP P w0 h0 (.loop c) Q n L Γ := by
 intro a w f s
 let R : Act → World → Nat → Prop := fun a w k => ∃ x, I x ∧ μ x = k ∧ Fit n (M x) a ∧ Wd w0 h0 (Δ x) w
 have least : ∀ a w, (∃ k, R a w k) → ∃ k, R a w k ∧ ∀ j, R a w j → k ≤ j := by
  intro a w ⟨k, hk⟩
  induction k using Nat.strongRecOn with
  | _ k ih =>
   by_cases g : ∃ j, j < k ∧ R a w j
   ·obtain ⟨j, hj, hr⟩ := g; exact ih j hj hr
   ·exact ⟨k, hk, fun j hj => Nat.le_of_not_lt fun hlt => g ⟨j, hlt, hj⟩⟩
 open Classical in
 refine wp_loop (fun a w => ∃ k, R a w k) (fun a w => if h : ∃ k, R a w k then (least a w h).choose else 0) ⟨μ x0, x0, hI, rfl, f.sub hs, s.mono hΓ⟩ fun a w h => ?_
 obtain ⟨hr, hmin⟩ := (least a w h).choose_spec
 rw [dif_pos h]
 generalize (least a w h).choose = k at hr hmin
 obtain ⟨x, hIx, hμ, fx, sx⟩ := hr
 refine wp_mono (round x hIx a w fx sx) fun e a' w' hq => ?_
 cases e with
 | normal =>
  obtain ⟨y, ⟨hIy, hlt⟩, fy, sy⟩ := hq
  have h' : ∃ k, R a' w' k := ⟨μ y, y, hIy, rfl, fy, sy⟩
  refine ⟨h', ?_⟩
  rw [dif_pos h']
  have := (least a' w' h').choose_spec.2 (μ y) ⟨y, hIy, rfl, fy, sy⟩
  omega
 | _ => exact hq
theorem Jp.round {X : Type} {M : X → Sl} {Δ : X → List Asn} {I : X → Prop} {μ : X → Nat} {m : Nat} (y : X) (hI : I y) (hμ : μ y < m) (hs : Sub L (M y)) (hΓ : ∀ h, star Γ h → star (Δ y) h) :
  Jp w0 h0 .normal (Exit.then (fun a w => ∃ y, (I y ∧ μ y < m) ∧ Fit n (M y) a ∧ Wd w0 h0 (Δ y) w) Q) n L Γ :=
 fun a w f s => ⟨y, ⟨hI, hμ⟩, f.sub hs, s.mono hΓ⟩

/-! ### ends -/
def Post (w0 : World) (h0 : Hp) (post : Value → List Asn → Prop) : Ending → World → Prop := fun e w' => ∃ v Γ', e = .returned v ∧ post v Γ' ∧ Wd w0 h0 Γ' w'
def ini (vs : List Value) : Sl := go 0 vs where
 go : Nat → List Value → Sl
  | _, [] => []
  | i, v :: r => (i, v) :: go (i + 1) r
theorem lk_ini (vs : List Value) : ∀ (k i : Nat) (v : Value), lk (ini.go k vs) i = some v → k ≤ i ∧ vs[i - k]? = some v := by
 induction vs with
 | nil => intro k i v h; simp [ini.go, lk] at h
 | cons u r ih =>
  intro k i v h
  by_cases e : k = i
  ·subst e; simp only [ini.go] at h; rw [lk_cons_self] at h; cases h; simp
  ·simp only [ini.go] at h
   rw [lk_cons_ne e] at h
   obtain ⟨h1, h2⟩ := ih (k + 1) i v h
   refine ⟨by omega, ?_⟩
   rw [show i - k = (i - (k + 1)) + 1 by omega]; simpa using h2
theorem Pcalls {f : FuncId} {fn : Func} {vs : List Value} {post : Value → List Asn → Prop} (hf : P.funcs[f]? = some fn) (hb : fn.body = some c) (hn : fn.ntmps = n) (hl : Nat.ble vs.length n = true)
  (h : ∀ w0 h0, SP P w0 h0 c (bodyPost P fn (Post w0 h0 post)) n (ini vs) Γ) : Tri P f vs Γ post := by
 intro w hp s a
 refine calls_of_wp hf hb ?_
 refine h w hp _ w ⟨?_, rfl, fun i v hv => ?_⟩ (Wd.start s a)
 ·have := Nat.le_of_ble_eq_true hl
  simp [hn]; omega
 ·have := (lk_ini vs 0 i v hv).2
  simp only [Nat.sub_zero] at this
  have hlt : i < vs.length := (List.getElem?_eq_some_iff.1 this).1
  simp [Array.getElem?_append, hlt]; simpa [hlt] using this
theorem Jp.end0 {fn : Func} {e : Exit} {post : Value → List Asn → Prop} (he : e = .normal ∨ e = .ret) (hr : fn.results = #[]) (hp : post (.tuple #[]) Γ) : Jp w0 h0 e (bodyPost P fn (Post w0 h0 post)) n L Γ := by
 intro a w f s
 rcases he with rfl | rfl <;> exact ⟨f.defers, _, by simp [results, hr], _, Γ, rfl, hp, s⟩
theorem Jp.end1 {fn : Func} {e : Exit} {post : Value → List Asn → Prop} {t : Tmp} {v : Value} (he : e = .normal ∨ e = .ret) (hr : fn.results = #[.tmp t]) (hv : lk L t = some v) (hp : post v Γ) :
  Jp w0 h0 e (bodyPost P fn (Post w0 h0 post)) n L Γ := by
 intro a w f s
 have hv' := f.get t v hv
 rcases he with rfl | rfl <;> exact ⟨f.defers, v, by simp [results, hr, hv'], v, Γ, rfl, hp, s⟩
theorem Jp.go {fn : Func} {e : Exit} {post : Value → List Asn → Prop} (hΓ : ∀ h, star Γ h → star Γ' h) (k : Jp w0 h0 e (bodyPost P fn (Post w0 h0 post)) n L Γ') : Jp w0 h0 e (bodyPost P fn (Post w0 h0 post)) n L Γ :=
 fun a w f s => k a w f (s.mono hΓ)
theorem star_nil (h : Hp) : star [] h := trivial
theorem Jp.pur0 {fn : Func} {e : Exit} {v : Value} (he : e = .normal ∨ e = .ret) (hr : fn.results = #[]) (hv : Value.tuple #[] = v) :
  Jp w0 h0 e (bodyPost P fn (Post w0 h0 fun v' Γ' => v' = v ∧ Γ' = [])) n L Γ := Jp.go (fun h _ => star_nil h) (Jp.end0 he hr ⟨hv, rfl⟩)
theorem Jp.pur1 {fn : Func} {e : Exit} {t : Tmp} {v v' : Value} (he : e = .normal ∨ e = .ret) (hr : fn.results = #[.tmp t]) (hv : lk L t = some v') (h : v' = v) :
  Jp w0 h0 e (bodyPost P fn (Post w0 h0 fun v' Γ' => v' = v ∧ Γ' = [])) n L Γ := Jp.go (fun h _ => star_nil h) (Jp.end1 he hr hv ⟨h, rfl⟩)
def Res (P : Program) (w0 : World) (h0 : Hp) (L : Sl) (Γ : List Asn) : ResultVar → Value → Prop
 | .tmp t, v => lk L t = some v
 | .cell t T, v => ∃ a, lk L t = some (.pointer (some a)) ∧ ∀ w, Wd w0 h0 Γ w → (loadVar T a).run P w = .ok v w
theorem Res.tmp {t : Tmp} {v : Value} (h : lk L t = some v) : Res P w0 h0 L Γ (.tmp t) v := h
def resOf (tmps : Array Value) : ResultVar → Sem Value
 | .tmp t => pure (tmps.getD t undef)
 | .cell a t => do loadVar t (← asAddr (tmps.getD a undef))
theorem resOf_run {a : Act} {w : World} (f : Fit n L a) (s : Wd w0 h0 Γ w) {r : ResultVar} {v : Value} (h : Res P w0 h0 L Γ r v) : (resOf a.tmps r).run P w = .ok v w := by
 cases r with
 | tmp t => have := f.get t v h; simp [resOf, Array.getD_eq_getD_getElem?, this]
 | cell t T =>
  obtain ⟨ad, h1, h2⟩ := h
  have := f.get t _ h1
  simp [resOf, Array.getD_eq_getD_getElem?, this, asAddr, h2 w s]
theorem results_eq (fn : Func) (tmps : Array Value) : results fn tmps = (do let vs ← fn.results.mapM (resOf tmps); pure (if h : vs.size = 1 then vs[0] else .tuple vs)) := by
 unfold results
 congr 1
theorem Jp.end2 {fn : Func} {e : Exit} {post : Value → List Asn → Prop} {r1 r2 : ResultVar} {v1 v2 : Value} (he : e = .normal ∨ e = .ret) (hr : fn.results = #[r1, r2])
  (h1 : Res P w0 h0 L Γ r1 v1) (h2 : Res P w0 h0 L Γ r2 v2) (hp : post (.tuple #[v1, v2]) Γ) : Jp w0 h0 e (bodyPost P fn (Post w0 h0 post)) n L Γ := by
 intro a w f s
 have : (results fn a.tmps).run P w = .ok (.tuple #[v1, v2]) w := by
  rw [results_eq, hr]; simp [resOf_run f s h1, resOf_run f s h2]
 rcases he with rfl | rfl <;> exact ⟨f.defers, _, this, _, Γ, rfl, hp, s⟩
theorem Jp.end3 {fn : Func} {e : Exit} {post : Value → List Asn → Prop} {r1 r2 r3 : ResultVar} {v1 v2 v3 : Value} (he : e = .normal ∨ e = .ret) (hr : fn.results = #[r1, r2, r3])
  (h1 : Res P w0 h0 L Γ r1 v1) (h2 : Res P w0 h0 L Γ r2 v2) (h3 : Res P w0 h0 L Γ r3 v3) (hp : post (.tuple #[v1, v2, v3]) Γ) : Jp w0 h0 e (bodyPost P fn (Post w0 h0 post)) n L Γ := by
 intro a w f s
 have : (results fn a.tmps).run P w = .ok (.tuple #[v1, v2, v3]) w := by
  rw [results_eq, hr]; simp [resOf_run f s h1, resOf_run f s h2, resOf_run f s h3]
 rcases he with rfl | rfl <;> exact ⟨f.defers, _, this, _, Γ, rfl, hp, s⟩
theorem Jp.end4 {fn : Func} {e : Exit} {post : Value → List Asn → Prop} {r1 r2 r3 r4 : ResultVar} {v1 v2 v3 v4 : Value} (he : e = .normal ∨ e = .ret) (hr : fn.results = #[r1, r2, r3, r4])
  (h1 : Res P w0 h0 L Γ r1 v1) (h2 : Res P w0 h0 L Γ r2 v2) (h3 : Res P w0 h0 L Γ r3 v3) (h4 : Res P w0 h0 L Γ r4 v4) (hp : post (.tuple #[v1, v2, v3, v4]) Γ) : Jp w0 h0 e (bodyPost P fn (Post w0 h0 post)) n L Γ := by
 intro a w f s
 have : (results fn a.tmps).run P w = .ok (.tuple #[v1, v2, v3, v4]) w := by
  rw [results_eq, hr]; simp [resOf_run f s h1, resOf_run f s h2, resOf_run f s h3, resOf_run f s h4]
 rcases he with rfl | rfl <;> exact ⟨f.defers, _, this, _, Γ, rfl, hp, s⟩
theorem Jp.endc {fn : Func} {e : Exit} {post : Value → List Asn → Prop} {r1 : ResultVar} {v1 : Value} (he : e = .normal ∨ e = .ret) (hr : fn.results = #[r1])
  (h1 : Res P w0 h0 L Γ r1 v1) (hp : post v1 Γ) : Jp w0 h0 e (bodyPost P fn (Post w0 h0 post)) n L Γ := by
 intro a w f s
 have : (results fn a.tmps).run P w = .ok v1 w := by
  rw [results_eq, hr]; simp [resOf_run f s h1]
 rcases he with rfl | rfl <;> exact ⟨f.defers, _, this, _, Γ, rfl, hp, s⟩
theorem Jp.pur2 {fn : Func} {e : Exit} {r1 r2 : ResultVar} {v1 v2 v : Value} (he : e = .normal ∨ e = .ret) (hr : fn.results = #[r1, r2])
  (h1 : Res P w0 h0 L Γ r1 v1) (h2 : Res P w0 h0 L Γ r2 v2) (h : Value.tuple #[v1, v2] = v) : Jp w0 h0 e (bodyPost P fn (Post w0 h0 fun v' Γ' => v' = v ∧ Γ' = [])) n L Γ :=
 fun a w f s => by
  have := Jp.end2 (post := fun v' Γ' => v' = v ∧ Γ' = Γ) he hr h1 h2 ⟨h, rfl⟩ a w f s
  rcases he with rfl | rfl <;> exact (fun ⟨hd, v', hr', v'', Γ', e1, ⟨e2, e3⟩, s'⟩ => ⟨hd, v', hr', v'', [], e1, ⟨e2, rfl⟩, s'.mono fun h _ => star_nil h⟩) this
theorem Jp.pur4 {fn : Func} {e : Exit} {r1 r2 r3 r4 : ResultVar} {v1 v2 v3 v4 v : Value} (he : e = .normal ∨ e = .ret) (hr : fn.results = #[r1, r2, r3, r4])
  (h1 : Res P w0 h0 L Γ r1 v1) (h2 : Res P w0 h0 L Γ r2 v2) (h3 : Res P w0 h0 L Γ r3 v3) (h4 : Res P w0 h0 L Γ r4 v4) (h : Value.tuple #[v1, v2, v3, v4] = v) : Jp w0 h0 e (bodyPost P fn (Post w0 h0 fun v' Γ' => v' = v ∧ Γ' = [])) n L Γ :=
 fun a w f s => by
  have := Jp.end4 (post := fun v' Γ' => v' = v ∧ Γ' = Γ) he hr h1 h2 h3 h4 ⟨h, rfl⟩ a w f s
  rcases he with rfl | rfl <;> exact (fun ⟨hd, v', hr', v'', Γ', e1, ⟨e2, e3⟩, s'⟩ => ⟨hd, v', hr', v'', [], e1, ⟨e2, rfl⟩, s'.mono fun h _ => star_nil h⟩) this
theorem Jp.purc {fn : Func} {e : Exit} {r1 : ResultVar} {v1 v : Value} (he : e = .normal ∨ e = .ret) (hr : fn.results = #[r1])
  (h1 : Res P w0 h0 L Γ r1 v1) (h : v1 = v) : Jp w0 h0 e (bodyPost P fn (Post w0 h0 fun v' Γ' => v' = v ∧ Γ' = [])) n L Γ :=
 fun a w f s => by
  have := Jp.endc (post := fun v' Γ' => v' = v ∧ Γ' = Γ) he hr h1 ⟨h, rfl⟩ a w f s
  rcases he with rfl | rfl <;> exact (fun ⟨hd, v', hr', v'', Γ', e1, ⟨e2, e3⟩, s'⟩ => ⟨hd, v', hr', v'', [], e1, ⟨e2, rfl⟩, s'.mono fun h _ => star_nil h⟩) this
end

/-! ### regions that draw their order: a quiet head, then a tail in one order -/
section
variable {P : Program} {ops : Array Oper} {md : Region.Mode} {C : World → Prop}
def wpAnyLq (P : Program) (md : Region.Mode) (ops : Array Oper) (C : World → Prop) (n : Nat) (L : Array Bool → Act → Prop) : Nat → Array Bool → Act → Prop
 | 0, listed, a => L listed a
 | f + 1, listed, a =>
  Region.ready md ops listed ≠ [] ∧ ∀ i ∈ Region.ready md ops listed, i < n ∧ qOp P ops C i (wpAnyLq P md ops C n L f (listed.setIfInBounds i true)) a
theorem wpAny_of_headq {n g : Nat} {L : Array Bool → Act → Prop} {Q' : Exit → Act → World → Prop} (hL : ∀ listed a w, C w → L listed a → wpAny P md ops Q' g listed a w) :
  ∀ (f : Nat) (listed : Array Bool) (a : Act) (w : World), C w → wpAnyLq P md ops C n L f listed a → wpAny P md ops Q' (f + g) listed a w
 | 0, listed, a, w, hw, h => by rw [Nat.zero_add]; exact hL _ _ _ hw h
 | f + 1, listed, a, w, hw, h => by
  rw [show f + 1 + g = (f + g) + 1 by omega]
  exact ⟨fun h0 => absurd h0 h.1, fun i hi => wpOp_of_qOp hw (fun a' w' hw' h' => wpAny_of_headq hL f _ a' w' hw' h') (h.2 i hi).2⟩
theorem wpAnyLq_first {n i : Nat} {oi : Oper} {v : Value} {L : Array Bool → Act → Prop} (hi : ops[i]? = some oi) (hsel : ∀ (j : Nat) (o : Oper) cs b, ops[j]? = some o → o.op ≠ .select cs b)
  (hs : Region.sinkB md ops n = true) (hc : Region.chainB md ops n = true) (hn : n < ops.size) (hin : i < n)
  (hdone : ∀ listed a, L listed a → ∀ j ∈ Region.ready md ops listed, n ≤ j) :
  ∀ (f : Nat) (listed : Array Bool) (a : Act), HeadInv md ops n listed →
   (∀ j oj, ops[j]? = some oj → j ≠ i → listed.getD j true = false → (∀ e ∈ oj.after, Region.binds md e = true → e.on ≠ i) → oi.apart ops oj = true) →
   i ∈ Region.ready md ops listed → YieldsIn P ops C oi v a →
   wpAnyLq P md ops C n L f (listed.setIfInBounds i true) (a.put oi.dst v) → wpAnyLq P md ops C n L (f + 1) listed a := by
 intro f
 induction f with
 | zero =>
  intro listed a inv _ hr hy H
  have hun := (mem_ready.1 hr).1
  refine ⟨fun h => (by rw [h] at hr; cases hr), fun j hj => ?_⟩
  have hjn : j < n := by
   rcases Nat.lt_or_ge j n with h | h
   ·exact h
   ·exact absurd hj (tail_waits hs hc hn inv _ i rfl hin hun j h)
  refine ⟨hjn, ?_⟩
  by_cases hji : j = i
  ·subst hji; exact hy.qOp hi H
  ·have := hdone _ _ H j (ready_mono hj hji)
   omega
 | succ f ih =>
  intro listed a inv hfree hr hy H
  have hun := (mem_ready.1 hr).1
  refine ⟨fun h => (by rw [h] at hr; cases hr), fun j hj => ?_⟩
  have hjn : j < n := by
   rcases Nat.lt_or_ge j n with h | h
   ·exact h
   ·exact absurd hj (tail_waits hs hc hn inv _ i rfl hin hun j h)
  refine ⟨hjn, ?_⟩
  by_cases hji : j = i
  ·subst hji; exact hy.qOp hi H
  ·have h1 := (H.2 j (ready_mono hj hji)).2
   obtain ⟨hjun, oj, hoj, hall⟩ := mem_ready.1 hj
   have hnot : ∀ e ∈ oj.after, Region.binds md e = true → e.on ≠ i := fun e he hb heq => by
    have h1 := hall e he hb
    rw [heq, getD_both hun] at h1
    cases h1
   have h2 := qOp_put hoj (hfree j oj hoj hji hjun hnot) (fun cs b => hsel i oi cs b hi) (fun cs b => hsel j oj cs b hoj) hy h1
   have hfree' : ∀ k ok, ops[k]? = some ok → k ≠ i → (listed.setIfInBounds j true).getD k true = false →
     (∀ e ∈ ok.after, Region.binds md e = true → e.on ≠ i) → oi.apart ops ok = true := fun k ok hk hki hun hno => by
    refine hfree k ok hk hki ?_ hno
    by_cases hjk : j = k
    ·subst hjk; exact hjun
    ·rw [getD_set_ne true hjk] at hun; exact hun
   refine qOp_mono (fun a' h3 => ih (listed.setIfInBounds j true) a' (inv.set hj hjn) hfree' (ready_mono hr (Ne.symm hji)) h3.1 ?_) h2
   rw [Array.setIfInBounds_comm _ _ hji]
   exact h3.2
theorem wpAnyLq_lex {n g : Nat} {Lq : Act → Prop} (hsel : Region.noSelect ops = true) (hs : Region.sinkB md ops n = true) (hc : Region.chainB md ops n = true) (hn : n < ops.size) :
  ∀ (l : List Oper) (k : Nat) (listed : Array Bool) (a : Act), (∀ j, j < l.length → l[j]? = ops[k + j]?) → k + l.length = n → HeadInv md ops n listed →
  Region.lexHead md ops g l.length k listed = true → wpQuiet P ops C Lq l a →
  wpAnyLq P md ops C n (fun listed' a' => Region.seqB md ops g n listed' = true ∧ Lq a') l.length listed a
 | [], k, listed, a, _, hk, _, hB, h => by
  have : k = n := by simpa using hk
  subst this
  exact ⟨by simpa [Region.lexHead] using hB, h⟩
 | o :: l, k, listed, a, hl, hk, inv, hB, h => by
  have h0 : ops[k]? = some o := by simpa using (hl 0 (by simp)).symm
  simp only [List.length_cons, Region.lexHead, Bool.and_eq_true] at hB
  obtain ⟨⟨hr, hf⟩, hB'⟩ := hB
  have hkn : k < n := by simp only [List.length_cons] at hk; omega
  have hr' : k ∈ Region.ready md ops listed := by simpa using hr
  have hst : qOp P ops C k (wpQuiet P ops C Lq l) a := by unfold qOp; simp only [h0]; exact h
  obtain ⟨v, hy, hK⟩ := yieldsIn_of_qOp h0 hst
  exact wpAnyLq_first h0 (Region.noSelect_spec hsel) hs hc hn hkn (fun listed' a' hL => seqB_ready hL.1) l.length listed a inv (Region.free_spec h0 hf) hr' hy
   (wpAnyLq_lex hsel hs hc hn l (k + 1) _ _ (fun j hj => by have := hl (j + 1) (by simp; omega); simpa [Nat.add_assoc, Nat.add_comm 1 j] using this) (by simp only [List.length_cons] at hk; omega) (inv.set hr' hkn) hB' hK)
theorem wp_region_quiet_tail {id : Nat} {Q : Exit → Act → World → Prop} {a : Act} {w : World} {l : List Oper} (n : Nat) (hm : P.follows .mixedOrders = true) (hB : Region.lexTailB .any l.toArray n = true) (hC : C { w with drawn := w.drawn + 1 })
  (h : wpQuiet P l.toArray C (fun a' => ∀ w', C w' → wpList P l.toArray Q (l.drop n) a' w') (l.take n) a) : (Code.region id l.toArray true).wp P Q a w := by
 simp only [Region.lexTailB, Bool.and_eq_true, decide_eq_true_eq] at hB
 obtain ⟨⟨⟨⟨hsel, hn⟩, hs⟩, hc⟩, hlex⟩ := hB
 have hn' : n < l.length := by simpa using hn
 have htl : (l.take n).length = n := by simp; omega
 have hdl : (l.drop n).length = l.toArray.size - n := by simp
 have inv0 : HeadInv .any l.toArray n (Array.replicate l.toArray.size false) :=
  ⟨by simp, fun j oj _ hl => (by rw [getD_replicate_false] at hl; cases hl), fun t _ ht => getD_in (by simpa using ht) (getD_replicate_false _ _)⟩
 have H := wpAnyLq_lex (md := .any) (g := l.toArray.size - n) hsel hs hc hn (l.take n) 0 _ a (fun j hj => by
  have hj' : j < n := by rw [htl] at hj; exact hj
  simp [hj']) (by simpa using htl) inv0 (by rw [htl]; exact hlex) h
 refine wp_region_any hm ?_
 have := wpAny_of_headq (Q' := Q) (g := l.toArray.size - n) (fun listed a' w' hw' hL => by
  have := wpAny_of_seq (md := .any) (Q' := Q) (l.drop n) n listed a' w' (fun j => by simp [List.getElem?_drop]) (by rw [hdl]; exact hL.1) (hL.2 w' hw')
  rwa [hdl] at this) _ _ _ _ hC H
 rw [htl, show n + (l.toArray.size - n) = l.toArray.size by omega] at this
 exact this
variable {w0 : World} {h0 : Hp} {Q : Exit → Act → World → Prop} {n : Nat} {L : Sl} {Γ : List Asn}
theorem SP.quiet {id : Nat} {l : List Oper} (hm : P.follows .mixedOrders = true) (hB : Region.lexB .any l.toArray = true)
  (k : XL P w0 h0 true l.toArray (Q .normal) Q l n L Γ) : SP P w0 h0 (.region id l.toArray true) Q n L Γ := fun a w f s =>
 wp_region_quiet (C := Wd w0 h0 Γ) hm hB (s.drew _) (by simpa using k.quiet f)
theorem SP.tail {id : Nat} {l : List Oper} (m : Nat) (hm : P.follows .mixedOrders = true) (hB : Region.lexTailB .any l.toArray m = true)
  (k : XL P w0 h0 true l.toArray (wpList P l.toArray Q (l.drop m)) Q (l.take m) n L Γ) : SP P w0 h0 (.region id l.toArray true) Q n L Γ := fun a w f s =>
 wp_region_quiet_tail (C := Wd w0 h0 Γ) m hm hB (s.drew _) (k.quiet f)
theorem XL.nilq_end (k : Jp w0 h0 .normal Q n L Γ) : XL P w0 h0 true ops (Q .normal) Q [] n L Γ := fun a f w s => k a w f s
theorem XL.nilq_tail {rest : List Oper} (k : XL P w0 h0 false ops (Q .normal) Q rest n L Γ) : XL P w0 h0 true ops (wpList P ops Q rest) Q [] n L Γ := fun a f w s => k a w f s
end
end Go.Bk

namespace Go.Bk

/-! ### facts on types -/
class Sc (P : Program) (T : TypeId) : Prop where
 agg : ∀ w, (isAgg T).run P w = .ok false w
 size : ∀ w, (sizeOf T).run P w = .ok 1 w
class Ag (P : Program) (T : TypeId) (k : outParam Nat) : Prop where
 agg : ∀ w, (isAgg T).run P w = .ok true w
 size : ∀ w, (sizeOf T).run P w = .ok k w
class Zr (P : Program) (T : TypeId) (z : outParam (List Value)) : Prop where
 zero : ∀ w, ∃ v, (zeroValue T).run P w = .ok v w ∧ v.cells = z.toArray
class FldOf (P : Program) (T : TypeId) (i : Nat) (off t : outParam Nat) : Prop where
 addr : ∀ w b o, (Instr.fieldAt T (.pointer (some ⟨b, o, none⟩)) i).run P w = .ok (.pointer (some ⟨b, o + off, none⟩)) w
 val : ∀ w cs, (Instr.field T (.agg cs) i).run P w = (part t cs off).run P w
class Arr (P : Program) (T : TypeId) (n E k : outParam Nat) : Prop where
 arr : P.underlying T = some (.array n E)
 size : ∀ w, (sizeOf E).run P w = .ok k w
class Slt (P : Program) (T : TypeId) (E k : outParam Nat) : Prop where
 slt : P.underlying T = some (.slice E)
 size : ∀ w, (sizeOf E).run P w = .ok k w
class Ity (P : Program) (T : TypeId) (k : outParam IntKind) : Prop where
 int : P.underlying T = some (.int k)
class Pty (P : Program) (T : TypeId) (E : outParam Nat) : Prop where
 ptr : P.underlying T = some (.pointer E)

theorem ok_of {α : Type} {P : Program} {s : Sem α} {w w' : World} {v : α} (h : s.run P w = .ok v w') {β : Type} (f : α → Sem β) : (s >>= f).run P w = (f v).run P w' := by
 rw [Sem.run_bind, h]; rfl
theorem run_underlying' {P : Program} {T : TypeId} {d : TypeDesc} (h : P.underlying T = some d) (w : World) : (underlying T).run P w = .ok d w := by
 unfold underlying program
 show (Sem.run P (match P.underlying T with | some d => pure d | none => stuck "no such type") w) = _
 rw [h]; rfl
theorem run_info {P : Program} {T : TypeId} {i : TypeInfo} (h : P.info? T = some i) (w : World) : (typeInfo T).run P w = .ok i w := by
 unfold typeInfo program
 show (Sem.run P (match P.info? T with | some i => pure i | none => stuck "no such type") w) = _
 rw [h]; rfl
theorem run_size {P : Program} {T k : Nat} (h : (P.info? T).map (·.size) = some k) (w : World) : (sizeOf T).run P w = .ok k w := by
 obtain ⟨i, hi, hk⟩ := Option.map_eq_some_iff.1 h
 unfold sizeOf
 rw [ok_of (run_info hi w)]; rw [← hk]; rfl
def scB (P : Program) (T : TypeId) : Bool := match P.underlying T with
 | some (.struct _) | some (.array _ _) | none => false
 | _ => true
def agB (P : Program) (T : TypeId) : Bool := match P.underlying T with
 | some (.struct _) | some (.array _ _) => true
 | _ => false
theorem Sc.of {P : Program} {T : TypeId} (h : scB P T = true) (hs : (P.info? T).map (·.size) = some 1) : Sc P T where
 agg w := by
  unfold scB at h
  unfold isAgg
  cases hu : P.underlying T with
  | none => rw [hu] at h; cases h
  | some d => rw [hu] at h; rw [ok_of (run_underlying' hu w)]; cases d <;> first | rfl | cases h
 size := run_size hs
theorem Ag.of {P : Program} {T k : Nat} (h : agB P T = true) (hs : (P.info? T).map (·.size) = some k) : Ag P T k where
 agg w := by
  unfold agB at h
  unfold isAgg
  cases hu : P.underlying T with
  | none => rw [hu] at h; cases h
  | some d => rw [hu] at h; rw [ok_of (run_underlying' hu w)]; cases d <;> first | rfl | cases h
 size := run_size hs
theorem Zr.of {P : Program} {T : TypeId} {z : List Value} (h : ((P.info? T).bind (·.zero)).map (·.cells.toList) = some z) : Zr P T z where
 zero w := by
  obtain ⟨v, hv, hz⟩ := Option.map_eq_some_iff.1 h
  obtain ⟨i, hi, hz2⟩ := Option.bind_eq_some_iff.1 hv
  refine ⟨v, ?_, by rw [← hz]⟩
  unfold zeroValue
  rw [ok_of (run_info hi w), hz2]; rfl
theorem add_none (b o k : Nat) : Addr.add ⟨b, o, none⟩ k = ⟨b, o + k, none⟩ := by
 unfold Addr.add; split
 ·rename_i h; subst h; rfl
 ·rfl
theorem FldOf.of {P : Program} {T i off t k : Nat} {l : Array Field} {f : Field} (h1 : P.underlying T = some (.struct l)) (h2 : l[i]? = some f) (h3 : f.offset = off) (h4 : f.type = t)
  (h5 : (P.info? t).map (·.size) = some (k + 1)) : FldOf P T i off t where
 addr w b o := by
  unfold Instr.fieldAt
  rw [ok_of (run_underlying' h1 w)]
  simp only [h2]
  unfold Instr.sureAddr fieldPlace
  simp only [pure_bind]
  rw [h4, bind_assoc, ok_of (run_size h5 w), if_neg (by omega), pure_bind, h3, add_none]; rfl
 val w cs := by
  unfold Instr.field
  rw [ok_of (run_underlying' h1 w)]
  simp only [h2, asAgg, pure_bind, h3, h4]
def fldB (P : Program) (T i off t : Nat) : Bool := match P.underlying T with
 | some (.struct l) => match l[i]? with
  | some f => Nat.beq f.offset off && Nat.beq f.type t && (match (P.info? t).map (·.size) with
   | some (_ + 1) => true
   | _ => false)
  | none => false
 | _ => false
theorem FldOf.ofB {P : Program} {T i off t : Nat} (h : fldB P T i off t = true) : FldOf P T i off t := by
 unfold fldB at h
 split at h
 ·rename_i l hl
  split at h
  ·rename_i f hf
   simp only [Bool.and_eq_true] at h
   obtain ⟨⟨h1, h2⟩, h3⟩ := h
   split at h3
   ·rename_i k hk; exact FldOf.of hl hf (Nat.eq_of_beq_eq_true h1) (Nat.eq_of_beq_eq_true h2) hk
   ·cases h3
  ·cases h
 ·cases h
theorem Arr.of {P : Program} {T n E k : Nat} (h1 : P.underlying T = some (.array n E)) (h2 : (P.info? E).map (·.size) = some k) : Arr P T n E k := ⟨h1, run_size h2⟩
theorem Slt.of {P : Program} {T E k : Nat} (h1 : P.underlying T = some (.slice E)) (h2 : (P.info? E).map (·.size) = some k) : Slt P T E k := ⟨h1, run_size h2⟩

/-! ### rows of values -/
def cel (cs : List Value) (T : TypeId) : Obj := .cells cs.toArray T (0, 0)
def sca : Value → Bool
 | .agg _ | .tuple _ => false
 | _ => true
theorem sca_cells {v : Value} (h : sca v = true) : v.cells = #[v] := by cases v <;> first | rfl | cases h
class SbL (cs : List Value) (off k : Nat) (vs : outParam (List Value)) : Prop where
 sub : off + k ≤ cs.length ∧ (cs.drop off).take k = vs
instance SbL.nil (cs : List Value) : SbL cs 0 0 [] := ⟨by simp, by simp⟩
instance SbL.zero (c : Value) (cs : List Value) (k : Nat) (vs : List Value) [h : SbL cs 0 k vs] : SbL (c :: cs) 0 (k + 1) (c :: vs) := ⟨by have := h.sub.1; simp; omega, by have := h.sub.2; simp at this ⊢; exact this⟩
instance SbL.succ (c : Value) (cs : List Value) (off k : Nat) (vs : List Value) [h : SbL cs off k vs] : SbL (c :: cs) (off + 1) k vs := ⟨by have := h.sub.1; simp; omega, by have := h.sub.2; simpa using this⟩
class GtL (cs : List Value) (off : Nat) (v : outParam Value) : Prop where
 gt : cs[off]? = some v
instance GtL.zero (c : Value) (cs : List Value) : GtL (c :: cs) 0 c := ⟨rfl⟩
instance GtL.succ (c : Value) (cs : List Value) (off : Nat) (v : Value) [h : GtL cs off v] : GtL (c :: cs) (off + 1) v := ⟨by simpa using h.gt⟩
class StL (cs : List Value) (off : Nat) (vs : List Value) (cs' : outParam (List Value)) : Prop where
 st : off + vs.length ≤ cs.length ∧ cs' = cs.take off ++ vs ++ cs.drop (off + vs.length)
instance StL.nil (cs : List Value) : StL cs 0 [] cs := ⟨by simp, by simp⟩
instance StL.zero (c v : Value) (cs vs cs' : List Value) [h : StL cs 0 vs cs'] : StL (c :: cs) 0 (v :: vs) (v :: cs') := ⟨by have := h.st.1; simp; omega, by have := h.st.2; simp [Nat.add_comm] at this ⊢; exact this⟩
instance StL.succ (c : Value) (cs vs cs' : List Value) (off : Nat) [h : StL cs off vs cs'] : StL (c :: cs) (off + 1) vs (c :: cs') := ⟨by have := h.st.1; simp; omega, by
 have := h.st.2; rw [this, show off + 1 + vs.length = (off + vs.length) + 1 by omega]; simp⟩

theorem StL.whole {cs vs : List Value} (h : cs.length = vs.length) : StL cs 0 vs vs := ⟨by omega, by simp [List.drop_eq_nil_of_le, h]⟩
def setB (w : World) (b : Nat) (o : Obj) : World := { w with heap := w.heap.setIfInBounds b o }
theorem cell_of {w : World} {b : Nat} {cs : List Value} {T : TypeId} (h : w.heap[b]? = some (cel cs T)) (off : Nat) : w.cell? ⟨b, off, none⟩ = cs[off]? := by
 unfold World.cell?; simp only [h, cel]; simp
theorem loadCellsFrom_run {P : Program} {w : World} {b : Nat} {cs : List Value} {T : TypeId} (h : w.heap[b]? = some (cel cs T)) (off : Nat) :
  ∀ (k i : Nat) (acc : Array Value), off + i + k ≤ cs.length → (loadCellsFrom ⟨b, off, none⟩ i k acc).run P w = .ok (acc ++ ((cs.drop (off + i)).take k).toArray) w
 | 0, i, acc, _ => by simp [loadCellsFrom]
 | k + 1, i, acc, hl => by
  have hlt : off + i < cs.length := by omega
  have hc : w.cell? (Addr.add ⟨b, off, none⟩ i) = some cs[off + i] := by rw [add_none, cell_of h]; simp [hlt]
  have hL : (load (Addr.add ⟨b, off, none⟩ i)).run P w = .ok cs[off + i] w := by rw [run_load, hc]
  unfold loadCellsFrom
  rw [ok_of hL, loadCellsFrom_run h off k (i + 1) _ (by omega)]
  congr 1
  rw [List.drop_eq_getElem_cons hlt]
  simp [Nat.add_assoc]
theorem loadVar_agg {P : Program} {T T' k : Nat} [a : Ag P T k] {w : World} {b off : Nat} {cs vs : List Value} (h : w.heap[b]? = some (cel cs T')) [s : SbL cs off k vs] :
  (loadVar T ⟨b, off, none⟩).run P w = .ok (.agg vs.toArray) w := by
 unfold loadVar
 rw [ok_of (a.agg w)]
 simp only [if_true]
 rw [ok_of (a.size w)]
 have := loadCellsFrom_run (P := P) h off k 0 #[] (by have := s.sub.1; omega)
 unfold loadCells
 rw [ok_of this]
 simp [s.sub.2]
theorem loadVar_sc {P : Program} {T T' : Nat} [a : Sc P T] {w : World} {b off : Nat} {cs : List Value} {v : Value} (h : w.heap[b]? = some (cel cs T')) (hv : cs[off]? = some v) :
  (loadVar T ⟨b, off, none⟩).run P w = .ok v w := by
 unfold loadVar
 rw [ok_of (a.agg w)]
 simp only [Bool.false_eq_true, if_false]
 rw [run_load, cell_of h, hv]
theorem setCell_cel {w : World} {b : Nat} {cs : List Value} {T : TypeId} (h : w.heap[b]? = some (cel cs T)) (off : Nat) (v : Value) :
  w.setCell ⟨b, off, none⟩ v = setB w b (cel (cs.set off v) T) := by
 unfold World.setCell
 congr 1
 apply Array.ext'
 apply List.ext_getElem?
 intro i
 simp only [Array.getElem?_toList, Array.getElem?_modify, Array.getElem?_setIfInBounds]
 by_cases e : b = i
 ·subst e
  obtain ⟨hlt, he⟩ := Array.getElem?_eq_some_iff.1 h
  simp [hlt, he, cel]
 ·simp [e]
theorem store_cel {P : Program} {w : World} {b off : Nat} {cs : List Value} {T : TypeId} {v : Value} (h : w.heap[b]? = some (cel cs T)) (ho : off < cs.length) (hv : sca v = true) :
  (store ⟨b, off, none⟩ v).run P w = .ok () (setB w b (cel (cs.set off v) T)) := by
 have hc : w.cell? ⟨b, off, none⟩ = some cs[off] := by rw [cell_of h]; simp [ho]
 have hf : w.frozen? ⟨b, off, none⟩ = false := by unfold World.frozen?; simp [h, cel]
 unfold store
 rw [← setCell_cel h]
 cases v <;> first | (simp only [Sem.run, hc, hf]; rfl) | cases hv
theorem set_cel_again {w : World} {b : Nat} {o o' : Obj} : setB (setB w b o) b o' = setB w b o' := by
 unfold setB
 simp
theorem setB_get {w : World} {b : Nat} (hlt : b < w.heap.size) (o : Obj) : (setB w b o).heap[b]? = some o := by simp [setB, hlt]
theorem storeCells_run {P : Program} {b : Nat} {T : TypeId} (off : Nat) : ∀ (vs : List Value) (i : Nat) (cs : List Value) (w : World), w.heap[b]? = some (cel cs T) → off + i + vs.length ≤ cs.length → vs.all sca = true →
  (storeCells ⟨b, off, none⟩ vs i).run P w = .ok () (setB w b (cel (cs.take (off + i) ++ vs ++ cs.drop (off + i + vs.length)) T))
 | [], i, cs, w, h, hl, _ => by
  simp only [storeCells, List.append_nil, List.length_nil, Nat.add_zero, List.take_append_drop]
  have : w.heap.setIfInBounds b (cel cs T) = w.heap := by
   apply Array.ext'
   apply List.ext_getElem?
   intro j
   simp only [Array.getElem?_toList, Array.getElem?_setIfInBounds]
   split
   ·rename_i e; subst e; split
    ·exact h.symm
    ·rename_i h2; exact (Array.getElem?_eq_none (by omega)).symm
   ·rfl
  unfold setB; rw [this]; rfl
 | v :: vs, i, cs, w, h, hl, hv => by
  simp only [List.length_cons] at hl
  simp only [List.all_cons, Bool.and_eq_true] at hv
  unfold storeCells
  rw [add_none, ok_of (store_cel (off := off + i) h (by omega) hv.1)]
  have hlt : b < w.heap.size := (Array.getElem?_eq_some_iff.1 h).1
  rw [storeCells_run (T := T) off vs (i + 1) (cs.set (off + i) v) _ (setB_get hlt _) (by simp; omega) hv.2, set_cel_again]
  have e1 : (cs.set (off + i) v).take (off + (i + 1)) = cs.take (off + i) ++ [v] := by
   rw [show off + (i + 1) = (off + i) + 1 by omega]
   apply List.ext_getElem?
   intro j
   simp only [List.getElem?_take, List.getElem?_set, List.getElem?_append, List.length_take]
   by_cases g : j < off + i
   ·have : j < min (off + i) cs.length := by omega
    simp [g, this, show ¬ off + i = j by omega, show j < off + i + 1 by omega]
   ·by_cases g2 : j = off + i
    ·subst g2; simp [show off + i < cs.length by omega, show min (off + i) cs.length = off + i by omega]
    ·rw [if_neg (by omega), if_neg (by omega), List.getElem?_eq_none (by simp; omega)]
  have e2 : (cs.set (off + i) v).take (off + (i + 1)) ++ vs ++ (cs.set (off + i) v).drop (off + (i + 1) + vs.length) = cs.take (off + i) ++ (v :: vs) ++ cs.drop (off + i + (v :: vs).length) := by
   rw [e1, List.drop_set_of_lt (by omega)]
   simp [show off + (i + 1) + vs.length = off + i + (vs.length + 1) by omega]
  rw [e2]
theorem storeVar_agg {P : Program} {T T' k : Nat} [a : Ag P T k] {w : World} {b off : Nat} {cs vs cs' : List Value} (h : w.heap[b]? = some (cel cs T')) (hk : vs.length = k) (hv : vs.all sca = true) [s : StL cs off vs cs'] :
  (storeVar T ⟨b, off, none⟩ (.agg vs.toArray)).run P w = .ok () (setB w b (cel cs' T')) := by
 unfold storeVar
 rw [ok_of (a.size w)]
 simp only [Value.cells, List.size_toArray, hk, ne_eq, not_true_eq_false, if_false]
 have := storeCells_run (P := P) (T := T') off vs 0 cs w h (by have := s.st.1; omega) hv
 rw [s.st.2]; exact this
theorem storeVar_sc {P : Program} {T T' : Nat} [a : Sc P T] {w : World} {b off : Nat} {cs cs' : List Value} {v : Value} (h : w.heap[b]? = some (cel cs T')) (hv : sca v = true) [s : StL cs off [v] cs'] :
  (storeVar T ⟨b, off, none⟩ v).run P w = .ok () (setB w b (cel cs' T')) := by
 unfold storeVar
 rw [ok_of (a.size w), sca_cells hv]
 simp only [List.size_toArray, List.length_singleton, ne_eq, not_true_eq_false, if_false]
 have := storeCells_run (P := P) (T := T') off [v] 0 cs w h (by have := s.st.1; simp at this ⊢; omega) (by simp [hv])
 rw [s.st.2]; exact this

/-! ### structs and arrays built -/
theorem fold_set : ∀ (vs : List Value) (k off : Nat) (cs : List Value), off + k + vs.length ≤ cs.length →
  (vs.zipIdx k).foldl (fun (a : Array Value) (p : Value × Nat) => a.setIfInBounds (off + p.2) p.1) cs.toArray = (cs.take (off + k) ++ vs ++ cs.drop (off + k + vs.length)).toArray
 | [], k, off, cs, h => by simp
 | v :: vs, k, off, cs, h => by
  simp only [List.length_cons] at h
  rw [List.zipIdx_cons, List.foldl_cons]
  simp only [List.setIfInBounds_toArray]
  rw [fold_set vs (k + 1) off (cs.set (off + k) v) (by simp; omega)]
  congr 1
  have e1 : (cs.set (off + k) v).take (off + (k + 1)) = cs.take (off + k) ++ [v] := by
   rw [show off + (k + 1) = (off + k) + 1 by omega]
   apply List.ext_getElem?
   intro j
   simp only [List.getElem?_take, List.getElem?_set, List.getElem?_append, List.length_take]
   by_cases g : j < off + k
   ·have : j < min (off + k) cs.length := by omega
    simp [g, this, show ¬ off + k = j by omega, show j < off + k + 1 by omega]
   ·by_cases g2 : j = off + k
    ·subst g2; simp [show off + k < cs.length by omega, show min (off + k) cs.length = off + k by omega]
    ·rw [if_neg (by omega), if_neg (by omega), List.getElem?_eq_none (by simp; omega)]
  rw [e1, List.drop_set_of_lt (by omega)]
  simp [show off + (k + 1) + vs.length = off + k + (vs.length + 1) by omega]
class LenIs (vs : List Value) (k : Nat) : Prop where
 le : vs.length = k
instance : LenIs [] 0 := ⟨rfl⟩
instance (v : Value) (vs : List Value) (k : Nat) [h : LenIs vs k] : LenIs (v :: vs) (k + 1) := ⟨by simp [h.le]⟩
class GtP (pl : List (Nat × Nat)) (i : Nat) (off size : outParam Nat) : Prop where
 gt : pl[i]? = some (off, size)
instance GtP.zero (a b : Nat) (pl : List (Nat × Nat)) : GtP ((a, b) :: pl) 0 a b := ⟨rfl⟩
instance GtP.succ (p : Nat × Nat) (pl : List (Nat × Nat)) (i a b : Nat) [h : GtP pl i a b] : GtP (p :: pl) (i + 1) a b := ⟨by simpa using h.gt⟩
class Cel (v : Value) (vs : outParam (List Value)) : Prop where
 ce : v.cells = vs.toArray
instance (vs : List Value) : Cel (.agg vs.toArray) vs := ⟨rfl⟩
instance (k : IntKind) (n : Int) : Cel (.int k n) [.int k n] := ⟨rfl⟩
instance (b : Bool) : Cel (.bool b) [.bool b] := ⟨rfl⟩
instance (b : ByteArray) : Cel (.string b) [.string b] := ⟨rfl⟩
instance (a : Option Addr) : Cel (.pointer a) [.pointer a] := ⟨rfl⟩
instance (a : Option Addr) (n c : Nat) : Cel (.slice a n c) [.slice a n c] := ⟨rfl⟩
instance (a : Option Nat) : Cel (.map a) [.map a] := ⟨rfl⟩
instance (f : Fn) (a b : Array Value) : Cel (.func f a b) [.func f a b] := ⟨rfl⟩
instance (t : TypeId) (v : Value) : Cel (.iface t v) [.iface t v] := ⟨rfl⟩
class FilT (z : List Value) (pl : List (Nat × Nat)) (pv : List (Nat × Value)) (cs : outParam (List Value)) : Prop where
 fi : Instr.fill (fun i => pl[i]?) z.toArray pv = some cs.toArray
instance FilT.nil (z : List Value) (pl : List (Nat × Nat)) : FilT z pl [] z := ⟨rfl⟩
instance FilT.cons (z z' cs vs : List Value) (pl : List (Nat × Nat)) (i : Nat) (v : Value) (r : List (Nat × Value)) (off size : Nat) [h1 : GtP pl i off size] [h2 : Cel v vs] [h3 : StL z off vs z'] [h4 : LenIs vs size] [h5 : FilT z' pl r cs] : FilT z pl ((i, v) :: r) cs := ⟨by
 have hl := h3.st.1
 unfold Instr.fill
 rw [h1.gt]
 simp only [h2.ce, List.size_toArray, h4.le, ne_eq, not_true_eq_false, decide_false, Bool.false_or, decide_eq_true_eq]
 rw [if_neg (by have := h4.le; omega)]
 have := fold_set vs 0 off z (by omega)
 simp only [Nat.add_zero] at this
 rw [← Array.foldl_toList, Array.toList_zipIdx]
 have e : (vs.toArray.toList.zipIdx 0).foldl (fun (cs : Array Value) (x : Value × Nat) => cs.setIfInBounds (off + x.2) x.1) z.toArray = z'.toArray := by rw [h3.st.2]; exact this
 rw [e]
 exact h5.fi⟩
class Bld (P : Program) (T : TypeId) (z : outParam (List Value)) (pl : outParam (List (Nat × Nat))) : Prop where
 run : ∀ w parts cs, Instr.fill (fun i => pl[i]?) z.toArray parts.toList = some cs → (Instr.build T parts).run P w = .ok (.agg cs) w
def plB (P : Program) : List Field → Option (List (Nat × Nat))
 | [] => some []
 | f :: r => match (P.info? f.type).map (·.size), plB P r with
  | some k, some l => some ((f.offset, k) :: l)
  | _, _ => none
theorem plB_run {P : Program} (w : World) : ∀ (fs : List Field) (l : List (Nat × Nat)), plB P fs = some l → (fs.mapM fun (f : Field) => do pure (f.offset, ← sizeOf f.type)).run P w = .ok l w
 | [], l, h => by cases h; rfl
 | f :: r, l, h => by
  unfold plB at h
  split at h
  ·rename_i k l' hk hl
   cases h
   rw [List.mapM_cons]
   rw [bind_assoc, ok_of (run_size hk w)]
   simp only [pure_bind]
   rw [ok_of (plB_run w r l' hl)]; rfl
  ·cases h
theorem Bld.of {P : Program} {T : TypeId} {z : List Value} {fs : List Field} {pl : List (Nat × Nat)} [hz : Zr P T z] (h1 : P.underlying T = some (.struct fs.toArray)) (h2 : plB P fs = some pl) : Bld P T z pl where
 run w parts cs h := by
  obtain ⟨v, hv, hc⟩ := hz.zero w
  unfold Instr.build
  rw [ok_of hv, ok_of (run_underlying' h1 w)]
  simp only [List.mapM_toArray]
  rw [Sem.run_bind, Sem.run_map, plB_run w fs pl h2]
  simp only [Result.andThen_ok, hc, List.getElem?_toArray, h]
  rfl
theorem Bld.arr {P : Program} {T n E k : Nat} {z : List Value} {pl : List (Nat × Nat)} [hz : Zr P T z] [ha : Arr P T n E k] (h2 : ∀ i p, pl[i]? = some p → p = (i * k, k)) : Bld P T z pl where
 run w parts cs h := by
  obtain ⟨v, hv, hc⟩ := hz.zero w
  unfold Instr.build
  rw [ok_of hv, ok_of (run_underlying' ha.arr w)]
  simp only []
  rw [ok_of (ha.size w), hc]
  have key : ∀ (l : List (Nat × Value)) (a : Array Value), Instr.fill (fun i => pl[i]?) a l = some cs → Instr.fill (fun i => some (i * k, k)) a l = some cs := by
   intro l
   induction l with
   | nil => intro a h; exact h
   | cons p r ih =>
    obtain ⟨i, v⟩ := p
    intro a h
    unfold Instr.fill at h ⊢
    cases e : pl[i]? with
    | none => simp only [e] at h; cases h
    | some p =>
     have := h2 i p e; subst this
     simp only [e] at h ⊢
     split at h
     ·cases h
     ·rename_i hh; rw [if_neg hh]; exact ih _ h
  rw [key _ _ h]; rfl
def plOk (k : Nat) : Nat → List (Nat × Nat) → Bool
 | _, [] => true
 | i, (a, b) :: r => Nat.beq a (i * k) && Nat.beq b k && plOk k (i + 1) r
theorem plOk_spec {k : Nat} : ∀ (pl : List (Nat × Nat)) (i : Nat), plOk k i pl = true → ∀ j p, pl[j]? = some p → p = ((i + j) * k, k)
 | [], _, _, j, p, h => by simp at h
 | (a, b) :: r, i, hk, j, p, h => by
  simp only [plOk, Bool.and_eq_true] at hk
  obtain ⟨⟨h1, h2⟩, h3⟩ := hk
  cases j with
  | zero =>
   simp at h; subst h
   rw [Nat.eq_of_beq_eq_true h1, Nat.eq_of_beq_eq_true h2]; simp
  | succ j =>
   have := plOk_spec r (i + 1) h3 j p (by simpa using h)
   rw [this, show i + 1 + j = i + (j + 1) by omega]
theorem Bld.arrB {P : Program} {T n E k : Nat} {z : List Value} {pl : List (Nat × Nat)} [hz : Zr P T z] [ha : Arr P T n E k] (h : plOk k 0 pl = true) : Bld P T z pl :=
 Bld.arr fun i p hp => by have := plOk_spec pl 0 h i p hp; simpa using this
def evp (L : Sl) : List (Nat × Operand) → Option (List (Nat × Value))
 | [] => some []
 | (i, x) :: r => match Bk.ev L x with
  | some v => match evp L r with
   | some vs => some ((i, v) :: vs)
   | none => none
  | none => none
theorem Fit.evp {n : Nat} {L : Sl} {a : Act} (f : Fit n L a) : ∀ {xs : List (Nat × Operand)} {vs : List (Nat × Value)}, Bk.evp L xs = some vs → (xs.map fun (p : Nat × Operand) => (p.1, a.eval p.2)) = vs
 | [], vs, h => by simp [Bk.evp] at h; simp [h]
 | (i, x) :: r, vs, h => by
  simp only [Bk.evp] at h
  split at h
  ·rename_i v hv
   split at h
   ·rename_i us hus; cases h; simp [f.ev hv, f.evp hus]
   ·cases h
  ·cases h
end Go.Bk

namespace Go.Bk

def Sl' (E k : Nat) (v : Value) (n : Nat) (xs : List Value) : Asn := fun h =>
 xs.length = n * k ∧ ((v = .slice none 0 0 ∧ n = 0) ∨ ∃ b cap rest, v = .slice (some ⟨b, 0, none⟩) n cap ∧ (xs ++ rest).length = cap * k ∧ n ≤ cap ∧ h b = some (cel (xs ++ rest) E))

theorem SbL.app {cs vs : List Value} {off k : Nat} (h : SbL cs off k vs) (rest : List Value) : SbL (cs ++ rest) off k vs := ⟨by have := h.sub.1; simp; omega, by
 have := h.sub; rw [List.drop_append_of_le_length (by omega), List.take_append_of_le_length (by simp; omega)]; exact this.2⟩
theorem GtL.app {cs : List Value} {off : Nat} {v : Value} (h : GtL cs off v) (rest : List Value) : GtL (cs ++ rest) off v := ⟨by
 have := h.gt; rw [List.getElem?_append_left]; exact this
 obtain ⟨hlt, _⟩ := List.getElem?_eq_some_iff.1 this; exact hlt⟩
theorem StL.app {cs vs cs' : List Value} {off : Nat} (h : StL cs off vs cs') (rest : List Value) : StL (cs ++ rest) off vs (cs' ++ rest) := ⟨by have := h.st.1; simp; omega, by
 obtain ⟨h1, h2⟩ := h.st
 rw [h2, List.take_append_of_le_length (by omega), List.drop_append_of_le_length (by omega)]; simp⟩
theorem StL.len {cs vs cs' : List Value} {off : Nat} (h : StL cs off vs cs') : cs'.length = cs.length := by
 obtain ⟨h1, h2⟩ := h.st
 rw [h2]; simp; omega
theorem Wd.setAt {w0 w : World} {h0 h : Hp} {Γ : List Asn} {b : Nat} {o o' : Obj} (ag : Agr w h) (fr : Fr w0 h0 w h) (p1 : h b = some o) (p2 : star Γ (upd h b o')) : Wd w0 h0 Γ (setB w b o') := by
 have hlt := ag.lt (b := b) (by rw [p1]; simp)
 refine ⟨upd h b o', p2, ?_, ⟨fr.os, fr.tape, fr.output, fr.drawn, by have := fr.size; simp [setB]; exact this, fun c hc h0c => ?_, fun c hc => ?_⟩⟩
 ·intro c x hx
  by_cases g : c = b
  ·simp only [upd, if_pos g] at hx; cases hx; simp [setB, g, hlt]
  ·simp only [upd, if_neg g] at hx
   simp only [setB]; rw [Array.getElem?_setIfInBounds_ne (by omega)]; exact ag c x hx
 ·have : c ≠ b := fun e => by
   subst e
   rcases fr.own c (by rw [p1]; simp) with g | g
   ·exact g h0c
   ·omega
  simp only [setB]; rw [Array.getElem?_setIfInBounds_ne (by omega)]; exact fr.old c hc h0c
 ·by_cases g : c = b
  ·subst g; exact fr.own c (by rw [p1]; simp)
  ·simp only [upd, if_neg g] at hc; exact fr.own c hc
class PtC (Γ : List Asn) (b : Nat) (cs : outParam (List Value)) (K : outParam (List Value → List Asn)) : Prop where
 at' : ∀ h, star Γ h → ∃ rest T, h b = some (cel (cs ++ rest) T) ∧ ∀ cs', cs'.length = cs.length → star (K cs') (upd h b (cel (cs' ++ rest) T))
instance PtC.here (Γ : List Asn) (b : Nat) (cs : List Value) (T : Nat) : PtC (pt b (cel cs T) :: Γ) b cs (fun cs' => pt b (cel cs' T) :: Γ) := ⟨fun h s => by
 obtain ⟨h1, h2⟩ := PtAt.here b (cel cs T) Γ h s
 exact ⟨[], T, by simpa using h1, fun cs' _ => by simpa using h2 (cel cs' T)⟩⟩
instance (priority := low) PtC.there (A : Asn) (Γ : List Asn) (b : Nat) (cs : List Value) (K : List Value → List Asn) [h : PtC Γ b cs K] : PtC (A :: Γ) b cs (fun cs' => A :: K cs') := ⟨fun hp s => by
 obtain ⟨h1, h2, e, d, a, s⟩ := s
 obtain ⟨rest, T, p1, p2⟩ := h.at' h2 s
 have hn : h1 b = none := by
  rcases d b with e | e
  ·exact e
  ·rw [p1] at e; cases e
 subst e
 refine ⟨rest, T, by rw [un_right hn]; exact p1, fun cs' hl => ⟨h1, upd h2 b _, ?_, ?_, a, p2 cs' hl⟩⟩
 ·funext c; unfold upd un; by_cases g : c = b
  ·subst g; simp [hn]
  ·simp [g]
 ·intro c; by_cases g : c = b
  ·left; rw [g]; exact hn
  ·simp only [upd, if_neg g]; exact d c⟩
instance PtC.slice (Γ : List Asn) (b m c E k : Nat) (cs : List Value) : PtC (Sl' E k (.slice (some ⟨b, 0, none⟩) m c) m cs :: Γ) b cs (fun cs' => Sl' E k (.slice (some ⟨b, 0, none⟩) m c) m cs' :: Γ) := ⟨fun h s => by
 obtain ⟨h1, h2, e, d, ⟨hl, hh⟩, s2⟩ := s
 rcases hh with ⟨e1, _⟩ | ⟨b', cap, rest, e1, e2, e3, e4⟩
 ·cases e1
 ·cases e1
  have hP := PtAt.here b (cel (cs ++ rest) E) Γ h ⟨h1, h2, e, d, e4, s2⟩
  refine ⟨rest, E, hP.1, fun cs' hl' => ?_⟩
  exact star_head (fun k hk => ⟨by rw [hl', hl], .inr ⟨b, c, rest, rfl, by rw [List.length_append, hl', ← List.length_append, e2], e3, hk⟩⟩) (hP.2 (cel (cs' ++ rest) E))⟩
theorem PtC.get {Γ : List Asn} {b : Nat} {cs : List Value} {K : List Value → List Asn} (p : PtC Γ b cs K) {w0 : World} {h0 : Hp} {w : World} (s : Wd w0 h0 Γ w) :
  ∃ rest T, w.heap[b]? = some (cel (cs ++ rest) T) ∧ ∀ cs', cs'.length = cs.length → Wd w0 h0 (K cs') (setB w b (cel (cs' ++ rest) T)) := by
 obtain ⟨h, st, ag, fr⟩ := s
 obtain ⟨rest, T, p1, p2⟩ := p.at' h st
 exact ⟨rest, T, ag b _ p1, fun cs' hl => Wd.setAt ag fr p1 (p2 cs' hl)⟩
theorem PtC.rdS {P : Program} {T : TypeId} [a : Sc P T] {Γ : List Asn} {b off : Nat} {cs : List Value} {v : Value} {K : List Value → List Asn} (p : PtC Γ b cs K) {w0 : World} {h0 : Hp} {w : World} (s : Wd w0 h0 Γ w) [hv : GtL cs off v] :
  (loadVar T ⟨b, off, none⟩).run P w = .ok v w := by
 obtain ⟨rest, T', e, _⟩ := p.get s
 exact loadVar_sc e (hv.app rest).gt
theorem PtC.rdA {P : Program} {T k : Nat} [a : Ag P T k] {Γ : List Asn} {b off : Nat} {cs vs : List Value} {K : List Value → List Asn} (p : PtC Γ b cs K) {w0 : World} {h0 : Hp} {w : World} (s : Wd w0 h0 Γ w) [hv : SbL cs off k vs] :
  (loadVar T ⟨b, off, none⟩).run P w = .ok (.agg vs.toArray) w := by
 obtain ⟨rest, T', e, _⟩ := p.get s
 have := hv.app rest
 exact loadVar_agg e
theorem PtC.wrS {P : Program} {T : TypeId} [a : Sc P T] {Γ : List Asn} {b off : Nat} {cs cs' : List Value} {v : Value} {K : List Value → List Asn} (p : PtC Γ b cs K) {w0 : World} {h0 : Hp} {w : World} (s : Wd w0 h0 Γ w) (hv : sca v = true) [hs : StL cs off [v] cs'] :
  ∃ w', (storeVar T ⟨b, off, none⟩ v).run P w = .ok () w' ∧ Wd w0 h0 (K cs') w' := by
 obtain ⟨rest, T', e, k⟩ := p.get s
 have := hs.app rest
 exact ⟨_, storeVar_sc e hv, k cs' hs.len⟩
theorem PtC.wrA {P : Program} {T k : Nat} [a : Ag P T k] {Γ : List Asn} {b off : Nat} {cs vs cs' : List Value} {K : List Value → List Asn} (p : PtC Γ b cs K) {w0 : World} {h0 : Hp} {w : World} (s : Wd w0 h0 Γ w) (hm : vs.length = k) (hv : vs.all sca = true) [hs : StL cs off vs cs'] :
  ∃ w', (storeVar T ⟨b, off, none⟩ (.agg vs.toArray)).run P w = .ok () w' ∧ Wd w0 h0 (K cs') w' := by
 obtain ⟨rest, T', e, k⟩ := p.get s
 have := hs.app rest
 exact ⟨_, storeVar_agg e hm hv, k cs' hs.len⟩

class NAdd (a b : Nat) (r : outParam Nat) : Prop where
 ad : a + b = r
instance (priority := low) NAdd.any (a b : Nat) : NAdd a b (a + b) := ⟨rfl⟩
instance NAdd.zero (b : Nat) : NAdd 0 b b := ⟨Nat.zero_add b⟩
instance (priority := high) NAdd.none (a : Nat) : NAdd a 0 a := ⟨rfl⟩
instance : NAdd 1 1 2 := ⟨rfl⟩
instance : NAdd 2 1 3 := ⟨rfl⟩
instance : NAdd 3 1 4 := ⟨rfl⟩
instance : NAdd 10 1 11 := ⟨rfl⟩
instance : NAdd 10 2 12 := ⟨rfl⟩
instance : NAdd 10 3 13 := ⟨rfl⟩
theorem wrap64_of {n : Int} (h1 : -9223372036854775808 ≤ n) (h2 : n ≤ 9223372036854775807) : IntKind.i64.wrap n = n := by
 unfold IntKind.wrap
 simp only [IntKind.bits, IntKind.signed, Bool.true_and]
 split
 ·rename_i h; simp at h; omega
 ·rename_i h; simp at h; omega
theorem wrapU8_of {n : Int} (h1 : 0 ≤ n) (h2 : n ≤ 255) : IntKind.u8.wrap n = n := by
 unfold IntKind.wrap
 simp only [IntKind.bits, IntKind.signed, Bool.false_and]
 simp; omega
theorem wrapU64_of {n : Int} (h1 : 0 ≤ n) (h2 : n ≤ 18446744073709551615) : IntKind.u64.wrap n = n := by
 unfold IntKind.wrap
 simp only [IntKind.bits, IntKind.signed, Bool.false_and]
 simp; omega

def bitsV (op : BinOp) (k : IntKind) (x y : Int) : Int :=
 let a := BitVec.ofInt k.bits x
 let b := BitVec.ofInt k.bits y
 match op with
 | .and => k.wrap (a &&& b).toNat
 | .or => k.wrap (a ||| b).toNat
 | .xor => k.wrap (a ^^^ b).toNat
 | _ => 0
section
variable {P : Program}
theorem toList_eq {a b : ByteArray} : a.toList = b.toList ↔ a = b := ⟨fun h => by
 have h' : a.data.toList = b.data.toList := by rw [← Go.Lib.toList_data a, ← Go.Lib.toList_data b]; exact h
 cases a; cases b; simp at h'; simp [h'], fun h => by rw [h]⟩
theorem evc (a : Act) (v : Value) : a.eval (.const v) = v := rfl
theorem eqIn_ptr0 {d T e : Nat} (h : P.underlying T = some (.pointer e)) (w : World) : (Op.equalIn (d + 1) T (.pointer none) (.pointer none)).run P w = .ok true w := by simp [Op.equalIn, run_underlying' h w]
theorem eqIn_ptr1 {d T e : Nat} (h : P.underlying T = some (.pointer e)) (a : Addr) (w : World) : (Op.equalIn (d + 1) T (.pointer (some a)) (.pointer none)).run P w = .ok false w := by simp [Op.equalIn, run_underlying' h w]
theorem eqIn_map1 {d T : Nat} {kt et : TypeId} (h : P.underlying T = some (.map kt et)) (r : Nat) (w : World) : (Op.equalIn (d + 1) T (.map (some r)) (.map none)).run P w = .ok false w := by simp [Op.equalIn, run_underlying' h w]
theorem eqIn_ifc1 {d T : Nat} {ms : Array (String × TypeId)} (h : P.underlying T = some (.interface ms)) (u : TypeId) (v : Value) (w : World) : (Op.equalIn (d + 1) T (.iface u v) .nilIface).run P w = .ok false w := by simp [Op.equalIn, run_underlying' h w]
theorem eqIn_bool {d T : Nat} (h : P.underlying T = some .bool) (a b : Bool) (w : World) : (Op.equalIn (d + 1) T (.bool a) (.bool b)).run P w = .ok (a == b) w := by simp [Op.equalIn, run_underlying' h w]
theorem equal_of {T : TypeId} {x y : Value} {w : World} {b : Bool} (h : ∀ d, (Op.equalIn (d + 1) T x y).run P w = .ok b w) : (Op.equal T x y).run P w = .ok b w := h 9999
end
section
variable {P : Program} {w0 : World} {h0 : Hp} {q : Bool} {ops : Array Oper} {K : Act → World → Prop} {Q : Exit → Act → World → Prop} {rest : List Oper} {n : Nat} {L : Sl} {Γ Γ' : List Asn}
variable {d : Tmp} {ty : TypeId} {pos : String} {af : Array Edge}

theorem XL.move {x : Operand} {v : Value} (hx : ev L x = some v) (hd : Nat.blt d n = true) (k : XL P w0 h0 q ops K Q rest n ((d, v) :: L) Γ) : XL P w0 h0 q ops K Q (⟨some d, .move x, ty, pos, af, none⟩ :: rest) n L Γ :=
 XL.value (fun a w f s => by simp [execOp, f.ev hx]) hd k
theorem XL.assign {x : Operand} {v : Value} (hx : ev L x = some v) (hd : Nat.blt d n = true) (k : XL P w0 h0 q ops K Q rest n ((d, v) :: L) Γ) : XL P w0 h0 q ops K Q (⟨some d, .assign x, ty, pos, af, none⟩ :: rest) n L Γ :=
 XL.value (fun a w f s => by simp [execOp, f.ev hx]) hd k
theorem XL.pick_t {c x y : Operand} {v : Value} (hc : ev L c = some (.bool true)) (hx : ev L x = some v) (hd : Nat.blt d n = true) (k : XL P w0 h0 q ops K Q rest n ((d, v) :: L) Γ) : XL P w0 h0 q ops K Q (⟨some d, .pick c x y, ty, pos, af, none⟩ :: rest) n L Γ :=
 XL.value (fun a w f s => by simp [execOp, f.ev hc, f.ev hx, asBool]) hd k
theorem XL.pick_f {c x y : Operand} {v : Value} (hc : ev L c = some (.bool false)) (hx : ev L y = some v) (hd : Nat.blt d n = true) (k : XL P w0 h0 q ops K Q rest n ((d, v) :: L) Γ) : XL P w0 h0 q ops K Q (⟨some d, .pick c x y, ty, pos, af, none⟩ :: rest) n L Γ :=
 XL.value (fun a w f s => by simp [execOp, f.ev hc, f.ev hx, asBool]) hd k
theorem XL.extract {x : Operand} {i : Nat} {vs : List Value} {v : Value} (hx : ev L x = some (.tuple vs.toArray)) (hk : vs[i]? = some v) (hd : Nat.blt d n = true) (k : XL P w0 h0 q ops K Q rest n ((d, v) :: L) Γ) : XL P w0 h0 q ops K Q (⟨some d, .extract x i, ty, pos, af, none⟩ :: rest) n L Γ :=
 XL.value (fun a w f s => by simp [execOp, f.ev hx, Instr.extract, hk]) hd k
theorem XL.not {ty2 : TypeId} {x : Operand} {b : Bool} (hx : ev L x = some (.bool b)) (hd : Nat.blt d n = true) (k : XL P w0 h0 q ops K Q rest n ((d, .bool !b) :: L) Γ) : XL P w0 h0 q ops K Q (⟨some d, .unOp .not ty2 x, ty, pos, af, none⟩ :: rest) n L Γ :=
 XL.value (fun a w f s => by simp [execOp, f.ev hx, Op.unary]) hd k
theorem XL.not_t {ty2 : TypeId} {x : Operand} (hx : ev L x = some (.bool true)) (hd : Nat.blt d n = true) (k : XL P w0 h0 q ops K Q rest n ((d, .bool false) :: L) Γ) : XL P w0 h0 q ops K Q (⟨some d, .unOp .not ty2 x, ty, pos, af, none⟩ :: rest) n L Γ :=
 XL.value (fun a w f s => by simp [execOp, f.ev hx, Op.unary]) hd k
theorem XL.not_f {ty2 : TypeId} {x : Operand} (hx : ev L x = some (.bool false)) (hd : Nat.blt d n = true) (k : XL P w0 h0 q ops K Q rest n ((d, .bool true) :: L) Γ) : XL P w0 h0 q ops K Q (⟨some d, .unOp .not ty2 x, ty, pos, af, none⟩ :: rest) n L Γ :=
 XL.value (fun a w f s => by simp [execOp, f.ev hx, Op.unary]) hd k
theorem XL.nilCheck {x : Operand} {ad : Addr} (hx : ev L x = some (.pointer (some ad))) (hd : Nat.blt d n = true) (k : XL P w0 h0 q ops K Q rest n ((d, .pointer (some ad)) :: L) Γ) : XL P w0 h0 q ops K Q (⟨some d, .nilCheck x, ty, pos, af, none⟩ :: rest) n L Γ :=
 XL.value (fun a w f s => by simp [execOp, f.ev hx]) hd k
theorem XL.fieldAddr {x : Operand} {T i b o off t r : Nat} (hx : ev L x = some (.pointer (some ⟨b, o, none⟩))) [hf : FldOf P T i off t] [ha : NAdd o off r] (hd : Nat.blt d n = true) (k : XL P w0 h0 q ops K Q rest n ((d, .pointer (some ⟨b, r, none⟩)) :: L) Γ) : XL P w0 h0 q ops K Q (⟨some d, .fieldAddr T x i, ty, pos, af, none⟩ :: rest) n L Γ :=
 XL.value (fun a w f s => by simp only [execOp, f.ev hx]; rw [ok_of (hf.addr w b o), ha.ad]; rfl) hd k
theorem XL.field {x : Operand} {T i off t : Nat} {cs : List Value} {v : Value} (hx : ev L x = some (.agg cs.toArray)) [hf : FldOf P T i off t] [ht : Sc P t] [hv : GtL cs off v] (hd : Nat.blt d n = true) (k : XL P w0 h0 q ops K Q rest n ((d, v) :: L) Γ) : XL P w0 h0 q ops K Q (⟨some d, .field T x i, ty, pos, af, none⟩ :: rest) n L Γ :=
 XL.value (fun a w f s => by simp only [execOp, f.ev hx]; rw [Sem.run_bind, hf.val w]; unfold part; rw [ok_of (ht.agg w)]; simp [hv.gt]) hd k
theorem XL.load {x : Operand} {T b o : Nat} {cs : List Value} {v : Value} {KK : List Value → List Asn} (hx : ev L x = some (.pointer (some ⟨b, o, none⟩))) [hp : PtC Γ b cs KK] [ht : Sc P T] [hv : GtL cs o v] (hd : Nat.blt d n = true) (k : XL P w0 h0 q ops K Q rest n ((d, v) :: L) Γ) : XL P w0 h0 q ops K Q (⟨some d, .load T x, ty, pos, af, none⟩ :: rest) n L Γ :=
 XL.value (fun a w f s => by simp only [execOp, f.ev hx, Instr.loadAt, Instr.sureAddr, pure_bind]; rw [ok_of (hp.rdS s)]; rfl) hd k
theorem XL.loadA {x : Operand} {T b o k : Nat} {cs vs : List Value} {KK : List Value → List Asn} (hx : ev L x = some (.pointer (some ⟨b, o, none⟩))) [hp : PtC Γ b cs KK] [ht : Ag P T k] [hs : SbL cs o k vs] (hd : Nat.blt d n = true) (k : XL P w0 h0 q ops K Q rest n ((d, .agg vs.toArray) :: L) Γ) : XL P w0 h0 q ops K Q (⟨some d, .load T x, ty, pos, af, none⟩ :: rest) n L Γ :=
 XL.value (fun a w f s => by simp only [execOp, f.ev hx, Instr.loadAt, Instr.sureAddr, pure_bind]; rw [ok_of (hp.rdA s)]; rfl) hd k
theorem XL.makeIface {x : Operand} {T : Nat} {v : Value} {dsc : TypeDesc} (hx : ev L x = some v) (hT : P.underlying T = some dsc) (hi : (match dsc with | .interface _ => false | _ => true) = true) (hd : Nat.blt d n = true) (k : XL P w0 h0 q ops K Q rest n ((d, .iface T v) :: L) Γ) : XL P w0 h0 q ops K Q (⟨some d, .makeInterface T x, ty, pos, af, none⟩ :: rest) n L Γ :=
 XL.value (fun a w f s => by simp only [execOp, f.ev hx, Instr.makeInterface]; rw [bind_assoc, ok_of (run_underlying' hT w)]; cases dsc <;> first | rfl | cases hi) hd k
theorem XL.makeFunc {fn : Fn} {l1 l2 : List Operand} {v1 v2 : List Value} (h1 : evs L l1 = some v1) (h2 : evs L l2 = some v2) (hd : Nat.blt d n = true) (k : XL P w0 h0 q ops K Q rest n ((d, .func fn v1.toArray v2.toArray) :: L) Γ) : XL P w0 h0 q ops K Q (⟨some d, .makeFunc fn l1.toArray l2.toArray, ty, pos, af, none⟩ :: rest) n L Γ :=
 XL.value (fun a w f s => by simp [execOp, Instr.makeFunc, f.evs h1, f.evs h2]) hd k
theorem XL.build {T : Nat} {parts : List (Nat × Operand)} {z cs : List Value} {pl : List (Nat × Nat)} {pv : List (Nat × Value)} (hv : evp L parts = some pv) [hb : Bld P T z pl] [hf : FilT z pl pv cs] (hd : Nat.blt d n = true) (k : XL P w0 h0 q ops K Q rest n ((d, .agg cs.toArray) :: L) Γ) : XL P w0 h0 q ops K Q (⟨some d, .build T parts.toArray, ty, pos, af, none⟩ :: rest) n L Γ :=
 XL.value (fun a w f s => by simp only [execOp, List.map_toArray]; rw [ok_of (hb.run w _ _ (by simp only [f.evp hv]; exact hf.fi))]; rfl) hd k
theorem XL.add_i64 {x y : Operand} {T T2 : Nat} {a b : Int} (hx : ev L x = some (.int .i64 a)) (hy : ev L y = some (.int .i64 b)) (h1 : -9223372036854775808 ≤ a + b) (h2 : a + b ≤ 9223372036854775807) (hd : Nat.blt d n = true) (k : XL P w0 h0 q ops K Q rest n ((d, .int .i64 (a + b)) :: L) Γ) : XL P w0 h0 q ops K Q (⟨some d, .binOp .add T x y T2, ty, pos, af, none⟩ :: rest) n L Γ :=
 XL.value (fun a w f s => by simp [execOp, f.ev hx, f.ev hy, eqGuard, binOp, Op.intArith, wrap64_of h1 h2]) hd k
theorem XL.add_u8 {x y : Operand} {T T2 : Nat} {a b : Int} (hx : ev L x = some (.int .u8 a)) (hy : ev L y = some (.int .u8 b)) (h1 : 0 ≤ a + b) (h2 : a + b ≤ 255) (hd : Nat.blt d n = true) (k : XL P w0 h0 q ops K Q rest n ((d, .int .u8 (a + b)) :: L) Γ) : XL P w0 h0 q ops K Q (⟨some d, .binOp .add T x y T2, ty, pos, af, none⟩ :: rest) n L Γ :=
 XL.value (fun a w f s => by simp [execOp, f.ev hx, f.ev hy, eqGuard, binOp, Op.intArith, wrapU8_of h1 h2]) hd k
theorem XL.addw {x y : Operand} {T T2 : Nat} {k : IntKind} {a b : Int} (hx : ev L x = some (.int k a)) (hy : ev L y = some (.int k b)) (hd : Nat.blt d n = true) (k : XL P w0 h0 q ops K Q rest n ((d, .int k (k.wrap (a + b))) :: L) Γ) : XL P w0 h0 q ops K Q (⟨some d, .binOp .add T x y T2, ty, pos, af, none⟩ :: rest) n L Γ :=
 XL.value (fun a w f s => by simp [execOp, f.ev hx, f.ev hy, eqGuard, binOp, Op.intArith]) hd k
theorem XL.sub_i64 {x y : Operand} {T T2 : Nat} {a b : Int} (hx : ev L x = some (.int .i64 a)) (hy : ev L y = some (.int .i64 b)) (h1 : -9223372036854775808 ≤ a - b) (h2 : a - b ≤ 9223372036854775807) (hd : Nat.blt d n = true) (k : XL P w0 h0 q ops K Q rest n ((d, .int .i64 (a - b)) :: L) Γ) : XL P w0 h0 q ops K Q (⟨some d, .binOp .sub T x y T2, ty, pos, af, none⟩ :: rest) n L Γ :=
 XL.value (fun a w f s => by simp [execOp, f.ev hx, f.ev hy, eqGuard, binOp, Op.intArith, wrap64_of h1 h2]) hd k
theorem XL.sub_u8 {x y : Operand} {T T2 : Nat} {a b : Int} (hx : ev L x = some (.int .u8 a)) (hy : ev L y = some (.int .u8 b)) (h1 : 0 ≤ a - b) (h2 : a - b ≤ 255) (hd : Nat.blt d n = true) (k : XL P w0 h0 q ops K Q rest n ((d, .int .u8 (a - b)) :: L) Γ) : XL P w0 h0 q ops K Q (⟨some d, .binOp .sub T x y T2, ty, pos, af, none⟩ :: rest) n L Γ :=
 XL.value (fun a w f s => by simp [execOp, f.ev hx, f.ev hy, eqGuard, binOp, Op.intArith, wrapU8_of h1 h2]) hd k
theorem XL.subw {x y : Operand} {T T2 : Nat} {k : IntKind} {a b : Int} (hx : ev L x = some (.int k a)) (hy : ev L y = some (.int k b)) (hd : Nat.blt d n = true) (k : XL P w0 h0 q ops K Q rest n ((d, .int k (k.wrap (a - b))) :: L) Γ) : XL P w0 h0 q ops K Q (⟨some d, .binOp .sub T x y T2, ty, pos, af, none⟩ :: rest) n L Γ :=
 XL.value (fun a w f s => by simp [execOp, f.ev hx, f.ev hy, eqGuard, binOp, Op.intArith]) hd k
theorem XL.mul_i64 {x y : Operand} {T T2 : Nat} {a b : Int} (hx : ev L x = some (.int .i64 a)) (hy : ev L y = some (.int .i64 b)) (h1 : -9223372036854775808 ≤ a * b) (h2 : a * b ≤ 9223372036854775807) (hd : Nat.blt d n = true) (k : XL P w0 h0 q ops K Q rest n ((d, .int .i64 (a * b)) :: L) Γ) : XL P w0 h0 q ops K Q (⟨some d, .binOp .mul T x y T2, ty, pos, af, none⟩ :: rest) n L Γ :=
 XL.value (fun a w f s => by simp [execOp, f.ev hx, f.ev hy, eqGuard, binOp, Op.intArith, wrap64_of h1 h2]) hd k
theorem XL.mulw {x y : Operand} {T T2 : Nat} {k : IntKind} {a b : Int} (hx : ev L x = some (.int k a)) (hy : ev L y = some (.int k b)) (hd : Nat.blt d n = true) (k : XL P w0 h0 q ops K Q rest n ((d, .int k (k.wrap (a * b))) :: L) Γ) : XL P w0 h0 q ops K Q (⟨some d, .binOp .mul T x y T2, ty, pos, af, none⟩ :: rest) n L Γ :=
 XL.value (fun a w f s => by simp [execOp, f.ev hx, f.ev hy, eqGuard, binOp, Op.intArith]) hd k
theorem XL.lss_t {x y : Operand} {T T2 : Nat} {k : IntKind} {a b : Int} (hx : ev L x = some (.int k a)) (hy : ev L y = some (.int k b)) (h : a < b) (hd : Nat.blt d n = true) (k : XL P w0 h0 q ops K Q rest n ((d, .bool true) :: L) Γ) : XL P w0 h0 q ops K Q (⟨some d, .binOp .lss T x y T2, ty, pos, af, none⟩ :: rest) n L Γ :=
 XL.value (fun a w f s => by simp [execOp, f.ev hx, f.ev hy, eqGuard, binOp, Op.intCmp, h]) hd k
theorem XL.lss_f {x y : Operand} {T T2 : Nat} {k : IntKind} {a b : Int} (hx : ev L x = some (.int k a)) (hy : ev L y = some (.int k b)) (h : ¬ a < b) (hd : Nat.blt d n = true) (k : XL P w0 h0 q ops K Q rest n ((d, .bool false) :: L) Γ) : XL P w0 h0 q ops K Q (⟨some d, .binOp .lss T x y T2, ty, pos, af, none⟩ :: rest) n L Γ :=
 XL.value (fun a w f s => by simp [execOp, f.ev hx, f.ev hy, eqGuard, binOp, Op.intCmp, h]) hd k
theorem XL.lss_s {x y : Operand} {T T2 : Nat} {k : IntKind} {a b : Int} (hx : ev L x = some (.int k a)) (hy : ev L y = some (.int k b)) (hd : Nat.blt d n = true) (kt : a < b → XL P w0 h0 q ops K Q rest n ((d, .bool true) :: L) Γ) (kf : ¬ a < b → XL P w0 h0 q ops K Q rest n ((d, .bool false) :: L) Γ) : XL P w0 h0 q ops K Q (⟨some d, .binOp .lss T x y T2, ty, pos, af, none⟩ :: rest) n L Γ := by
 by_cases h : a < b
 ·exact XL.lss_t hx hy h hd (kt h)
 ·exact XL.lss_f hx hy h hd (kf h)
theorem XL.leq_t {x y : Operand} {T T2 : Nat} {k : IntKind} {a b : Int} (hx : ev L x = some (.int k a)) (hy : ev L y = some (.int k b)) (h : a ≤ b) (hd : Nat.blt d n = true) (k : XL P w0 h0 q ops K Q rest n ((d, .bool true) :: L) Γ) : XL P w0 h0 q ops K Q (⟨some d, .binOp .leq T x y T2, ty, pos, af, none⟩ :: rest) n L Γ :=
 XL.value (fun a w f s => by simp [execOp, f.ev hx, f.ev hy, eqGuard, binOp, Op.intCmp, h]) hd k
theorem XL.leq_f {x y : Operand} {T T2 : Nat} {k : IntKind} {a b : Int} (hx : ev L x = some (.int k a)) (hy : ev L y = some (.int k b)) (h : ¬ a ≤ b) (hd : Nat.blt d n = true) (k : XL P w0 h0 q ops K Q rest n ((d, .bool false) :: L) Γ) : XL P w0 h0 q ops K Q (⟨some d, .binOp .leq T x y T2, ty, pos, af, none⟩ :: rest) n L Γ :=
 XL.value (fun a w f s => by simp [execOp, f.ev hx, f.ev hy, eqGuard, binOp, Op.intCmp, h]) hd k
theorem XL.leq_s {x y : Operand} {T T2 : Nat} {k : IntKind} {a b : Int} (hx : ev L x = some (.int k a)) (hy : ev L y = some (.int k b)) (hd : Nat.blt d n = true) (kt : a ≤ b → XL P w0 h0 q ops K Q rest n ((d, .bool true) :: L) Γ) (kf : ¬ a ≤ b → XL P w0 h0 q ops K Q rest n ((d, .bool false) :: L) Γ) : XL P w0 h0 q ops K Q (⟨some d, .binOp .leq T x y T2, ty, pos, af, none⟩ :: rest) n L Γ := by
 by_cases h : a ≤ b
 ·exact XL.leq_t hx hy h hd (kt h)
 ·exact XL.leq_f hx hy h hd (kf h)
theorem XL.gtr_t {x y : Operand} {T T2 : Nat} {k : IntKind} {a b : Int} (hx : ev L x = some (.int k a)) (hy : ev L y = some (.int k b)) (h : b < a) (hd : Nat.blt d n = true) (k : XL P w0 h0 q ops K Q rest n ((d, .bool true) :: L) Γ) : XL P w0 h0 q ops K Q (⟨some d, .binOp .gtr T x y T2, ty, pos, af, none⟩ :: rest) n L Γ :=
 XL.value (fun a w f s => by simp [execOp, f.ev hx, f.ev hy, eqGuard, binOp, Op.intCmp, h]) hd k
theorem XL.gtr_f {x y : Operand} {T T2 : Nat} {k : IntKind} {a b : Int} (hx : ev L x = some (.int k a)) (hy : ev L y = some (.int k b)) (h : ¬ b < a) (hd : Nat.blt d n = true) (k : XL P w0 h0 q ops K Q rest n ((d, .bool false) :: L) Γ) : XL P w0 h0 q ops K Q (⟨some d, .binOp .gtr T x y T2, ty, pos, af, none⟩ :: rest) n L Γ :=
 XL.value (fun a w f s => by simp [execOp, f.ev hx, f.ev hy, eqGuard, binOp, Op.intCmp, h]) hd k
theorem XL.gtr_s {x y : Operand} {T T2 : Nat} {k : IntKind} {a b : Int} (hx : ev L x = some (.int k a)) (hy : ev L y = some (.int k b)) (hd : Nat.blt d n = true) (kt : b < a → XL P w0 h0 q ops K Q rest n ((d, .bool true) :: L) Γ) (kf : ¬ b < a → XL P w0 h0 q ops K Q rest n ((d, .bool false) :: L) Γ) : XL P w0 h0 q ops K Q (⟨some d, .binOp .gtr T x y T2, ty, pos, af, none⟩ :: rest) n L Γ := by
 by_cases h : b < a
 ·exact XL.gtr_t hx hy h hd (kt h)
 ·exact XL.gtr_f hx hy h hd (kf h)
theorem XL.geq_t {x y : Operand} {T T2 : Nat} {k : IntKind} {a b : Int} (hx : ev L x = some (.int k a)) (hy : ev L y = some (.int k b)) (h : b ≤ a) (hd : Nat.blt d n = true) (k : XL P w0 h0 q ops K Q rest n ((d, .bool true) :: L) Γ) : XL P w0 h0 q ops K Q (⟨some d, .binOp .geq T x y T2, ty, pos, af, none⟩ :: rest) n L Γ :=
 XL.value (fun a w f s => by simp [execOp, f.ev hx, f.ev hy, eqGuard, binOp, Op.intCmp, h]) hd k
theorem XL.geq_f {x y : Operand} {T T2 : Nat} {k : IntKind} {a b : Int} (hx : ev L x = some (.int k a)) (hy : ev L y = some (.int k b)) (h : ¬ b ≤ a) (hd : Nat.blt d n = true) (k : XL P w0 h0 q ops K Q rest n ((d, .bool false) :: L) Γ) : XL P w0 h0 q ops K Q (⟨some d, .binOp .geq T x y T2, ty, pos, af, none⟩ :: rest) n L Γ :=
 XL.value (fun a w f s => by simp [execOp, f.ev hx, f.ev hy, eqGuard, binOp, Op.intCmp, h]) hd k
theorem XL.geq_s {x y : Operand} {T T2 : Nat} {k : IntKind} {a b : Int} (hx : ev L x = some (.int k a)) (hy : ev L y = some (.int k b)) (hd : Nat.blt d n = true) (kt : b ≤ a → XL P w0 h0 q ops K Q rest n ((d, .bool true) :: L) Γ) (kf : ¬ b ≤ a → XL P w0 h0 q ops K Q rest n ((d, .bool false) :: L) Γ) : XL P w0 h0 q ops K Q (⟨some d, .binOp .geq T x y T2, ty, pos, af, none⟩ :: rest) n L Γ := by
 by_cases h : b ≤ a
 ·exact XL.geq_t hx hy h hd (kt h)
 ·exact XL.geq_f hx hy h hd (kf h)
theorem XL.eql_t {x y : Operand} {T T2 : Nat} {k : IntKind} {a b : Int} (hx : ev L x = some (.int k a)) (hy : ev L y = some (.int k b)) (h : a = b) (hd : Nat.blt d n = true) (k : XL P w0 h0 q ops K Q rest n ((d, .bool true) :: L) Γ) : XL P w0 h0 q ops K Q (⟨some d, .binOp .eql T x y T2, ty, pos, af, none⟩ :: rest) n L Γ :=
 XL.value (fun a w f s => by simp [execOp, f.ev hx, f.ev hy, eqGuard, binOp, Op.intCmp, h]) hd k
theorem XL.eql_f {x y : Operand} {T T2 : Nat} {k : IntKind} {a b : Int} (hx : ev L x = some (.int k a)) (hy : ev L y = some (.int k b)) (h : ¬ a = b) (hd : Nat.blt d n = true) (k : XL P w0 h0 q ops K Q rest n ((d, .bool false) :: L) Γ) : XL P w0 h0 q ops K Q (⟨some d, .binOp .eql T x y T2, ty, pos, af, none⟩ :: rest) n L Γ :=
 XL.value (fun a w f s => by simp [execOp, f.ev hx, f.ev hy, eqGuard, binOp, Op.intCmp, h]) hd k
theorem XL.eql_s {x y : Operand} {T T2 : Nat} {k : IntKind} {a b : Int} (hx : ev L x = some (.int k a)) (hy : ev L y = some (.int k b)) (hd : Nat.blt d n = true) (kt : a = b → XL P w0 h0 q ops K Q rest n ((d, .bool true) :: L) Γ) (kf : ¬ a = b → XL P w0 h0 q ops K Q rest n ((d, .bool false) :: L) Γ) : XL P w0 h0 q ops K Q (⟨some d, .binOp .eql T x y T2, ty, pos, af, none⟩ :: rest) n L Γ := by
 by_cases h : a = b
 ·exact XL.eql_t hx hy h hd (kt h)
 ·exact XL.eql_f hx hy h hd (kf h)
theorem XL.neq_t {x y : Operand} {T T2 : Nat} {k : IntKind} {a b : Int} (hx : ev L x = some (.int k a)) (hy : ev L y = some (.int k b)) (h : ¬ a = b) (hd : Nat.blt d n = true) (k : XL P w0 h0 q ops K Q rest n ((d, .bool true) :: L) Γ) : XL P w0 h0 q ops K Q (⟨some d, .binOp .neq T x y T2, ty, pos, af, none⟩ :: rest) n L Γ :=
 XL.value (fun a w f s => by simp [execOp, f.ev hx, f.ev hy, eqGuard, binOp, Op.intCmp, h]) hd k
theorem XL.neq_f {x y : Operand} {T T2 : Nat} {k : IntKind} {a b : Int} (hx : ev L x = some (.int k a)) (hy : ev L y = some (.int k b)) (h : a = b) (hd : Nat.blt d n = true) (k : XL P w0 h0 q ops K Q rest n ((d, .bool false) :: L) Γ) : XL P w0 h0 q ops K Q (⟨some d, .binOp .neq T x y T2, ty, pos, af, none⟩ :: rest) n L Γ :=
 XL.value (fun a w f s => by simp [execOp, f.ev hx, f.ev hy, eqGuard, binOp, Op.intCmp, h]) hd k
theorem XL.neq_s {x y : Operand} {T T2 : Nat} {k : IntKind} {a b : Int} (hx : ev L x = some (.int k a)) (hy : ev L y = some (.int k b)) (hd : Nat.blt d n = true) (kt : ¬ a = b → XL P w0 h0 q ops K Q rest n ((d, .bool true) :: L) Γ) (kf : a = b → XL P w0 h0 q ops K Q rest n ((d, .bool false) :: L) Γ) : XL P w0 h0 q ops K Q (⟨some d, .binOp .neq T x y T2, ty, pos, af, none⟩ :: rest) n L Γ := by
 by_cases h : ¬ a = b
 ·exact XL.neq_t hx hy h hd (kt h)
 ·exact XL.neq_f hx hy (Decidable.not_not.1 h) hd (kf (Decidable.not_not.1 h))
theorem XL.and {x y : Operand} {T T2 : Nat} {k : IntKind} {a b r : Int} (hx : ev L x = some (.int k a)) (hy : ev L y = some (.int k b)) (hr : bitsV .and k a b = r) (hd : Nat.blt d n = true) (k : XL P w0 h0 q ops K Q rest n ((d, .int k r) :: L) Γ) : XL P w0 h0 q ops K Q (⟨some d, .binOp .and T x y T2, ty, pos, af, none⟩ :: rest) n L Γ :=
 XL.value (fun a w f s => by subst hr; simp [execOp, f.ev hx, f.ev hy, eqGuard, binOp, Op.intBits, bitsV]) hd k
theorem XL.or {x y : Operand} {T T2 : Nat} {k : IntKind} {a b r : Int} (hx : ev L x = some (.int k a)) (hy : ev L y = some (.int k b)) (hr : bitsV .or k a b = r) (hd : Nat.blt d n = true) (k : XL P w0 h0 q ops K Q rest n ((d, .int k r) :: L) Γ) : XL P w0 h0 q ops K Q (⟨some d, .binOp .or T x y T2, ty, pos, af, none⟩ :: rest) n L Γ :=
 XL.value (fun a w f s => by subst hr; simp [execOp, f.ev hx, f.ev hy, eqGuard, binOp, Op.intBits, bitsV]) hd k
theorem XL.xor {x y : Operand} {T T2 : Nat} {k : IntKind} {a b r : Int} (hx : ev L x = some (.int k a)) (hy : ev L y = some (.int k b)) (hr : bitsV .xor k a b = r) (hd : Nat.blt d n = true) (k : XL P w0 h0 q ops K Q rest n ((d, .int k r) :: L) Γ) : XL P w0 h0 q ops K Q (⟨some d, .binOp .xor T x y T2, ty, pos, af, none⟩ :: rest) n L Γ :=
 XL.value (fun a w f s => by subst hr; simp [execOp, f.ev hx, f.ev hy, eqGuard, binOp, Op.intBits, bitsV]) hd k
theorem XL.shl {x y : Operand} {T T2 : Nat} {k k2 : IntKind} {a b r : Int} (hx : ev L x = some (.int k a)) (hy : ev L y = some (.int k2 b)) (hb : 0 ≤ b) (hr : k.wrap (a * 2 ^ (min b.toNat k.bits)) = r) (hd : Nat.blt d n = true) (k : XL P w0 h0 q ops K Q rest n ((d, .int k r) :: L) Γ) : XL P w0 h0 q ops K Q (⟨some d, .binOp .shl T x y T2, ty, pos, af, none⟩ :: rest) n L Γ :=
 XL.value (fun a w f s => by subst hr; simp [execOp, f.ev hx, f.ev hy, eqGuard, binOp, Op.shift, if_neg (show ¬ b < 0 by omega)]) hd k
theorem XL.shr {x y : Operand} {T T2 : Nat} {k k2 : IntKind} {a b r : Int} (hx : ev L x = some (.int k a)) (hy : ev L y = some (.int k2 b)) (hb : 0 ≤ b) (hr : a.fdiv (2 ^ (min b.toNat k.bits)) = r) (hd : Nat.blt d n = true) (k : XL P w0 h0 q ops K Q rest n ((d, .int k r) :: L) Γ) : XL P w0 h0 q ops K Q (⟨some d, .binOp .shr T x y T2, ty, pos, af, none⟩ :: rest) n L Γ :=
 XL.value (fun a w f s => by subst hr; simp [execOp, f.ev hx, f.ev hy, eqGuard, binOp, Op.shift, if_neg (show ¬ b < 0 by omega)]) hd k
theorem XL.quo {x y : Operand} {T T2 : Nat} {k : IntKind} {a b r : Int} (hx : ev L x = some (.int k a)) (hy : ev L y = some (.int k b)) (hb : b ≠ 0) (hr : k.wrap (a.tdiv b) = r) (hd : Nat.blt d n = true) (k : XL P w0 h0 q ops K Q rest n ((d, .int k r) :: L) Γ) : XL P w0 h0 q ops K Q (⟨some d, .binOp .quo T x y T2, ty, pos, af, none⟩ :: rest) n L Γ :=
 XL.value (fun a w f s => by subst hr; simp [execOp, f.ev hx, f.ev hy, eqGuard, binOp, Op.intDiv, hb]) hd k
theorem XL.rem {x y : Operand} {T T2 : Nat} {k : IntKind} {a b r : Int} (hx : ev L x = some (.int k a)) (hy : ev L y = some (.int k b)) (hb : b ≠ 0) (hr : a.tmod b = r) (hd : Nat.blt d n = true) (k : XL P w0 h0 q ops K Q rest n ((d, .int k r) :: L) Γ) : XL P w0 h0 q ops K Q (⟨some d, .binOp .rem T x y T2, ty, pos, af, none⟩ :: rest) n L Γ :=
 XL.value (fun a w f s => by subst hr; simp [execOp, f.ev hx, f.ev hy, eqGuard, binOp, Op.intDiv, hb]) hd k
theorem XL.neg {x : Operand} {T : Nat} {k : IntKind} {a r : Int} (hx : ev L x = some (.int k a)) (hr : k.wrap (0 - a) = r) (hd : Nat.blt d n = true) (k : XL P w0 h0 q ops K Q rest n ((d, .int k r) :: L) Γ) : XL P w0 h0 q ops K Q (⟨some d, .unOp .neg T x, ty, pos, af, none⟩ :: rest) n L Γ :=
 XL.value (fun a w f s => by subst hr; simp [execOp, f.ev hx, Op.unary, Op.intArith]) hd k
theorem XL.strneq_t {x y : Operand} {T T2 : Nat} {s1 s2 : ByteArray} (hx : ev L x = some (.string s1)) (hy : ev L y = some (.string s2)) (h : ¬ s1 = s2) (hd : Nat.blt d n = true) (k : XL P w0 h0 q ops K Q rest n ((d, .bool true) :: L) Γ) : XL P w0 h0 q ops K Q (⟨some d, .binOp .neq T x y T2, ty, pos, af, none⟩ :: rest) n L Γ :=
 XL.value (fun a w f s => by have h' : ¬ s1.toList = s2.toList := fun e => h (toList_eq.1 e); simp [execOp, f.ev hx, f.ev hy, eqGuard, binOp, Op.stringOp, h']) hd k
theorem XL.strneq_f {x y : Operand} {T T2 : Nat} {s1 s2 : ByteArray} (hx : ev L x = some (.string s1)) (hy : ev L y = some (.string s2)) (h : s1 = s2) (hd : Nat.blt d n = true) (k : XL P w0 h0 q ops K Q rest n ((d, .bool false) :: L) Γ) : XL P w0 h0 q ops K Q (⟨some d, .binOp .neq T x y T2, ty, pos, af, none⟩ :: rest) n L Γ :=
 XL.value (fun a w f s => by simp [execOp, f.ev hx, f.ev hy, eqGuard, binOp, Op.stringOp, h]) hd k
theorem XL.pnil_eql {x : Operand} {T T2 E : Nat} (hx : ev L x = some (.pointer none)) [hT : Pty P T E] (hd : Nat.blt d n = true) (k : XL P w0 h0 q ops K Q rest n ((d, .bool true) :: L) Γ) : XL P w0 h0 q ops K Q (⟨some d, .binOp .eql T x (.const (.pointer none)) T2, ty, pos, af, none⟩ :: rest) n L Γ :=
 XL.value (fun a w f s => by have := equal_of (P := P) (w := w) fun d => eqIn_ptr0 (d := d) hT.ptr w; simp only [execOp, f.ev hx, eqGuard, binOp, evc]; simp [this]) hd k
theorem XL.pnnil_eql {x : Operand} {T T2 E : Nat} {ad : Addr} (hx : ev L x = some (.pointer (some ad))) [hT : Pty P T E] (hd : Nat.blt d n = true) (k : XL P w0 h0 q ops K Q rest n ((d, .bool false) :: L) Γ) : XL P w0 h0 q ops K Q (⟨some d, .binOp .eql T x (.const (.pointer none)) T2, ty, pos, af, none⟩ :: rest) n L Γ :=
 XL.value (fun a w f s => by have := equal_of (P := P) (w := w) fun d => eqIn_ptr1 (d := d) hT.ptr ad w; simp only [execOp, f.ev hx, eqGuard, binOp, evc]; simp [this]) hd k
theorem XL.mnnil_eql {x : Operand} {T T2 : Nat} {r : Nat} {kt et : TypeId} (hx : ev L x = some (.map (some r))) (hT : P.underlying T = some (.map kt et)) (hd : Nat.blt d n = true) (k : XL P w0 h0 q ops K Q rest n ((d, .bool false) :: L) Γ) : XL P w0 h0 q ops K Q (⟨some d, .binOp .eql T x (.const (.map none)) T2, ty, pos, af, none⟩ :: rest) n L Γ :=
 XL.value (fun a w f s => by have := equal_of (P := P) (w := w) fun d => eqIn_map1 (d := d) hT r w; simp only [execOp, f.ev hx, eqGuard, binOp, evc]; simp [this]) hd k
theorem XL.innil_eql {x : Operand} {T T2 : Nat} {u : TypeId} {v : Value} {ms : Array (String × TypeId)} (hx : ev L x = some (.iface u v)) (hT : P.underlying T = some (.interface ms)) (hd : Nat.blt d n = true) (k : XL P w0 h0 q ops K Q rest n ((d, .bool false) :: L) Γ) : XL P w0 h0 q ops K Q (⟨some d, .binOp .eql T x (.const .nilIface) T2, ty, pos, af, none⟩ :: rest) n L Γ :=
 XL.value (fun a w f s => by have := equal_of (P := P) (w := w) fun d => eqIn_ifc1 (d := d) hT u v w; simp only [execOp, f.ev hx, eqGuard, binOp, evc]; simp [this]) hd k
theorem XL.booleql {x y : Operand} {T T2 : Nat} {b1 b2 : Bool} (hx : ev L x = some (.bool b1)) (hy : ev L y = some (.bool b2)) (hT : P.underlying T = some .bool) (hd : Nat.blt d n = true) (k : XL P w0 h0 q ops K Q rest n ((d, .bool ((b1 == b2))) :: L) Γ) : XL P w0 h0 q ops K Q (⟨some d, .binOp .eql T x y T2, ty, pos, af, none⟩ :: rest) n L Γ :=
 XL.value (fun a w f s => by have := equal_of (P := P) (w := w) fun d => eqIn_bool (d := d) hT b1 b2 w; simp only [execOp, f.ev hx, f.ev hy, eqGuard, binOp]; simp [this]) hd k
theorem XL.pnil_neq {x : Operand} {T T2 E : Nat} (hx : ev L x = some (.pointer none)) [hT : Pty P T E] (hd : Nat.blt d n = true) (k : XL P w0 h0 q ops K Q rest n ((d, .bool false) :: L) Γ) : XL P w0 h0 q ops K Q (⟨some d, .binOp .neq T x (.const (.pointer none)) T2, ty, pos, af, none⟩ :: rest) n L Γ :=
 XL.value (fun a w f s => by have := equal_of (P := P) (w := w) fun d => eqIn_ptr0 (d := d) hT.ptr w; simp only [execOp, f.ev hx, eqGuard, binOp, evc]; simp [this]) hd k
theorem XL.pnnil_neq {x : Operand} {T T2 E : Nat} {ad : Addr} (hx : ev L x = some (.pointer (some ad))) [hT : Pty P T E] (hd : Nat.blt d n = true) (k : XL P w0 h0 q ops K Q rest n ((d, .bool true) :: L) Γ) : XL P w0 h0 q ops K Q (⟨some d, .binOp .neq T x (.const (.pointer none)) T2, ty, pos, af, none⟩ :: rest) n L Γ :=
 XL.value (fun a w f s => by have := equal_of (P := P) (w := w) fun d => eqIn_ptr1 (d := d) hT.ptr ad w; simp only [execOp, f.ev hx, eqGuard, binOp, evc]; simp [this]) hd k
theorem XL.mnnil_neq {x : Operand} {T T2 : Nat} {r : Nat} {kt et : TypeId} (hx : ev L x = some (.map (some r))) (hT : P.underlying T = some (.map kt et)) (hd : Nat.blt d n = true) (k : XL P w0 h0 q ops K Q rest n ((d, .bool true) :: L) Γ) : XL P w0 h0 q ops K Q (⟨some d, .binOp .neq T x (.const (.map none)) T2, ty, pos, af, none⟩ :: rest) n L Γ :=
 XL.value (fun a w f s => by have := equal_of (P := P) (w := w) fun d => eqIn_map1 (d := d) hT r w; simp only [execOp, f.ev hx, eqGuard, binOp, evc]; simp [this]) hd k
theorem XL.boolneq {x y : Operand} {T T2 : Nat} {b1 b2 : Bool} (hx : ev L x = some (.bool b1)) (hy : ev L y = some (.bool b2)) (hT : P.underlying T = some .bool) (hd : Nat.blt d n = true) (k : XL P w0 h0 q ops K Q rest n ((d, .bool (!(b1 == b2))) :: L) Γ) : XL P w0 h0 q ops K Q (⟨some d, .binOp .neq T x y T2, ty, pos, af, none⟩ :: rest) n L Γ :=
 XL.value (fun a w f s => by have := equal_of (P := P) (w := w) fun d => eqIn_bool (d := d) hT b1 b2 w; simp only [execOp, f.ev hx, f.ev hy, eqGuard, binOp]; simp [this]) hd k
theorem XL.len {x : Operand} {T E sz : Nat} {a : Option Addr} {m c : Nat} (hx : ev L x = some (.slice a m c)) [hT : Slt P T E sz] (hd : Nat.blt d n = true) (k : XL P w0 h0 q ops K Q rest n ((d, .int .i64 m) :: L) Γ) : XL P w0 h0 q ops K Q (⟨some d, .call ⟨.builtin .len, #[x], #[T]⟩, ty, pos, af, none⟩ :: rest) n L Γ :=
 XL.value (fun a w f s => by simp [execOp, resolve, invoke, builtin, f.ev hx, Builtin.len_, goInt, run_underlying' hT.slt w]) hd k
theorem XL.max2 {x y : Operand} {tys : Array TypeId} {k : IntKind} {a b r : Int} (hx : ev L x = some (.int k a)) (hy : ev L y = some (.int k b)) (hr : (if b > a then b else a) = r) (hd : Nat.blt d n = true) (k : XL P w0 h0 q ops K Q rest n ((d, .int k r) :: L) Γ) : XL P w0 h0 q ops K Q (⟨some d, .call ⟨.builtin .max, #[x, y], tys⟩, ty, pos, af, none⟩ :: rest) n L Γ :=
 XL.value (fun a w f s => by subst hr; simp [execOp, resolve, invoke, builtin, f.ev hx, f.ev hy, Builtin.max_, Builtin.max2]) hd k
theorem XL.min2 {x y : Operand} {tys : Array TypeId} {k : IntKind} {a b r : Int} (hx : ev L x = some (.int k a)) (hy : ev L y = some (.int k b)) (hr : (if b < a then b else a) = r) (hd : Nat.blt d n = true) (k : XL P w0 h0 q ops K Q rest n ((d, .int k r) :: L) Γ) : XL P w0 h0 q ops K Q (⟨some d, .call ⟨.builtin .min, #[x, y], tys⟩, ty, pos, af, none⟩ :: rest) n L Γ :=
 XL.value (fun a w f s => by subst hr; simp [execOp, resolve, invoke, builtin, f.ev hx, f.ev hy, Builtin.min_, Builtin.min2]) hd k
theorem XL.max3 {x y z : Operand} {tys : Array TypeId} {k : IntKind} {a b c r : Int} (hx : ev L x = some (.int k a)) (hy : ev L y = some (.int k b)) (hz : ev L z = some (.int k c)) (hr : (if c > (if b > a then b else a) then c else (if b > a then b else a)) = r) (hd : Nat.blt d n = true) (k : XL P w0 h0 q ops K Q rest n ((d, .int k r) :: L) Γ) : XL P w0 h0 q ops K Q (⟨some d, .call ⟨.builtin .max, #[x, y, z], tys⟩, ty, pos, af, none⟩ :: rest) n L Γ :=
 XL.value (fun a w f s => by subst hr; simp [execOp, resolve, invoke, builtin, f.ev hx, f.ev hy, f.ev hz, Builtin.max_, Builtin.max2]) hd k
theorem XL.conv {x : Operand} {T1 T2 : Nat} {k1 k2 : IntKind} {a : Int} (hx : ev L x = some (.int k1 a)) [h2 : Ity P T2 k2] (u : ∃ dsc, P.underlying T1 = some dsc) (hw : k2.wrap a = a) (hd : Nat.blt d n = true) (k : XL P w0 h0 q ops K Q rest n ((d, .int k2 a) :: L) Γ) : XL P w0 h0 q ops K Q (⟨some d, .convert T1 T2 x, ty, pos, af, none⟩ :: rest) n L Γ :=
 XL.value (fun a w f s => by obtain ⟨dsc, hu⟩ := u; simp only [execOp, f.ev hx, convert]; rw [bind_assoc, ok_of (run_underlying' hu w), bind_assoc, ok_of (run_underlying' h2.int w)]; cases dsc <;> simp [Conv.intToInt, hw]) hd k
theorem XL.convw {x : Operand} {T1 T2 : Nat} {k1 k2 : IntKind} {a : Int} (hx : ev L x = some (.int k1 a)) [h2 : Ity P T2 k2] (u : ∃ dsc, P.underlying T1 = some dsc) (hd : Nat.blt d n = true) (k : XL P w0 h0 q ops K Q rest n ((d, .int k2 (k2.wrap a)) :: L) Γ) : XL P w0 h0 q ops K Q (⟨some d, .convert T1 T2 x, ty, pos, af, none⟩ :: rest) n L Γ :=
 XL.value (fun a w f s => by obtain ⟨dsc, hu⟩ := u; simp only [execOp, f.ev hx, convert]; rw [bind_assoc, ok_of (run_underlying' hu w), bind_assoc, ok_of (run_underlying' h2.int w)]; cases dsc <;> simp [Conv.intToInt]) hd k
theorem XL.indexArr {x y : Operand} {T b o N E sz r : Nat} {k : IntKind} {i : Int} (hx : ev L x = some (.pointer (some ⟨b, o, none⟩))) (hy : ev L y = some (.int k i)) [hT : Arr P T N E sz] (h1 : 0 ≤ i) (h2 : i < N) (hr : o + i.toNat * sz = r) (hd : Nat.blt d n = true) (k : XL P w0 h0 q ops K Q rest n ((d, .pointer (some ⟨b, r, none⟩)) :: L) Γ) : XL P w0 h0 q ops K Q (⟨some d, .indexAddr T x y, ty, pos, af, none⟩ :: rest) n L Γ :=
 XL.value (fun a w f s => by simp only [execOp, f.ev hx, f.ev hy, Instr.indexAt, asIntOf, pure_bind]; rw [bind_assoc, ok_of (run_underlying' hT.arr w)]; simp only [Instr.sureAddr, pure_bind, bind_assoc]; rw [ok_of (run_underlying' hT.arr w)]; simp only [if_pos (And.intro h1 h2)]; rw [bind_assoc, ok_of (hT.size w)]; rw [add_none, hr]; rfl) hd k
theorem XL.indexSl {x y : Operand} {T b o E sz len cap r : Nat} {k : IntKind} {i : Int} (hx : ev L x = some (.slice (some ⟨b, o, none⟩) len cap)) (hy : ev L y = some (.int k i)) [hT : Slt P T E sz] (h1 : 0 ≤ i) (h2 : i < len) (hr : o + i.toNat * sz = r) (hd : Nat.blt d n = true) (k : XL P w0 h0 q ops K Q rest n ((d, .pointer (some ⟨b, r, none⟩)) :: L) Γ) : XL P w0 h0 q ops K Q (⟨some d, .indexAddr T x y, ty, pos, af, none⟩ :: rest) n L Γ :=
 XL.value (fun a w f s => by simp only [execOp, f.ev hx, f.ev hy, Instr.indexAt, asIntOf, pure_bind]; rw [bind_assoc, ok_of (run_underlying' hT.slt w)]; simp only [pure_bind, bind_assoc]; rw [ok_of (run_underlying' hT.slt w)]; simp only [if_pos (And.intro h1 h2)]; rw [bind_assoc, ok_of (hT.size w)]; rw [add_none, hr]; rfl) hd k

/-! ### what makes or turns memory -/
theorem newB (w : World) (o : Obj) : (newObj o).run P w = .ok w.heap.size { w with heap := w.heap.push o } := rfl
theorem XL.alloc {T : Nat} {z : List Value} [hz : Zr P T z] (hd : Nat.blt d n = true) (k : ∀ b, XL P w0 h0 false ops K Q rest n ((d, .pointer (some ⟨b, 0, none⟩)) :: L) (pt b (cel z T) :: Γ)) :
  XL P w0 h0 false ops K Q (⟨some d, .alloc T, ty, pos, af, none⟩ :: rest) n L Γ :=
 XL.valueW (R := fun v Γ' => ∃ b, v = .pointer (some ⟨b, 0, none⟩) ∧ Γ' = pt b (cel z T) :: Γ) (fun a w f s => by
  obtain ⟨v, hv, hc⟩ := hz.zero w
  refine ⟨.pointer (some ⟨w.heap.size, 0, none⟩), { w with heap := w.heap.push (cel z T) }, _, ?_, ⟨_, rfl, rfl⟩, s.new _⟩
  simp only [execOp, Instr.alloc]
  rw [bind_assoc, ok_of hv]
  simp only [newVar, newRow, hc, bind_assoc]
  rw [ok_of (newB w _)]; rfl) hd (by rintro v Γ' ⟨b, rfl, rfl⟩; exact k b)
theorem XL.box {T : Nat} {x : Operand} {v : Value} (hx : ev L x = some v) (hs : sca v = true) (hd : Nat.blt d n = true) (k : ∀ b, XL P w0 h0 false ops K Q rest n ((d, .pointer (some ⟨b, 0, none⟩)) :: L) (pt b (cel [v] T) :: Γ)) :
  XL P w0 h0 false ops K Q (⟨some d, .box T x, ty, pos, af, none⟩ :: rest) n L Γ :=
 XL.valueW (R := fun u Γ' => ∃ b, u = .pointer (some ⟨b, 0, none⟩) ∧ Γ' = pt b (cel [v] T) :: Γ) (fun a w f s => by
  refine ⟨.pointer (some ⟨w.heap.size, 0, none⟩), { w with heap := w.heap.push (cel [v] T) }, _, ?_, ⟨_, rfl, rfl⟩, s.new _⟩
  simp only [execOp, f.ev hx, Instr.box, newVar, newRow, sca_cells hs, bind_assoc]
  rw [ok_of (newB w _)]; rfl) hd (by rintro v Γ' ⟨b, rfl, rfl⟩; exact k b)
theorem XL.boxA {T : Nat} {x : Operand} {vs : List Value} (hx : ev L x = some (.agg vs.toArray)) (hd : Nat.blt d n = true) (k : ∀ b, XL P w0 h0 false ops K Q rest n ((d, .pointer (some ⟨b, 0, none⟩)) :: L) (pt b (cel vs T) :: Γ)) :
  XL P w0 h0 false ops K Q (⟨some d, .box T x, ty, pos, af, none⟩ :: rest) n L Γ :=
 XL.valueW (R := fun u Γ' => ∃ b, u = .pointer (some ⟨b, 0, none⟩) ∧ Γ' = pt b (cel vs T) :: Γ) (fun a w f s => by
  refine ⟨.pointer (some ⟨w.heap.size, 0, none⟩), { w with heap := w.heap.push (cel vs T) }, _, ?_, ⟨_, rfl, rfl⟩, s.new _⟩
  simp only [execOp, f.ev hx, Instr.box, newVar, newRow, Value.cells, bind_assoc]
  rw [ok_of (newB w _)]; rfl) hd (by rintro v Γ' ⟨b, rfl, rfl⟩; exact k b)
theorem XL.store {x y : Operand} {T b o : Nat} {cs cs' : List Value} {v : Value} {KK : List Value → List Asn} (hx : ev L x = some (.pointer (some ⟨b, o, none⟩))) (hy : ev L y = some v) [hp : PtC Γ b cs KK] [ht : Sc P T] (hv : sca v = true) [hs : StL cs o [v] cs']
  (k : XL P w0 h0 false ops K Q rest n L (KK cs')) : XL P w0 h0 false ops K Q (⟨none, .store T x y, ty, pos, af, none⟩ :: rest) n L Γ :=
 XL.nothing (fun a w f s => by
  obtain ⟨w', e, s'⟩ := hp.wrS (T := T) (P := P) (off := o) (cs' := cs') s hv
  refine ⟨w', ?_, s'⟩
  simp only [execOp, f.ev hx, f.ev hy, Instr.storeAt, Instr.sureAddr, pure_bind]
  rw [ok_of e]; rfl) k
theorem XL.storeA {x y : Operand} {T b o m : Nat} {cs cs' vs : List Value} {KK : List Value → List Asn} (hx : ev L x = some (.pointer (some ⟨b, o, none⟩))) (hy : ev L y = some (.agg vs.toArray)) [hp : PtC Γ b cs KK] [ht : Ag P T m] (hm : vs.length = m) (hv : vs.all sca = true) [hs : StL cs o vs cs']
  (k : XL P w0 h0 false ops K Q rest n L (KK cs')) : XL P w0 h0 false ops K Q (⟨none, .store T x y, ty, pos, af, none⟩ :: rest) n L Γ :=
 XL.nothing (fun a w f s => by
  obtain ⟨w', e, s'⟩ := hp.wrA (T := T) (P := P) (off := o) (cs' := cs') s hm hv
  refine ⟨w', ?_, s'⟩
  simp only [execOp, f.ev hx, f.ev hy, Instr.storeAt, Instr.sureAddr, pure_bind]
  rw [ok_of e]; rfl) k
end
end Go.Bk

namespace Go.Bk
class Fun (P : Program) (f : FuncId) : Prop where
 cal : ∀ args w, (callFunc f args).run P w = .ok (.enter f args) w
theorem Fun.of {P : Program} {f : FuncId} {fn : Func} {c : Code} (hf : P.funcs[f]? = some fn) (hn : (fn.name == "runtime.NumGoroutine") = false) (hb : fn.body = some c) : Fun P f where
 cal args w := by
  unfold callFunc program
  show (Sem.run P (match P.funcs[f]? with
   | none => _
   | some fn => _) w) = _
  rw [hf]
  simp only [hn, hb, Bool.false_eq_true, if_false, Option.isNone_some]
  rfl

inductive Rm : Asn → List Asn → List Asn → Prop
 | here (A : Asn) (Γ : List Asn) : Rm A (A :: Γ) Γ
 | there {A : Asn} {Γ Γ' : List Asn} (B : Asn) (h : Rm A Γ Γ') : Rm A (B :: Γ) (B :: Γ')
inductive Pk : List Asn → List Asn → List Asn → Prop
 | nil (Γ : List Asn) : Pk [] Γ Γ
 | cons {A : Asn} {Γ1 Γ Γ' Γ2 : List Asn} (h : Rm A Γ Γ') (k : Pk Γ1 Γ' Γ2) : Pk (A :: Γ1) Γ Γ2
theorem Rm.to {A : Asn} {Γ Γ' : List Asn} (r : Rm A Γ Γ') : ∀ h, star Γ h → star (A :: Γ') h := by
 induction r with
 | here => exact fun _ s => s
 | there B _ ih => exact fun h s => star_swap (star_tail ih s)
theorem Rm.from {A : Asn} {Γ Γ' : List Asn} (r : Rm A Γ Γ') : ∀ h, star (A :: Γ') h → star Γ h := by
 induction r with
 | here => exact fun _ s => s
 | there B _ ih => exact fun h s => star_tail ih (star_swap s)
theorem Pk.to {Γ1 Γ Γ2 : List Asn} (p : Pk Γ1 Γ Γ2) : ∀ h, star Γ h → star (Γ1 ++ Γ2) h := by
 induction p with
 | nil => exact fun _ s => s
 | cons r _ ih => exact fun h s => star_tail ih (r.to h s)
theorem Pk.from {Γ1 Γ Γ2 : List Asn} (p : Pk Γ1 Γ Γ2) : ∀ h, star (Γ1 ++ Γ2) h → star Γ h := by
 induction p with
 | nil => exact fun _ s => s
 | cons r _ ih => exact fun h s => r.from h (star_tail ih s)
theorem Pk.drop {Γ1 Γ Γ2 : List Asn} (p : Pk Γ1 Γ Γ2) : ∀ h, star Γ h → star Γ1 h := fun h s => by
 obtain ⟨h1, h2, e, d, s1, _⟩ := (star_app Γ1 Γ2).1 (p.to h s)
 rw [e]; exact star_more Γ1 d s1

section
variable {P : Program} {w0 : World} {h0 : Hp} {q : Bool} {ops : Array Oper} {K : Act → World → Prop} {Q : Exit → Act → World → Prop} {rest : List Oper} {n : Nat} {L : Sl} {Γ Γ' : List Asn}
variable {d : Tmp} {ty : TypeId} {pos : String} {af : Array Edge}
theorem runC_fn {dst : Option Tmp} {f : FuncId} {l : List Operand} {tys : Array TypeId} {vs : List Value} (hx : evs L l = some vs) [hf : Fun P f] :
  RunC P w0 h0 n L Γ ⟨dst, .call ⟨.value (.func f), l.toArray, tys⟩, ty, pos, af, none⟩ f vs := fun a w fi s => by
 simp only [execOp, resolve, Act.eval, Deferred.ofValue]
 rw [pure_bind]
 simp only [invoke, List.map_toArray, fi.evs hx, Array.append_empty, Array.empty_append]
 exact hf.cal _ _
theorem runC_val {dst : Option Tmp} {x : Operand} {f : FuncId} {l : List Operand} {tys : Array TypeId} {v1 v2 vs : List Value} (hf' : ev L x = some (.func (.func f) v1.toArray v2.toArray)) (hx : evs L l = some vs) [hf : Fun P f] :
  RunC P w0 h0 n L Γ ⟨dst, .call ⟨.value x, l.toArray, tys⟩, ty, pos, af, none⟩ f (v1 ++ vs ++ v2) := fun a w fi s => by
 simp only [execOp, resolve, fi.ev hf', Deferred.ofValue]
 rw [pure_bind]
 simp only [invoke, List.map_toArray, fi.evs hx]
 rw [hf.cal]; simp
theorem Res.cellA {t T b o k : Nat} {cs vs : List Value} {KK : List Value → List Asn} (hx : lk L t = some (.pointer (some ⟨b, o, none⟩))) [hp : PtC Γ b cs KK] [ht : Ag P T k] [hs : SbL cs o k vs] : Res P w0 h0 L Γ (.cell t T) (.agg vs.toArray) :=
 ⟨_, hx, fun w s => hp.rdA s⟩
theorem bt {p : Prop} [Decidable p] (h : p) : Value.bool true = .bool (decide p) := by simp [h]
theorem bf {p : Prop} [Decidable p] (h : ¬ p) : Value.bool false = .bool (decide p) := by simp [h]
theorem XL.cp {f : FuncId} {l : List Operand} {tys : Array TypeId} {vs : List Value} {v : Value} (hx : evs L l = some vs) [hf : Fun P f] (hp : Pur P f vs v) (hd : Nat.blt d n = true)
  (k : XL P w0 h0 q ops K Q rest n ((d, v) :: L) Γ) : XL P w0 h0 q ops K Q (⟨some d, .call ⟨.value (.func f), l.toArray, tys⟩, ty, pos, af, none⟩ :: rest) n L Γ :=
 XL.callP (runC_fn hx) hp hd k
theorem Pur.t {f : FuncId} {vs : List Value} {p : Prop} [Decidable p] (hp : Pur P f vs (.bool (decide p))) (h : p) : Pur P f vs (.bool true) := by rwa [decide_eq_true h] at hp
theorem Pur.f {f : FuncId} {vs : List Value} {p : Prop} [Decidable p] (hp : Pur P f vs (.bool (decide p))) (h : ¬ p) : Pur P f vs (.bool false) := by rwa [decide_eq_false h] at hp
theorem Pur.eq {f : FuncId} {vs : List Value} {v v' : Value} (hp : Pur P f vs v) (h : v = v') : Pur P f vs v' := h ▸ hp
theorem XL.cs {f : FuncId} {l : List Operand} {tys : Array TypeId} {vs : List Value} {p : Prop} [Decidable p] (hx : evs L l = some vs) [hf : Fun P f] (hp : Pur P f vs (.bool (decide p))) (hd : Nat.blt d n = true)
  (kt : p → XL P w0 h0 q ops K Q rest n ((d, .bool true) :: L) Γ) (kf : ¬ p → XL P w0 h0 q ops K Q rest n ((d, .bool false) :: L) Γ) : XL P w0 h0 q ops K Q (⟨some d, .call ⟨.value (.func f), l.toArray, tys⟩, ty, pos, af, none⟩ :: rest) n L Γ := by
 by_cases h : p
 ·exact XL.cp hx (hp.t h) hd (kt h)
 ·exact XL.cp hx (hp.f h) hd (kf h)
theorem XL.vs {x : Operand} {f : FuncId} {l : List Operand} {tys : Array TypeId} {v1 v2 vs : List Value} {p : Prop} [Decidable p] (hf' : ev L x = some (.func (.func f) v1.toArray v2.toArray)) (hx : evs L l = some vs) [hf : Fun P f] (hp : Pur P f (v1 ++ vs ++ v2) (.bool (decide p))) (hd : Nat.blt d n = true)
  (kt : p → XL P w0 h0 q ops K Q rest n ((d, .bool true) :: L) Γ) (kf : ¬ p → XL P w0 h0 q ops K Q rest n ((d, .bool false) :: L) Γ) : XL P w0 h0 q ops K Q (⟨some d, .call ⟨.value x, l.toArray, tys⟩, ty, pos, af, none⟩ :: rest) n L Γ := by
 by_cases h : p
 ·exact XL.callP (runC_val hf' hx) (hp.t h) hd (kt h)
 ·exact XL.callP (runC_val hf' hx) (hp.f h) hd (kf h)
theorem XL.cr {f : FuncId} {l : List Operand} {tys : Array TypeId} {vs : List Value} {v : Value} {Γ1 Γ2 : List Asn} (hx : evs L l = some vs) [hf : Fun P f] (hp : Tri P f vs Γ1 fun v' Γ' => v' = v ∧ Γ' = Γ1) (hs : Pk Γ1 Γ Γ2) (hd : Nat.blt d n = true)
  (k : XL P w0 h0 q ops K Q rest n ((d, v) :: L) Γ) : XL P w0 h0 q ops K Q (⟨some d, .call ⟨.value (.func f), l.toArray, tys⟩, ty, pos, af, none⟩ :: rest) n L Γ :=
 XL.callR (runC_fn hx) hp hs.to hs.from hd k
theorem XL.cw {f : FuncId} {l : List Operand} {tys : Array TypeId} {vs : List Value} {Γ1 Γ2 : List Asn} {post : Value → List Asn → Prop} (hx : evs L l = some vs) [hf : Fun P f] (hp : Tri P f vs Γ1 post) (hs : Pk Γ1 Γ Γ2) (hd : Nat.blt d n = true)
  (k : ∀ v Γ', post v Γ' → XL P w0 h0 false ops K Q rest n ((d, v) :: L) (Γ' ++ Γ2)) : XL P w0 h0 false ops K Q (⟨some d, .call ⟨.value (.func f), l.toArray, tys⟩, ty, pos, af, none⟩ :: rest) n L Γ :=
 XL.callW (runC_fn hx) hp hs.to hd k
theorem XL.vp {x : Operand} {f : FuncId} {l : List Operand} {tys : Array TypeId} {v1 v2 vs : List Value} {v : Value} (hf' : ev L x = some (.func (.func f) v1.toArray v2.toArray)) (hx : evs L l = some vs) [hf : Fun P f] (hp : Pur P f (v1 ++ vs ++ v2) v) (hd : Nat.blt d n = true)
  (k : XL P w0 h0 q ops K Q rest n ((d, v) :: L) Γ) : XL P w0 h0 q ops K Q (⟨some d, .call ⟨.value x, l.toArray, tys⟩, ty, pos, af, none⟩ :: rest) n L Γ :=
 XL.callP (runC_val hf' hx) hp hd k
theorem XL.vr {x : Operand} {f : FuncId} {l : List Operand} {tys : Array TypeId} {v1 v2 vs : List Value} {v : Value} {Γ1 Γ2 : List Asn} (hf' : ev L x = some (.func (.func f) v1.toArray v2.toArray)) (hx : evs L l = some vs) [hf : Fun P f] (hp : Tri P f (v1 ++ vs ++ v2) Γ1 fun v' Γ' => v' = v ∧ Γ' = Γ1) (hs : Pk Γ1 Γ Γ2) (hd : Nat.blt d n = true)
  (k : XL P w0 h0 q ops K Q rest n ((d, v) :: L) Γ) : XL P w0 h0 q ops K Q (⟨some d, .call ⟨.value x, l.toArray, tys⟩, ty, pos, af, none⟩ :: rest) n L Γ :=
 XL.callR (runC_val hf' hx) hp hs.to hs.from hd k
theorem XL.vw {x : Operand} {f : FuncId} {l : List Operand} {tys : Array TypeId} {v1 v2 vs : List Value} {Γ1 Γ2 : List Asn} {post : Value → List Asn → Prop} (hf' : ev L x = some (.func (.func f) v1.toArray v2.toArray)) (hx : evs L l = some vs) [hf : Fun P f] (hp : Tri P f (v1 ++ vs ++ v2) Γ1 post) (hs : Pk Γ1 Γ Γ2) (hd : Nat.blt d n = true)
  (k : ∀ v Γ', post v Γ' → XL P w0 h0 false ops K Q rest n ((d, v) :: L) (Γ' ++ Γ2)) : XL P w0 h0 false ops K Q (⟨some d, .call ⟨.value x, l.toArray, tys⟩, ty, pos, af, none⟩ :: rest) n L Γ :=
 XL.callW (runC_val hf' hx) hp hs.to hd k
end
end Go.Bk
namespace Go.Bk
theorem fdiv_of {m a : Int} {k : IntKind} {c : Int} (h : (2 : Int) ^ (min c.toNat k.bits) = m) (hm : 0 ≤ m) : a.fdiv (2 ^ (min c.toNat k.bits)) = a / m := by
 rw [h, Int.fdiv_eq_ediv_of_nonneg _ hm]
theorem mask64 {b : Int} (j : Nat) (hb : b = 2 ^ j - 1) (a : Int) (hj : j < 63) : bitsV .and .i64 a b = a % 2 ^ j := by
 show IntKind.i64.wrap ((BitVec.ofInt 64 a &&& BitVec.ofInt 64 b).toNat : Int) = _
 have h2 : (2 : Int) ^ j = ((2 ^ j : Nat) : Int) := by simp
 have hpos : 0 < 2 ^ j := Nat.two_pow_pos j
 have hlt : 2 ^ j ≤ 2 ^ 62 := Nat.pow_le_pow_right (by omega) (by omega)
 have hB : (BitVec.ofInt 64 b).toNat = 2 ^ j - 1 := by
  rw [BitVec.toNat_ofInt, hb, h2]
  rw [show ((2 ^ j : Nat) : Int) - 1 = ((2 ^ j - 1 : Nat) : Int) by omega]
  rw [Int.emod_eq_of_lt (by omega) (by simp; omega)]; simp
 have hA : ((BitVec.ofInt 64 a).toNat : Int) = a % 2 ^ 64 := by
  rw [BitVec.toNat_ofInt, Int.toNat_of_nonneg (Int.emod_nonneg _ (by decide))]; rfl
 have : ((BitVec.ofInt 64 a &&& BitVec.ofInt 64 b).toNat : Int) = a % 2 ^ j := by
  rw [BitVec.toNat_and, hB, Nat.and_two_pow_sub_one_eq_mod]
  rw [Int.natCast_emod, hA, ← h2]
  rw [Int.emod_emod_of_dvd]
  exact ⟨2 ^ (64 - j), by rw [← Int.pow_add]; congr 1; omega⟩
 rw [this]
 refine wrap64_of ?_ ?_
 ·have := Int.emod_nonneg a (b := 2 ^ j) (by rw [h2]; omega); omega
 ·have := Int.emod_lt_of_pos a (b := 2 ^ j) (by rw [h2]; omega); rw [h2] at this; omega
theorem quo64 {a m : Int} (h0 : 0 ≤ a) (h1 : a ≤ 9223372036854775807) (hm : 0 < m) : IntKind.i64.wrap (a.tdiv m) = a / m := by
 rw [Int.tdiv_eq_ediv_of_nonneg h0]
 have h2 : 0 ≤ a / m := Int.ediv_nonneg h0 (by omega)
 have h3 : a / m ≤ a := Int.ediv_le_self _ h0
 exact wrap64_of (by omega) (by omega)
theorem rem64 {a m : Int} (h0 : 0 ≤ a) (hm : 0 < m) : a.tmod m = a % m := Int.tmod_eq_emod_of_nonneg h0
theorem or_add {a b : Int} (j : Nat) (ha : a % 2 ^ j = 0) (h0 : 0 ≤ a) (h1 : a < 2 ^ 62) (hb0 : 0 ≤ b) (hb : b < 2 ^ j) (hj : j < 62) : bitsV .or .i64 a b = a + b := by
 obtain ⟨A, rfl⟩ := Int.eq_ofNat_of_zero_le h0
 obtain ⟨B, rfl⟩ := Int.eq_ofNat_of_zero_le hb0
 have h2 : (2 : Int) ^ j = ((2 ^ j : Nat) : Int) := by simp
 have hlt : 2 ^ j ≤ 2 ^ 61 := Nat.pow_le_pow_right (by omega) (by omega)
 rw [h2] at ha hb
 have hb' : B < 2 ^ j := by omega
 have ha' : A % 2 ^ j = 0 := by omega
 have e : ∀ N : Nat, N < 2 ^ 63 → (BitVec.ofInt 64 (N : Int)).toNat = N := fun N hN => by
  rw [BitVec.toNat_ofInt, Int.emod_eq_of_lt (by omega) (by simp; omega)]; simp
 show IntKind.i64.wrap ((BitVec.ofInt 64 (A : Int) ||| BitVec.ofInt 64 (B : Int)).toNat : Int) = _
 rw [BitVec.toNat_or, e A (by omega), e B (by omega)]
 have : A ||| B = A + B := by
  have := Nat.two_pow_add_eq_or_of_lt hb' (A / 2 ^ j)
  rw [show 2 ^ j * (A / 2 ^ j) = A by have := Nat.div_add_mod A (2 ^ j); omega] at this
  exact this.symm
 rw [this]
 rw [wrap64_of (by omega) (by omega)]; omega
end Go.Bk

namespace Go.Bk

class ByT (P : Program) (E : TypeId) (by' : outParam Nat) : Prop where
 by' : ∃ i, P.info? E = some i ∧ i.bytes = by'
theorem ByT.of {P : Program} {E k : Nat} (h : (P.info? E).map (·.bytes) = some k) : ByT P E k := ⟨by
 obtain ⟨i, hi, hk⟩ := Option.map_eq_some_iff.1 h; exact ⟨i, hi, hk⟩⟩

theorem growBy_le (m : Nat) : ∀ (r c : Nat), Builtin.growBy m r c ≤ max c (2 * m + 768)
 | 0, c => by simp [Builtin.growBy]; omega
 | r + 1, c => by
  unfold Builtin.growBy
  split
  ·omega
  ·have := growBy_le m r (c + (c + 768) / 4)
   omega
theorem nextcap_le {m c : Nat} (h : c < m) : Builtin.nextslicecap m c ≤ 2 * m + 768 := by
 unfold Builtin.nextslicecap
 split
 ·omega
 ·split
  ·omega
  ·have := growBy_le m 4 c; omega

theorem zeroCells_len (z : Array Value) (n : Nat) : (Builtin.zeroCells z n).size = n * z.size := by simp [Builtin.zeroCells]

section
variable {P : Program} {w0 : World} {h0 : Hp} {q : Bool} {ops : Array Oper} {K : Act → World → Prop} {Q : Exit → Act → World → Prop} {rest : List Oper} {n : Nat} {L : Sl} {Γ Γ' : List Asn}
variable {d : Tmp} {ty : TypeId} {pos : String} {af : Array Edge}

theorem star_get {A : Asn} {Γ Γ' : List Asn} {w : World} (r : Rm A Γ Γ') (s : Wd w0 h0 Γ w) : ∃ h, A h ∧ Agr w h := by
 obtain ⟨h, st, ag, _⟩ := s
 obtain ⟨h1, h2, e, d, a, _⟩ := r.to h st
 exact ⟨h1, a, fun b o hb => ag b o (by rw [e]; exact un_left hb)⟩

theorem Sl'.len {E k m : Nat} {v : Value} {xs : List Value} {h : Hp} (s : Sl' E k v m xs h) : ∃ a c, v = .slice a m c ∧ xs.length = m * k := by
 obtain ⟨h1, h2 | ⟨b, cap, rest, e, _⟩⟩ := s
 ·obtain ⟨e, hn⟩ := h2; subst hn; exact ⟨none, 0, e, h1⟩
 ·exact ⟨_, cap, e, h1⟩
theorem XL.lenS {x : Operand} {T E sz k m E' : Nat} {v : Value} {xs : List Value} {Γ2 : List Asn} (hx : ev L x = some v) [hT : Slt P T E sz] (hs : Rm (Sl' E' k v m xs) Γ Γ2) (hd : Nat.blt d n = true)
  (kk : XL P w0 h0 q ops K Q rest n ((d, .int .i64 m) :: L) Γ) : XL P w0 h0 q ops K Q (⟨some d, .call ⟨.builtin .len, #[x], #[T]⟩, ty, pos, af, none⟩ :: rest) n L Γ :=
 XL.value (fun a w f s => by
  obtain ⟨h, hh, _⟩ := star_get hs s
  obtain ⟨ad, c, rfl, _⟩ := hh.len
  simp [execOp, resolve, invoke, builtin, f.ev hx, Builtin.len_, goInt, run_underlying' hT.slt w]) hd kk

theorem SP.openS {c : Code} {E k m : Nat} {v : Value} {xs : List Value} {Γ2 : List Asn} (hs : Rm (Sl' E k v m xs) Γ Γ2)
  (k0 : v = .slice none 0 0 → m = 0 → xs = [] → SP P w0 h0 c Q n L Γ2)
  (k1 : ∀ b cap rest, v = .slice (some ⟨b, 0, none⟩) m cap → xs.length = m * k → (xs ++ rest).length = cap * k → m ≤ cap → SP P w0 h0 c Q n L (pt b (cel (xs ++ rest) E) :: Γ2)) : SP P w0 h0 c Q n L Γ := by
 intro a w f s
 obtain ⟨h, st, ag, fr⟩ := s
 obtain ⟨h1, h2, e, d, ⟨hl, hh⟩, st2⟩ := hs.to h st
 rcases hh with ⟨e1, e2⟩ | ⟨b, cap, rest, e1, e2, e3, e4⟩
 ·subst e2
  refine k0 e1 rfl (List.length_eq_zero_iff.1 (by simpa using hl)) a w f ⟨h, ?_, ag, fr⟩
  rw [e, un_comm d]; exact star_more _ (dj_comm d) st2
 ·exact k1 b cap rest e1 hl e2 e3 a w f ⟨h, ⟨h1, h2, e, d, e4, st2⟩, ag, fr⟩
theorem star_closeS {E k m : Nat} {xs rest : List Value} {b cap : Nat} {Γ : List Asn} (hl : xs.length = m * k) (hc : (xs ++ rest).length = cap * k) (hm : m ≤ cap) :
  ∀ h, star (pt b (cel (xs ++ rest) E) :: Γ) h → star (Sl' E k (.slice (some ⟨b, 0, none⟩) m cap) m xs :: Γ) h := fun h s =>
 star_head (fun h hp => ⟨hl, .inr ⟨b, cap, rest, rfl, hc, hm, hp⟩⟩) s
theorem star_nilS {E k : Nat} {Γ : List Asn} : ∀ h, star Γ h → star (Sl' E k (.slice none 0 0) 0 [] :: Γ) h := fun h s =>
 ⟨fun _ => none, h, by funext b; simp [un], fun b => .inl rfl, ⟨by simp, .inl ⟨rfl, rfl⟩⟩, s⟩

/-! ### a slice literal -/
class AppL (a b : List Value) (c : outParam (List Value)) : Prop where
 ap : a ++ b = c
instance AppL.nil (b : List Value) : AppL [] b b := ⟨rfl⟩
instance AppL.cons (x : Value) (a b c : List Value) [h : AppL a b c] : AppL (x :: a) b (x :: c) := ⟨by simp [h.ap]⟩
class Cats (pv : List (Nat × Value)) (s k : Nat) (cs : outParam (List Value)) : Prop where
 ca : cs.length = pv.length * k ∧ ∀ (z : List Value), (s + pv.length) * k ≤ z.length → Instr.fill (fun i => some (i * k, k)) z.toArray pv = some (z.take (s * k) ++ cs ++ z.drop ((s + pv.length) * k)).toArray
instance Cats.nil (s k : Nat) : Cats [] s k [] := ⟨by simp, fun z _ => by simp [Instr.fill]⟩
theorem Cats.cons' (v : Value) (r : List (Nat × Value)) (s k : Nat) (vs cs1 cs : List Value) (h2 : Cel v vs) (h4 : LenIs vs k) (h5 : Cats r (s + 1) k cs1) (h6 : AppL vs cs1 cs) : Cats ((s, v) :: r) s k cs := by
 have hv := h4.le
 refine ⟨by rw [← h6.ap]; simp [h5.ca.1, hv, Nat.add_mul, Nat.add_comm], fun z hz => ?_⟩
 have e1 : (s + (((s, v) :: r).length)) * k = (s + 1 + r.length) * k := by simp; congr 1; omega
 rw [e1] at hz ⊢
 have hz1 : (s + 1) * k ≤ z.length := Nat.le_trans (Nat.mul_le_mul_right k (by omega)) hz
 have hz2 : s * k + k ≤ z.length := by rw [Nat.add_mul] at hz1; omega
 unfold Instr.fill
 simp only [h2.ce, List.size_toArray, hv, ne_eq, not_true_eq_false, decide_false, Bool.false_or, decide_eq_true_eq]
 rw [if_neg (by omega)]
 have hf := fold_set vs 0 (s * k) z (by omega)
 simp only [Nat.add_zero] at hf
 rw [← Array.foldl_toList, Array.toList_zipIdx]
 have e : (vs.toArray.toList.zipIdx 0).foldl (fun (cs : Array Value) (x : Value × Nat) => cs.setIfInBounds (s * k + x.2) x.1) z.toArray = (z.take (s * k) ++ vs ++ z.drop (s * k + vs.length)).toArray := hf
 rw [e]
 have hlen : (z.take (s * k) ++ vs ++ z.drop (s * k + vs.length)).length = z.length := by simp; omega
 rw [h5.ca.2 _ (by rw [hlen]; exact hz)]
 congr 2
 have t1 : (s + 1) * k = s * k + k := by rw [Nat.add_mul]; omega
 rw [t1, ← h6.ap]
 have a1 : (z.take (s * k) ++ vs ++ z.drop (s * k + vs.length)).take (s * k + k) = z.take (s * k) ++ vs := List.take_left' (by simp; omega)
 have a2 : (z.take (s * k) ++ vs ++ z.drop (s * k + vs.length)).drop ((s + 1 + r.length) * k) = z.drop ((s + 1 + r.length) * k) := by
  have hb : s * k + k ≤ (s + 1 + r.length) * k := by rw [← t1]; exact Nat.mul_le_mul_right k (by omega)
  rw [List.append_assoc, List.drop_append, List.drop_append]
  simp only [List.length_take, hv, show min (s * k) z.length = s * k by omega, List.drop_drop]
  rw [List.drop_eq_nil_of_le (by simp; omega), List.drop_eq_nil_of_le (by omega)]
  simp; congr 1; omega
 rw [a1, a2]; simp
instance Cats.cons (s s' k : Nat) (v : Value) (r : List (Nat × Value)) (vs cs1 cs : List Value) [h0 : NAdd s 1 s'] [h2 : Cel v vs] [h4 : LenIs vs k] [h5 : Cats r s' k cs1] [h6 : AppL vs cs1 cs] : Cats ((s, v) :: r) s k cs :=
 Cats.cons' v r s k vs cs1 cs h2 h4 (by rw [h0.ad]; exact h5) h6
theorem XL.buildSlice {T E k m : Nat} {parts : List (Nat × Operand)} {pv : List (Nat × Value)} {z cs : List Value} (hv : evp L parts = some pv) [hT : Slt P T E k] [hz : Zr P E z] [hc : Cats pv 0 k cs] (hm : pv.length = m) (hzl : z.length = k) (hsm : m * k ≤ 2 ^ 24) (hd : Nat.blt d n = true)
  (kk : ∀ b, XL P w0 h0 false ops K Q rest n ((d, .slice (some ⟨b, 0, none⟩) m m) :: L) (pt b (cel cs E) :: Γ)) :
  XL P w0 h0 false ops K Q (⟨some d, .buildSlice T m parts.toArray, ty, pos, af, none⟩ :: rest) n L Γ :=
 XL.valueW (R := fun v Γ' => ∃ b, v = .slice (some ⟨b, 0, none⟩) m m ∧ Γ' = pt b (cel cs E) :: Γ) (fun a w f s => by
  obtain ⟨v, hzv, hzc⟩ := hz.zero w
  refine ⟨.slice (some ⟨w.heap.size, 0, none⟩) m m, { w with heap := w.heap.push (cel cs E) }, _, ?_, ⟨_, rfl, rfl⟩, s.new _⟩
  simp only [execOp, List.map_toArray]
  unfold Instr.buildSlice
  rw [bind_assoc, ok_of (run_underlying' hT.slt w)]
  simp only [bind_assoc]
  rw [ok_of (hT.size w)]
  rw [if_neg (by omega)]
  have key : ∀ (zz : List Value), zz.length = m * k → Instr.fill (fun i => some (i * k, k)) zz.toArray (parts.map fun (p : Nat × Operand) => (p.1, a.eval p.2)) = some cs.toArray := fun zz hzz => by
   rw [f.evp hv, hc.ca.2 zz (by simp [hm, hzz])]
   simp only [Nat.zero_mul, List.take_zero, List.nil_append, Nat.zero_add, hm]
   rw [List.drop_eq_nil_of_le (by omega)]; simp
  have fin : ∀ (zz : Array Value), zz.size = m * k → (Instr.fill (fun i => some (i * k, k)) zz (parts.map fun (p : Nat × Operand) => (p.1, a.eval p.2))) = some cs.toArray := fun zz hzz => by
   have := key zz.toList (by simpa using hzz)
   simpa using this
  by_cases h0 : m * k = 0
  ·simp only [h0, if_true, pure_bind, List.toList_toArray]
   rw [fin _ (by simp [h0])]
   simp only [pure_bind, newRow, bind_assoc]
   rw [ok_of (newB w _)]; rfl
  ·simp only [h0, if_false, bind_assoc]
   rw [ok_of hzv]
   simp only [pure_bind, List.toList_toArray]
   rw [fin _ (by simp)]
   simp only [pure_bind, newRow, bind_assoc]
   rw [ok_of (newB w _)]; rfl) hd (by rintro v Γ' ⟨b, rfl, rfl⟩; exact kk b)

/-! ### append -/
theorem lenOf_slice {a : Option Addr} {m c : Nat} (w : World) : (Builtin.lenOf (.slice a m c)).run P w = .ok m w := rfl
theorem firstCells_cel {w : World} {b : Nat} {cs : List Value} {E k m c : Nat} (h : w.heap[b]? = some (cel cs E)) (hl : m * k ≤ cs.length) : (Builtin.firstCells k m (.slice (some ⟨b, 0, none⟩) m c)).run P w = .ok (cs.take (m * k)).toArray w := by
 unfold Builtin.firstCells loadCells
 have := loadCellsFrom_run (P := P) h 0 (m * k) 0 #[] (by omega)
 simpa using this
theorem askRoom_run (x : Nat) (w : World) : (askRoom x).run P w = .ok () w := by
 unfold askRoom mark
 split <;> rfl
theorem append_run {T T2 E k bt m m2 c2 : Nat} {a2 : Option Addr} {v : Value} {xs ys : List Value} {z : List Value} [hT : Slt P T E k] [hb : ByT P E bt] [hz : Zr P E z] (hT2 : ∃ e, P.underlying T2 = some (.slice e)) {w : World} {Γ2 : List Asn}
  (hzl : z.length = k) (hbt : 0 < bt) (hys : ys.length = m2 * k) (hnew : ∀ x : World, x.heap = w.heap → (Builtin.firstCells k m2 (.slice a2 m2 c2)).run P x = .ok ys.toArray x) (hroom : (2 * (m + m2) + 768) * bt ≤ 2 ^ 48) (hsca : ys.all sca = true)
  (s : Wd w0 h0 (Sl' E k v m xs :: Γ2) w) :
  ∃ v' w', (Builtin.append_ #[T, T2] ty #[v, .slice a2 m2 c2]).run P w = .ok v' w' ∧ Wd w0 h0 (Sl' E k v' (m + m2) (xs ++ ys) :: Γ2) w' := by
 obtain ⟨h, st, ag, fr⟩ := s
 obtain ⟨h1, hr, e, d, ⟨hl, hh⟩, st2⟩ := id st
 obtain ⟨ti, hti, hbi⟩ := hb.by'
 obtain ⟨e2, hu2⟩ := hT2
 obtain ⟨zv, hzv, hzc⟩ := hz.zero w.drew
 have hst2 : star Γ2 h := by rw [e, un_comm d]; exact star_more _ (dj_comm d) st2
 have hW : Wd w0 h0 Γ2 w := ⟨h, hst2, ag, fr⟩
 have grow : ∀ (bs : Option Addr) (cap : Nat), v = .slice bs m cap → cap < m + m2 → (∀ x : World, x.heap = w.heap → (Builtin.firstCells k m (.slice bs m cap)).run P x = .ok xs.toArray x) →
   ∃ v' w', (Builtin.append_ #[T, T2] ty #[v, .slice a2 m2 c2]).run P w = .ok v' w' ∧ Wd w0 h0 (Sl' E k v' (m + m2) (xs ++ ys) :: Γ2) w' := by
  intro bs cap hv hcap hold
  have hcap2 := nextcap_le hcap
  have hlim : Builtin.nextslicecap (m + m2) cap * bt ≤ 281474976710656 := by
   have : Builtin.nextslicecap (m + m2) cap * bt ≤ (2 * (m + m2) + 768) * bt := Nat.mul_le_mul_right bt hcap2
   omega
  have hnc : m + m2 ≤ (Question.appendCap (m + m2) cap E).cut (w.tape w.drawn (Question.appendCap (m + m2) cap E)) := by show _ ≤ (m + m2) + _ % _; omega
  generalize hq : (Question.appendCap (m + m2) cap E).cut (w.tape w.drawn (Question.appendCap (m + m2) cap E)) = nc at hnc
  have hS := (hW.drew (w.drawn + 1)).new (cel (xs ++ ys ++ (Builtin.zeroCells z.toArray (nc - (m + m2))).toList) E)
  refine ⟨.slice (some ⟨w.heap.size, 0, none⟩) (m + m2) nc, _, ?_, hS.mono (star_closeS (by simp [hl, hys, Nat.add_mul]) ?_ hnc)⟩
  ·subst hv
   unfold Builtin.append_
   simp only [List.getElem?_toArray, List.getElem?_cons_zero, List.getElem?_cons_succ]
   rw [ok_of (run_underlying' hT.slt w)]
   have hcz : zv.cells = z.toArray := hzc
   simp [hT.size w, run_underlying' hu2 w, lenOf_slice, show ¬ (m + m2 ≤ cap) by omega, run_info hti, hbi, show ¬ bt = 0 by omega, show ¬ (281474976710656 < Builtin.nextslicecap (m + m2) cap * bt) by omega, Question.forced, askRoom_run, hold w.drew rfl, hnew w.drew rfl, hzv, hq, newRow, hcz]
   exact congrArg (fun o => w.drew.alloc o) (by unfold cel; simp)
  ·simp [hl, hys, zeroCells_len, hzl]
   rw [← Nat.add_mul, ← Nat.add_mul]; congr 1; omega
 rcases hh with ⟨hv, hm0⟩ | ⟨b, cap, rs, hv, hc, hmc, hpt⟩
 ·subst hm0
  have hxs : xs = [] := List.length_eq_zero_iff.1 (by simpa using hl)
  by_cases hm2 : m2 = 0
  ·subst hm2
   have hy : ys = [] := List.length_eq_zero_iff.1 (by simpa using hys)
   refine ⟨.slice none 0 0, w, ?_, ?_⟩
   ·subst hv
    unfold Builtin.append_
    simp only [List.getElem?_toArray, List.getElem?_cons_zero, List.getElem?_cons_succ]
    rw [ok_of (run_underlying' hT.slt w)]
    simp [hT.size w, run_underlying' hu2 w, lenOf_slice, hnew w rfl]
   ·subst hxs; subst hy
    exact hW.mono star_nilS
  ·exact grow none 0 hv (by omega) (fun x _ => by rw [hxs]; rfl)
 ·have hwb : w.heap[b]? = some (cel (xs ++ rs) E) := ag b _ (by rw [e]; exact un_left hpt)
  by_cases hfit : m + m2 ≤ cap
  ·have hlen : m * k + ys.length ≤ (xs ++ rs).length := by rw [hc, hys, ← Nat.add_mul]; exact Nat.mul_le_mul_right k hfit
   refine ⟨.slice (some ⟨b, 0, none⟩) (m + m2) cap, setB w b (cel (xs ++ ys ++ rs.drop ys.length) E), ?_, ?_⟩
   ·subst hv
    unfold Builtin.append_
    simp only [List.getElem?_toArray, List.getElem?_cons_zero, List.getElem?_cons_succ]
    rw [ok_of (run_underlying' hT.slt w)]
    have hst := storeCells_run (P := P) (T := E) (m * k) ys 0 (xs ++ rs) w hwb (by omega) hsca
    have ee : (xs ++ rs).take (m * k + 0) ++ ys ++ (xs ++ rs).drop (m * k + 0 + ys.length) = xs ++ ys ++ rs.drop ys.length := by
     simp only [Nat.add_zero]
     rw [← hl, List.take_left, List.drop_append]
     simp [List.drop_eq_nil_of_le]
    rw [ee] at hst
    simp [hT.size w, run_underlying' hu2 w, lenOf_slice, hfit, hnew w rfl, add_none, hst]
   ·have hP : PtAt (pt b (cel (xs ++ rs) E) :: Γ2) b (cel (xs ++ rs) E) (fun o => pt b o :: Γ2) := PtAt.here _ _ _
    have hS : Wd w0 h0 (pt b (cel (xs ++ rs) E) :: Γ2) w := ⟨h, ⟨h1, hr, e, d, hpt, st2⟩, ag, fr⟩
    refine (hP.set hS _).mono (star_closeS (by simp [hl, hys, Nat.add_mul]) ?_ hfit)
    have := hc; simp at this hlen ⊢; omega
  ·exact grow _ cap hv (by omega) (fun x hx => by
    rw [firstCells_cel (cs := xs ++ rs) (E := E) (by rw [hx]; exact hwb) (by simp; omega)]
    rw [← hl]; simp)
theorem XL.append {x y : Operand} {T T2 E k bt m m2 b2 c2 : Nat} {v : Value} {xs ys z : List Value} {KK : List Value → List Asn} {Γ2 : List Asn} (hx : ev L x = some v) (hy : ev L y = some (.slice (some ⟨b2, 0, none⟩) m2 c2)) [hT : Slt P T E k] [hb : ByT P E bt] [hz : Zr P E z]
  (hT2 : ∃ e, P.underlying T2 = some (.slice e)) (hs : Rm (Sl' E k v m xs) Γ Γ2) [hp : PtC Γ b2 ys KK] (hzl : z.length = k) (hbt : Nat.blt 0 bt = true) (hys : ys.length = m2 * k) (hroom : (2 * (m + m2) + 768) * bt ≤ 2 ^ 48) (hsca : ys.all sca = true) (hd : Nat.blt d n = true)
  (kk : ∀ v', XL P w0 h0 false ops K Q rest n ((d, v') :: L) (Sl' E k v' (m + m2) (xs ++ ys) :: Γ2)) :
  XL P w0 h0 false ops K Q (⟨some d, .call ⟨.builtin .append, #[x, y], #[T, T2]⟩, ty, pos, af, none⟩ :: rest) n L Γ :=
 XL.valueW (R := fun v' Γ' => Γ' = Sl' E k v' (m + m2) (xs ++ ys) :: Γ2) (fun a w f s => by
  obtain ⟨rs, T', he, _⟩ := hp.get s
  obtain ⟨v', w', hr, hw⟩ := append_run (T := T) (ty := ty) (c2 := c2) (a2 := some ⟨b2, 0, none⟩) hT2 hzl (by simpa [Nat.blt_eq] using hbt) hys (fun x hx => by
   rw [firstCells_cel (cs := ys ++ rs) (E := T') (by rw [hx]; exact he) (by simp; omega), ← hys, List.take_left]) hroom hsca (s.mono hs.to)
  refine ⟨v', w', _, ?_, rfl, hw⟩
  simp [execOp, resolve, invoke, builtin, f.ev hx, f.ev hy, hr]) hd (by rintro v Γ' rfl; exact kk v)
theorem XL.appendS {x y : Operand} {T T2 E E2 k bt m m2 : Nat} {v v2 : Value} {xs ys z : List Value} {Γ2 Γ3 : List Asn} (hx : ev L x = some v) (hy : ev L y = some v2) [hT : Slt P T E k] [hb : ByT P E bt] [hz : Zr P E z]
  (hT2 : ∃ e, P.underlying T2 = some (.slice e)) (hs : Rm (Sl' E k v m xs) Γ Γ2) (hs2 : Rm (Sl' E2 k v2 m2 ys) Γ2 Γ3) (hzl : z.length = k) (hbt : Nat.blt 0 bt = true) (hroom : (2 * (m + m2) + 768) * bt ≤ 2 ^ 48) (hsca : ys.all sca = true) (hd : Nat.blt d n = true)
  (kk : ∀ v', XL P w0 h0 false ops K Q rest n ((d, v') :: L) (Sl' E k v' (m + m2) (xs ++ ys) :: Γ2)) :
  XL P w0 h0 false ops K Q (⟨some d, .call ⟨.builtin .append, #[x, y], #[T, T2]⟩, ty, pos, af, none⟩ :: rest) n L Γ :=
 XL.valueW (R := fun v' Γ' => Γ' = Sl' E k v' (m + m2) (xs ++ ys) :: Γ2) (fun a w f s => by
  obtain ⟨h, st, ag, fr⟩ := id s
  obtain ⟨h1, h2, e, dd, _, st2⟩ := hs.to h st
  obtain ⟨h3, h4, e2, dd2, ⟨hl, hh⟩, _⟩ := hs2.to h2 st2
  obtain ⟨a2, c2, rfl, hnew⟩ : ∃ a2 c2, v2 = .slice a2 m2 c2 ∧ ∀ x : World, x.heap = w.heap → (Builtin.firstCells k m2 (.slice a2 m2 c2)).run P x = .ok ys.toArray x := by
   rcases hh with ⟨e1, e2⟩ | ⟨b, cap, rs, e1, e3, e4, e5⟩
   ·subst e2; refine ⟨none, 0, e1, fun x _ => ?_⟩
    have : ys = [] := List.length_eq_zero_iff.1 (by simpa using hl)
    rw [this]; rfl
   ·refine ⟨_, cap, e1, fun x hx => ?_⟩
    have hb2 : w.heap[b]? = some (cel (ys ++ rs) E2) := ag b _ (by
     rw [e]
     have q : h2 b = some (cel (ys ++ rs) E2) := by rw [e2]; exact un_left e5
     have hn : h1 b = none := by
      rcases dd b with g | g
      ·exact g
      ·rw [q] at g; cases g
     rw [un_right hn]; exact q)
    rw [firstCells_cel (cs := ys ++ rs) (E := E2) (by rw [hx]; exact hb2) (by simp; omega), ← hl, List.take_left]
  obtain ⟨v', w', hr, hw⟩ := append_run (T := T) (ty := ty) (c2 := c2) (a2 := a2) hT2 hzl (by simpa [Nat.blt_eq] using hbt) hl hnew hroom hsca (s.mono hs.to)
  refine ⟨v', w', _, ?_, rfl, hw⟩
  simp [execOp, resolve, invoke, builtin, f.ev hx, f.ev hy, hr]) hd (by rintro v Γ' rfl; exact kk v)
theorem SP.slv {c : Code} {E k m : Nat} {v : Value} {xs : List Value} {Γ2 : List Asn} (hs : Rm (Sl' E k v m xs) Γ Γ2)
  (kk : ∀ a cap b, v = .slice a m cap → (m ≠ 0 → a = some ⟨b, 0, none⟩) → xs.length = m * k → SP P w0 h0 c Q n L Γ) : SP P w0 h0 c Q n L Γ := by
 intro a w f s
 obtain ⟨h, ⟨hl, hh⟩, _⟩ := star_get hs s
 rcases hh with ⟨e1, e2⟩ | ⟨b, cap, rest, e1, _⟩
 ·exact kk none 0 0 (by rw [e1, e2]) (fun h => absurd e2 h) hl a w f s
 ·exact kk _ cap b e1 (fun _ => rfl) hl a w f s
theorem closeLit {E k m : Nat} {xs : List Value} {b : Nat} {Γ : List Asn} (hl : xs.length = m * k) :
  ∀ h, star (pt b (cel xs E) :: Γ) h → star (Sl' E k (.slice (some ⟨b, 0, none⟩) m m) m xs :: Γ) h := fun h s => by
 have := star_closeS (xs := xs) (rest := []) (E := E) (k := k) (m := m) (cap := m) (b := b) (Γ := Γ) hl (by simpa using hl) (Nat.le_refl _) h (by simpa using s)
 exact this
section
variable {α : Type} {enc : α → List Value} {k : Nat}
theorem SbL.flat (hk : ∀ x, (enc x).length = k) {l : List α} {i off : Nat} {x : α} (h : l[i]? = some x) (ho : off = i * k) : SbL (l.flatMap enc) off k (enc x) := by
 subst ho
 induction l generalizing i with
 | nil => simp at h
 | cons y l ih =>
  cases i with
  | zero =>
   simp at h; subst h
   refine ⟨by simp [hk], ?_⟩
   simp only [Nat.zero_mul, List.drop_zero, List.flatMap_cons]
   exact List.take_left' (hk y)
  | succ i =>
   have := (ih (by simpa using h)).sub
   have e : (i + 1) * k = (enc y).length + i * k := by rw [hk, Nat.add_mul]; omega
   refine ⟨by rw [e, List.flatMap_cons, List.length_append]; omega, ?_⟩
   rw [e, List.flatMap_cons, List.drop_append, List.drop_eq_nil_of_le (by omega), List.nil_append, Nat.add_sub_cancel_left]
   exact this.2
theorem GtL.sub {cs vs : List Value} {off j k : Nat} {v : Value} (h : SbL cs off k vs) (hv : vs[j]? = some v) : GtL cs (off + j) v := ⟨by
 obtain ⟨h1, h2⟩ := h.sub
 rw [← h2, List.getElem?_take, List.getElem?_drop] at hv
 split at hv
 ·exact hv
 ·cases hv⟩
theorem flat_len' (hk : ∀ x, (enc x).length = k) : ∀ l : List α, (l.flatMap enc).length = l.length * k
 | [] => by simp
 | x :: l => by simp [flat_len' hk l, hk, Nat.add_mul, Nat.add_comm]
theorem StL.flat (hk : ∀ x, (enc x).length = k) {l : List α} {i off : Nat} (y : α) (h : i < l.length) (ho : off = i * k) : StL (l.flatMap enc) off (enc y) ((l.set i y).flatMap enc) := by
 subst ho
 induction l generalizing i with
 | nil => simp at h
 | cons z l ih =>
  cases i with
  | zero =>
   refine ⟨by simp [hk], ?_⟩
   simp only [Nat.zero_mul, List.take_zero, List.nil_append, Nat.zero_add, List.set_cons_zero, List.flatMap_cons]
   rw [hk, ← hk z, List.drop_left]
  | succ i =>
   have := (ih (i := i) (by simpa using h)).st
   have e : (i + 1) * k = (enc z).length + i * k := by rw [hk, Nat.add_mul]; omega
   refine ⟨by rw [e, List.flatMap_cons, List.length_append]; omega, ?_⟩
   rw [e, List.set_cons_succ, List.flatMap_cons, this.2, List.flatMap_cons, List.take_append, List.take_of_length_le (show (enc z).length ≤ (enc z).length + i * k by omega), Nat.add_sub_cancel_left, List.drop_append, List.drop_eq_nil_of_le (show (enc z).length ≤ (enc z).length + i * k + (enc y).length by omega), List.nil_append]
   simp [show (enc z).length + i * k + (enc y).length - (enc z).length = i * k + (enc y).length by omega]
theorem StL.field (hk : ∀ x, (enc x).length = k) {l : List α} {i j : Nat} {x y : α} {v : Value} (h : l[i]? = some x) (hy : enc y = (enc x).set j v) (hj : j < k) : StL (l.flatMap enc) (i * k + j) [v] ((l.set i y).flatMap enc) := by
 obtain ⟨hi, hx⟩ := List.getElem?_eq_some_iff.1 h
 have hf := (StL.flat hk (l := l) y hi rfl).st
 have hb := (SbL.flat hk h rfl).sub
 have hlx := hk x
 refine ⟨by have := hb.1; simp only [List.length_singleton]; omega, ?_⟩
 rw [hf.2, hk]
 have e1 : (l.flatMap enc) = (l.flatMap enc).take (i * k) ++ (enc x ++ (l.flatMap enc).drop (i * k + k)) := by
  conv => lhs; rw [← List.take_append_drop (i * k) (l.flatMap enc)]
  congr 1
  conv => lhs; rw [← List.take_append_drop k ((l.flatMap enc).drop (i * k)), hb.2, List.drop_drop]
 have e2 : (l.flatMap enc).take (i * k + j) = (l.flatMap enc).take (i * k) ++ (enc x).take j := by
  conv => lhs; rw [e1]
  have : ((l.flatMap enc).take (i * k)).length = i * k := by rw [List.length_take]; have := hb.1; omega
  rw [List.take_append, this, List.take_of_length_le (by omega), Nat.add_sub_cancel_left, List.take_append_of_le_length (by omega)]
 have e3 : (l.flatMap enc).drop (i * k + j + 1) = (enc x).drop (j + 1) ++ (l.flatMap enc).drop (i * k + k) := by
  conv => lhs; rw [e1]
  have : ((l.flatMap enc).take (i * k)).length = i * k := by rw [List.length_take]; have := hb.1; omega
  rw [List.drop_append, this, List.drop_eq_nil_of_le (by omega), List.nil_append, show i * k + j + 1 - i * k = j + 1 by omega, List.drop_append_of_le_length (by omega)]
 rw [e2]
 show _ = _ ++ [v] ++ (l.flatMap enc).drop (i * k + j + 1)
 rw [e3, hy, List.set_eq_take_append_cons_drop, if_pos (by omega)]
 simp
end
end
end Go.Bk

namespace Go.Bk

class KeyT (P : Program) (T : TypeId) (κ : Type) [DecidableEq κ] (enc : outParam (κ → Value)) : Prop where
 eq : ∀ (a b : κ) w, (Op.equal T (enc a) (enc b)).run P w = .ok (decide (a = b)) w
 chk : ∀ e (a : κ) w, (Instr.checkKey e 10000 T (enc a)).run P w = .ok () w
 now : ∀ kind, P.underlying T = some kind → ∀ a b : κ, Instr.sameNow kind (enc a) (enc b) = none ∨ Instr.sameNow kind (enc a) (enc b) = some (decide (a = b))
 ty : ∃ kind, P.underlying T = some kind
 bits : ∀ a : κ, Instr.sameBits 10000 (enc a) (enc a) = true
class MapT (P : Program) (T : TypeId) (KT ET : outParam Nat) : Prop where
 map : P.underlying T = some (.map KT ET)

def getM {κ β : Type} [DecidableEq κ] : List (κ × β) → κ → Option β
 | [], _ => none
 | (a, v) :: r, k => if k = a then some v else getM r k
def idxM {κ β : Type} [DecidableEq κ] : List (κ × β) → κ → Option Nat
 | [], _ => none
 | (a, v) :: r, k => if k = a then some 0 else (idxM r k).map (· + 1)
def setM {κ β : Type} [DecidableEq κ] : List (κ × β) → κ → β → List (κ × β)
 | [], k, v => [(k, v)]
 | (a, u) :: r, k, v => if k = a then (a, v) :: r else (a, u) :: setM r k v
theorem getM_setM {κ β : Type} [DecidableEq κ] (l : List (κ × β)) (k j : κ) (v : β) : getM (setM l k v) j = if j = k then some v else getM l j := by
 induction l with
 | nil => simp [setM, getM]
 | cons p r ih =>
  obtain ⟨a, u⟩ := p
  simp only [setM]
  by_cases h : k = a
  ·subst h
   simp only [if_true, getM]
   by_cases g : j = k
   ·simp [g]
   ·simp [g]
  ·simp only [if_neg h, getM, ih]
   by_cases g : j = a
   ·subst g; rw [if_pos rfl, if_pos rfl, if_neg (fun e => h e.symm)]
   ·rw [if_neg g, if_neg g]
def entOk {κ β : Type} (ek : κ → Value) (ev : β → Value) (c : Nat) : Nat → List MapEntry → List (κ × β) → Prop
 | _, [], [] => True
 | lo, e :: es, (k, v) :: r => e.key = ek k ∧ e.val = ev v ∧ lo ≤ e.born ∧ e.born < c ∧ entOk ek ev c (e.born + 1) es r
 | _, _, _ => False
def MpR {κ β : Type} (ek : κ → Value) (ev : β → Value) (r : Nat) (l : List (κ × β)) : Asn := fun h =>
 ∃ es c, h r = some (.map es c) ∧ entOk ek ev c 0 es.toList l

section
variable {P : Program} {κ β : Type} [DecidableEq κ] {ek : κ → Value} {ev' : β → Value}
theorem findNow_spec {T : TypeId} [hk : KeyT P T κ ek] {kind : TypeDesc} (hu : P.underlying T = some kind) {c : Nat} (k : κ) : ∀ (es : List MapEntry) (l : List (κ × β)) (lo i : Nat), entOk ek ev' c lo es l →
  Instr.findNow kind (ek k) es i = none ∨ Instr.findNow kind (ek k) es i = some ((idxM l k).bind fun j => (getM l k).map fun v => (i + j, ev' v))
 | [], [], lo, i, _ => .inr rfl
 | [], _ :: _, lo, i, h => by simp [entOk] at h
 | _ :: _, [], lo, i, h => by simp [entOk] at h
 | e :: es, (a, v) :: r, lo, i, h => by
  obtain ⟨h1, h2, _, _, h5⟩ := h
  unfold Instr.findNow
  rw [h1]
  rcases hk.now kind hu k a with hs | hs
  ·left; rw [hs]
  ·rw [hs]
   by_cases g : k = a
   ·right; simp [g, idxM, getM, h2]
   ·simp only [g, decide_false]
    rcases findNow_spec hu k es r _ (i + 1) h5 with q | q
    ·left; exact q
    ·right; rw [q]
     simp only [idxM, getM, if_neg g]
     cases idxM r k with
     | none => rfl
     | some j => simp [show i + 1 + j = i + (j + 1) by omega]
theorem findAsking_spec {T : TypeId} [hk : KeyT P T κ ek] {c : Nat} (k : κ) (w : World) : ∀ (es : List MapEntry) (l : List (κ × β)) (lo i : Nat), entOk ek ev' c lo es l →
  (Instr.findAsking T (ek k) es i).run P w = .ok ((idxM l k).bind fun j => (getM l k).map fun v => (i + j, ev' v)) w
 | [], [], lo, i, _ => rfl
 | [], _ :: _, lo, i, h => by simp [entOk] at h
 | _ :: _, [], lo, i, h => by simp [entOk] at h
 | e :: es, (a, v) :: r, lo, i, h => by
  obtain ⟨h1, h2, _, _, h5⟩ := h
  unfold Instr.findAsking
  rw [h1, ok_of (hk.eq k a w)]
  by_cases g : k = a
  ·simp [g, idxM, getM, h2]
  ·simp only [g, decide_false, Bool.false_eq_true, if_false]
   rw [findAsking_spec k w es r _ (i + 1) h5]
   simp only [idxM, getM, if_neg g]
   cases idxM r k with
   | none => rfl
   | some j => simp [show i + 1 + j = i + (j + 1) by omega]
theorem findKey_spec {T : TypeId} [hk : KeyT P T κ ek] {c : Nat} (k : κ) (w : World) (es : List MapEntry) (l : List (κ × β)) (lo : Nat) (h : entOk ek ev' c lo es l) :
  (Instr.findKey T (ek k) es).run P w = .ok ((idxM l k).bind fun j => (getM l k).map fun v => (j, ev' v)) w := by
 obtain ⟨kind, hu⟩ := hk.ty
 unfold Instr.findKey
 rw [ok_of (run_underlying' hu w)]
 rcases findNow_spec hu k es l lo 0 h with q | q
 ·rw [q]; simp only []; rw [findAsking_spec k w es l lo 0 h]; simp
 ·rw [q]; simp
theorem idxM_get {l : List (κ × β)} {k : κ} : (idxM l k).isSome = (getM l k).isSome := by
 induction l with
 | nil => rfl
 | cons p r ih =>
  obtain ⟨a, u⟩ := p
  simp only [idxM, getM]
  by_cases g : k = a
  ·simp [g]
  ·simp [g, ih]
theorem findKey_some {l : List (κ × β)} {k : κ} {v : β} (h : getM l k = some v) : ∃ j, ((idxM l k).bind fun j => (getM l k).map fun v => (j, ev' v)) = some (j, ev' v) ∧ idxM l k = some j := by
 have := idxM_get (l := l) (k := k)
 rw [h] at this
 cases e : idxM l k with
 | none => rw [e] at this; cases this
 | some j => exact ⟨j, by simp [h], rfl⟩
theorem findKey_none {l : List (κ × β)} {k : κ} (h : getM l k = none) : ((idxM l k).bind fun j => (getM l k).map fun v => (j, ev' v)) = none := by
 rw [h]; cases idxM l k <;> rfl
theorem entOk_push {c : Nat} (k : κ) (v : β) : ∀ (es : List MapEntry) (l : List (κ × β)) (lo : Nat), lo ≤ c → entOk ek ev' c lo es l → entOk ek ev' (c + 1) lo (es ++ [⟨ek k, ev' v, c⟩]) (l ++ [(k, v)])
 | [], [], lo, hlo, _ => ⟨rfl, rfl, hlo, by simp, trivial⟩
 | [], _ :: _, lo, _, h => by simp [entOk] at h
 | _ :: _, [], lo, _, h => by simp [entOk] at h
 | e :: es, (a, u) :: r, lo, hlo, h => by
  obtain ⟨h1, h2, h3, h4, h5⟩ := h
  exact ⟨h1, h2, h3, by omega, entOk_push k v es r _ (by omega) h5⟩
theorem setM_none {l : List (κ × β)} {k : κ} {v : β} (h : getM l k = none) : setM l k v = l ++ [(k, v)] := by
 induction l with
 | nil => rfl
 | cons p r ih =>
  obtain ⟨a, u⟩ := p
  simp only [getM] at h
  by_cases g : k = a
  ·simp [g] at h
  ·simp only [if_neg g] at h; simp only [setM, if_neg g, ih h]; rfl
theorem entOk_set {c : Nat} (k : κ) (v : β) : ∀ (es : List MapEntry) (l : List (κ × β)) (lo j : Nat), idxM l k = some j → entOk ek ev' c lo es l →
  entOk ek ev' c lo (es.modify j fun e => { e with key := ek k, val := ev' v }) (setM l k v)
 | [], [], lo, j, hj, _ => by simp [idxM] at hj
 | [], _ :: _, lo, j, hj, h => by simp [entOk] at h
 | _ :: _, [], lo, j, hj, h => by simp [entOk] at h
 | e :: es, (a, u) :: r, lo, j, hj, h => by
  obtain ⟨h1, h2, h3, h4, h5⟩ := h
  simp only [idxM] at hj
  by_cases g : k = a
  ·simp only [g, if_true, Option.some.injEq] at hj
   subst hj
   simp only [setM, g, if_true, List.modify_zero_cons]
   exact ⟨rfl, rfl, h3, h4, h5⟩
  ·simp only [if_neg g] at hj
   obtain ⟨j', hj', rfl⟩ := Option.map_eq_some_iff.1 hj
   simp only [setM, if_neg g, List.modify_succ_cons]
   exact ⟨h1, h2, h3, h4, entOk_set k v es r _ j' hj' h5⟩
theorem entOk_key {c : Nat} (k : κ) : ∀ (es : List MapEntry) (l : List (κ × β)) (lo j : Nat), idxM l k = some j → entOk ek ev' c lo es l → ∃ e, es[j]? = some e ∧ e.key = ek k
 | [], [], lo, j, hj, _ => by simp [idxM] at hj
 | [], _ :: _, lo, j, hj, h => by simp [entOk] at h
 | _ :: _, [], lo, j, hj, h => by simp [entOk] at h
 | e :: es, (a, u) :: r, lo, j, hj, h => by
  obtain ⟨h1, h2, h3, h4, h5⟩ := h
  simp only [idxM] at hj
  by_cases g : k = a
  ·simp only [g, if_true, Option.some.injEq] at hj
   subst hj; exact ⟨e, rfl, by rw [h1, g]⟩
  ·simp only [if_neg g] at hj
   obtain ⟨j', hj', rfl⟩ := Option.map_eq_some_iff.1 hj
   simpa using entOk_key k es r _ j' hj' h5
end

section
variable {P : Program} {w0 : World} {h0 : Hp} {q : Bool} {ops : Array Oper} {K : Act → World → Prop} {Q : Exit → Act → World → Prop} {rest : List Oper} {n : Nat} {L : Sl} {Γ Γ' Γ2 : List Asn}
variable {d : Tmp} {ty : TypeId} {pos : String} {af : Array Edge}
variable {κ β : Type} [DecidableEq κ] {ek : κ → Value} {ev' : β → Value} {l : List (κ × β)} {r : Nat}
theorem getObj_map {w : World} {es : Array MapEntry} {c : Nat} (h : w.heap[r]? = some (.map es c)) : (getObj r).run P w = .ok (.map es c) w := by
 unfold getObj; simp only [Sem.run, h]
theorem setObj_map {w : World} {es es' : Array MapEntry} {c c' : Nat} (h : w.heap[r]? = some (.map es c)) : (setObj r (.map es' c')).run P w = .ok () (setB w r (.map es' c')) := by
 unfold setObj; simp only [Sem.run, h]; rfl
theorem XL.makeMap {T : TypeId} (hd : Nat.blt d n = true) (k : ∀ r, XL P w0 h0 false ops K Q rest n ((d, .map (some r)) :: L) (MpR ek ev' r [] :: Γ)) :
  XL P w0 h0 false ops K Q (⟨some d, .makeMap T none, ty, pos, af, none⟩ :: rest) n L Γ :=
 XL.valueW (R := fun v Γ' => ∃ r, v = .map (some r) ∧ Γ' = MpR ek ev' r [] :: Γ) (fun a w f s => by
  refine ⟨.map (some w.heap.size), { w with heap := w.heap.push (.map #[] 0) }, _, ?_, ⟨_, rfl, rfl⟩, (s.new _).mono fun h hs => star_head (fun h hp => ⟨#[], 0, hp, trivial⟩) hs⟩
  simp only [execOp, Instr.makeMap, Option.map_none, pure_bind, bind_assoc]
  rw [ok_of (newB w _)]; rfl) hd (by rintro v Γ' ⟨r, rfl, rfl⟩; exact k r)
theorem lookup_run {T KT ET : Nat} {w : World} {k : κ} {ok : Bool} {es : Array MapEntry} {c : Nat} [hT : MapT P T KT ET] [hk : KeyT P KT κ ek] (he : w.heap[r]? = some (.map es c)) (ho : entOk ek ev' c 0 es.toList l) {z : Value}
  (hz : ∀ w, (zeroValue ET).run P w = .ok z w) : (Instr.lookup T (.map (some r)) (ek k) ok).run P w = .ok (if ok then .tuple #[((getM l k).map ev').getD z, .bool (getM l k).isSome] else ((getM l k).map ev').getD z) w := by
 unfold Instr.lookup
 rw [ok_of (run_underlying' hT.map w)]
 simp only [bind_assoc]
 rw [ok_of (getObj_map he)]
 simp only [pure_bind]
 rw [ok_of (hk.chk _ k w), ok_of (findKey_spec k w es.toList l 0 ho)]
 cases hg : getM l k with
 | none => rw [← hg, findKey_none hg]; simp [hz w, hg]
 | some v =>
  obtain ⟨j, hj, _⟩ := findKey_some (ev' := ev') hg
  rw [← hg, hj]; simp [hg]
theorem XL.lookup {x y : Operand} {T KT ET : Nat} {k : κ} {z : Value} (hx : ev L x = some (.map (some r))) (hy : ev L y = some (ek k)) [hT : MapT P T KT ET] [hk : KeyT P KT κ ek] (hs : Rm (MpR ek ev' r l) Γ Γ2) (hz : ∀ w, (zeroValue ET).run P w = .ok z w) (hd : Nat.blt d n = true)
  (kk : XL P w0 h0 q ops K Q rest n ((d, ((getM l k).map ev').getD z) :: L) Γ) : XL P w0 h0 q ops K Q (⟨some d, .lookup T x y false, ty, pos, af, none⟩ :: rest) n L Γ :=
 XL.value (fun a w f s => by
  obtain ⟨h, ⟨es, c, h1, h2⟩, ag⟩ := star_get hs s
  simp only [execOp, f.ev hx, f.ev hy]
  rw [ok_of (lookup_run (ok := false) (ag r _ h1) h2 hz)]; rfl) hd kk
theorem XL.lookupOk {x y : Operand} {T KT ET : Nat} {k : κ} {z : Value} (hx : ev L x = some (.map (some r))) (hy : ev L y = some (ek k)) [hT : MapT P T KT ET] [hk : KeyT P KT κ ek] (hs : Rm (MpR ek ev' r l) Γ Γ2) (hz : ∀ w, (zeroValue ET).run P w = .ok z w) (hd : Nat.blt d n = true)
  (kt : ∀ v, getM l k = some v → XL P w0 h0 q ops K Q rest n ((d, .tuple #[ev' v, .bool true]) :: L) Γ) (kf : getM l k = none → XL P w0 h0 q ops K Q rest n ((d, .tuple #[z, .bool false]) :: L) Γ) : XL P w0 h0 q ops K Q (⟨some d, .lookup T x y true, ty, pos, af, none⟩ :: rest) n L Γ := by
 have hv : ∀ v, (if true = true then Value.tuple #[((getM l k).map ev').getD z, .bool (getM l k).isSome] else ((getM l k).map ev').getD z) = v → XL P w0 h0 q ops K Q rest n ((d, v) :: L) Γ → XL P w0 h0 q ops K Q (⟨some d, .lookup T x y true, ty, pos, af, none⟩ :: rest) n L Γ := fun v e kk =>
  XL.value (fun a w f s => by
   obtain ⟨h, ⟨es, c, h1, h2⟩, ag⟩ := star_get hs s
   simp only [execOp, f.ev hx, f.ev hy]
   rw [ok_of (lookup_run (ok := true) (ag r _ h1) h2 hz), e]; rfl) hd kk
 cases hg : getM l k with
 | none => exact hv _ (by simp [hg]) (kf hg)
 | some v => exact hv _ (by simp [hg]) (kt v hg)
theorem XL.mapUpdate {x y zz : Operand} {T KT ET : Nat} {k : κ} {v : β} (hx : ev L x = some (.map (some r))) (hy : ev L y = some (ek k)) (hz : ev L zz = some (ev' v)) [hT : MapT P T KT ET] [hk : KeyT P KT κ ek] (hs : Rm (MpR ek ev' r l) Γ Γ2)
  (kk : XL P w0 h0 false ops K Q rest n L (MpR ek ev' r (setM l k v) :: Γ2)) : XL P w0 h0 false ops K Q (⟨none, .mapUpdate T x y zz, ty, pos, af, none⟩ :: rest) n L Γ :=
 XL.nothing (fun a w f s => by
  obtain ⟨h, st, ag, fr⟩ := s
  obtain ⟨h1, hr, e, dd, ⟨es, c, hm, ho⟩, st2⟩ := hs.to h st
  have hw : w.heap[r]? = some (.map es c) := ag r _ (by rw [e]; exact un_left hm)
  have hS : Wd w0 h0 (pt r (.map es c) :: Γ2) w := ⟨h, ⟨h1, hr, e, dd, hm, st2⟩, ag, fr⟩
  have run : ∀ es' c', (setObj r (.map es' c')).run P w = .ok () (setB w r (.map es' c')) := fun es' c' => setObj_map hw
  have fin : ∀ es' c', entOk ek ev' c' 0 es'.toList (setM l k v) → Wd w0 h0 (MpR ek ev' r (setM l k v) :: Γ2) (setB w r (.map es' c')) := fun es' c' hok =>
   ((PtAt.here r (.map es c) Γ2).set hS (.map es' c')).mono fun h hs => star_head (fun h hp => ⟨es', c', hp, hok⟩) hs
  simp only [execOp, f.ev hx, f.ev hy, f.ev hz, Instr.mapUpdate]
  cases hg : getM l k with
  | none =>
   refine ⟨_, ?_, fin (es.push ⟨ek k, ev' v, c⟩) (c + 1) ?_⟩
   ·simp only [bind_assoc]
    rw [ok_of (run_underlying' hT.map w)]
    simp only [bind_assoc]
    rw [ok_of (getObj_map hw)]
    simp only [bind_assoc]
    rw [ok_of (hk.chk _ k w), ok_of (findKey_spec k w es.toList l 0 ho), findKey_none hg]
    simp only []
    rw [ok_of (run _ _)]; rfl
   ·rw [setM_none hg]; simpa using entOk_push k v es.toList l 0 (Nat.zero_le _) ho
  | some u =>
   obtain ⟨j, hj, hij⟩ := findKey_some (ev' := ev') hg
   obtain ⟨e0, he0, hek⟩ := entOk_key k es.toList l 0 j hij ho
   refine ⟨_, ?_, fin (es.modify j fun e => { e with key := ek k, val := ev' v }) c ?_⟩
   ·simp only [bind_assoc]
    rw [ok_of (run_underlying' hT.map w)]
    simp only [bind_assoc]
    rw [ok_of (getObj_map hw)]
    simp only [bind_assoc]
    rw [ok_of (hk.chk _ k w), ok_of (findKey_spec k w es.toList l 0 ho), hj]
    simp only [bind_assoc]
    have hkk : (Instr.keyThatStays (((es[j]?).map (·.key)).getD (ek k)) (ek k)).run P w = .ok (ek k) w := by
     have : ((es[j]?).map (·.key)).getD (ek k) = ek k := by
      rw [← Array.getElem?_toList, he0]; exact hek
     rw [this]; unfold Instr.keyThatStays; rw [if_pos (hk.bits k)]; rfl
    rw [ok_of hkk, ok_of (run _ _)]; rfl
   ·rw [Array.toList_modify]; exact entOk_set k v es.toList l 0 j hij ho) kk
end
end Go.Bk

namespace Go.Bk
def bornIn (es : List MapEntry) (seen : List Nat) : List MapEntry := es.filter fun e => !seen.contains e.born
def MpIt {κ β : Type} (ek : κ → Value) (ev : β → Value) (b r : Nat) (l left : List (κ × β)) (cur : Option (κ × β)) : Asn := fun h =>
  b ≠ r ∧ ∃ es c seen, h r = some (.map es c) ∧ h b = some (.mapIter (some r) c seen c) ∧ entOk ek ev c 0 es.toList l ∧
    (bornIn es.toList seen.toList).map (fun e => (e.key, e.val)) = left.map (fun p => (ek p.1, ev p.2)) ∧
    ∀ k v, cur = some (k, v) → ∃ s e, seen.back? = some s ∧ es.find? (fun e => e.born == s) = some e ∧ e.key = ek k ∧ e.val = ev v
section
variable {P : Program} {κ β : Type} {ek : κ → Value} {ev' : β → Value}
theorem entOk_born {c : Nat} : ∀ (es : List MapEntry) (l : List (κ × β)) (lo : Nat), entOk ek ev' c lo es l → ∀ e ∈ es, lo ≤ e.born ∧ e.born < c
  | [], _, _, _, e, he => by cases he
  | _ :: _, [], lo, h, _, _ => by simp [entOk] at h
  | x :: es, (a, u) :: r, lo, h, e, he => by
    obtain ⟨h1, h2, h3, h4, h5⟩ := h
    cases he with
    | head => exact ⟨h3, h4⟩
    | tail _ he => have := entOk_born es r _ h5 e he; omega
theorem entOk_inj {c : Nat} : ∀ (es : List MapEntry) (l : List (κ × β)) (lo : Nat), entOk ek ev' c lo es l → ∀ e ∈ es, ∀ e' ∈ es, e.born = e'.born → e = e'
  | [], _, _, _, e, he, _, _, _ => by cases he
  | _ :: _, [], lo, h, _, _, _, _, _ => by simp [entOk] at h
  | x :: es, (a, u) :: r, lo, h, e, he, e', he', hb => by
    obtain ⟨h1, h2, h3, h4, h5⟩ := h
    cases he with
    | head =>
      cases he' with
      | head => rfl
      | tail _ he' => have := entOk_born es r _ h5 e' he'; omega
    | tail _ he =>
      cases he' with
      | head => have := entOk_born es r _ h5 e he; omega
      | tail _ he' => exact entOk_inj es r _ h5 e he e' he' hb
theorem entOk_map {c : Nat} : ∀ (es : List MapEntry) (l : List (κ × β)) (lo : Nat), entOk ek ev' c lo es l → es.map (fun e => (e.key, e.val)) = l.map (fun p => (ek p.1, ev' p.2))
  | [], [], _, _ => rfl
  | [], _ :: _, lo, h => by simp [entOk] at h
  | _ :: _, [], lo, h => by simp [entOk] at h
  | e :: es, (a, u) :: r, lo, h => by
    obtain ⟨h1, h2, _, _, h5⟩ := h
    simp [h1, h2, entOk_map es r _ h5]
variable {w0 : World} {h0 : Hp} {q : Bool} {ops : Array Oper} {K : Act → World → Prop} {Q : Exit → Act → World → Prop} {rest : List Oper} {n : Nat} {L : Sl} {Γ Γ' Γ2 : List Asn}
variable {d : Tmp} {ty : TypeId} {pos : String} {af : Array Edge} {l left : List (κ × β)} {r b : Nat} {cur : Option (κ × β)}
theorem XL.range {x : Operand} {T KT ET : Nat} (hx : ev L x = some (.map (some r))) [hT : MapT P T KT ET] (hs : Rm (MpR ek ev' r l) Γ Γ2) (hd : Nat.blt d n = true)
    (kk : ∀ b, XL P w0 h0 false ops K Q rest n ((d, .pointer (some ⟨b, 0, none⟩)) :: L) (MpIt ek ev' b r l l none :: Γ2)) : XL P w0 h0 false ops K Q (⟨some d, .range T x, ty, pos, af, none⟩ :: rest) n L Γ :=
  XL.valueW (R := fun v Γ' => ∃ b, v = .pointer (some ⟨b, 0, none⟩) ∧ Γ' = MpIt ek ev' b r l l none :: Γ2) (fun a w f s => by
    obtain ⟨h, st, ag, fr⟩ := s
    obtain ⟨h1, hr, e, dd, ⟨es, c, hm, ho⟩, st2⟩ := hs.to h st
    have hw : w.heap[r]? = some (.map es c) := ag r _ (by rw [e]; exact un_left hm)
    have hS : Wd w0 h0 (pt r (.map es c) :: Γ2) w := ⟨h, ⟨h1, hr, e, dd, hm, st2⟩, ag, fr⟩
    have hlt : r < w.heap.size := (Array.getElem?_eq_some_iff.1 hw).1
    refine ⟨.pointer (some ⟨w.heap.size, 0, none⟩), { w with heap := w.heap.push (.mapIter (some r) c #[] c) }, _, ?_, ⟨_, rfl, rfl⟩, (hS.new _).mono fun h hs => ?_⟩
    · simp only [execOp, f.ev hx, Instr.range, bind_assoc]
      rw [ok_of (run_underlying' hT.map w)]
      simp only [bind_assoc]
      rw [ok_of (getObj_map hw)]
      rfl
    · obtain ⟨k1, k2, e1, d1, hb, k3, k4, e2, d2, hrr, st3⟩ := hs
      refine ⟨un k1 k3, k4, by rw [e1, e2, un_assoc], ?_, ⟨by omega, es, c, #[], ?_, un_left hb, ho, ?_, by simp⟩, st3⟩
      · rw [e2] at d1; exact dj_un.2 ⟨(dj_un_r.1 d1).2, d2⟩
      · have hn : k1 r = none := by
          rcases d1 r with g | g
          · exact g
          · rw [e2, un_left (show k3 r = some _ from hrr)] at g; cases g
        rw [un_right hn]; exact hrr
      · have : bornIn es.toList (#[] : Array Nat).toList = es.toList := by simp [bornIn]
        rw [this]; exact entOk_map _ _ _ ho) hd (by rintro v Γ' ⟨b, rfl, rfl⟩; exact kk b)
theorem getObj_iter {w : World} {o : Obj} (h : w.heap[b]? = some o) (hn : (match o with | .cells .. => false | _ => true) = true) : (getObj b).run P w = .ok o w := by
  unfold getObj; simp only [Sem.run, h]
  cases o <;> first | rfl | cases hn
theorem map_split {α β γ : Type} {f : α → γ} {g : β → γ} : ∀ {xs : List α} {ys : List β} {i : Nat} {x : α}, xs.map f = ys.map g → xs[i]? = some x → ∃ a y b, ys = a ++ y :: b ∧ f x = g y ∧ a.length = i ∧ (xs.take i).map f = a.map g ∧ (xs.drop (i + 1)).map f = b.map g
  | [], ys, i, x, h, hx => by simp at hx
  | u :: xs, [], i, x, h, hx => by simp at h
  | u :: xs, y :: ys, 0, x, h, hx => by
    simp only [List.map_cons, List.cons.injEq] at h
    simp at hx; subst hx
    exact ⟨[], y, ys, rfl, h.1, rfl, rfl, by simpa using h.2⟩
  | u :: xs, y :: ys, i + 1, x, h, hx => by
    simp only [List.map_cons, List.cons.injEq] at h
    obtain ⟨a, z, b, e1, e2, e3, e4, e5⟩ := map_split h.2 (by simpa using hx)
    exact ⟨y :: a, z, b, by simp [e1], e2, by simp [e3], by simp [h.1, e4], by simpa using e5⟩
theorem filter_one {p : MapEntry → Bool} {es : List MapEntry} {i : Nat} {x : MapEntry} (hx : (es.filter p)[i]? = some x) (inj : ∀ e ∈ es, ∀ e' ∈ es, e.born = e'.born → e = e') (nd : es.Pairwise fun a b => a.born ≠ b.born) :
    es.filter (fun e => p e && !(e.born == x.born)) = (es.filter p).take i ++ (es.filter p).drop (i + 1) := by
  have h2 : (es.filter p).Pairwise fun a b => a.born ≠ b.born := List.Pairwise.filter p nd
  rw [show (fun e => p e && !(e.born == x.born)) = (fun (e : MapEntry) => (!(e.born == x.born)) && p e) from by funext e; exact Bool.and_comm _ _]
  rw [← List.filter_filter]
  generalize es.filter p = fs at *
  induction fs generalizing i with
  | nil => simp at hx
  | cons u fs ih =>
    cases i with
    | zero =>
      simp at hx; subst hx
      simp only [List.filter_cons, beq_self_eq_true, Bool.not_true, Bool.false_eq_true, if_false, List.take_zero, List.nil_append]
      show _ = fs
      rw [List.filter_eq_self]
      intro e he
      have := (List.pairwise_cons.1 h2).1 e he
      simp; exact fun g => this g.symm
    | succ i =>
      have hx' : fs[i]? = some x := by simpa using hx
      have hne : u.born ≠ x.born := (List.pairwise_cons.1 h2).1 x (List.mem_of_getElem? hx')
      simp only [List.filter_cons, show (!(u.born == x.born)) = true by simpa using hne, if_true, List.take_succ_cons, List.drop_succ_cons, List.cons_append]
      rw [ih hx' (List.pairwise_cons.1 h2).2]
theorem entOk_nd {c : Nat} : ∀ (es : List MapEntry) (l : List (κ × β)) (lo : Nat), entOk ek ev' c lo es l → es.Pairwise fun a b => a.born ≠ b.born
  | [], _, _, _ => List.Pairwise.nil
  | _ :: _, [], lo, h => by simp [entOk] at h
  | x :: es, (a, u) :: r, lo, h => by
    obtain ⟨h1, h2, h3, h4, h5⟩ := h
    exact List.pairwise_cons.2 ⟨fun e he => by have := entOk_born es r _ h5 e he; omega, entOk_nd es r _ h5⟩
theorem XL.next {x : Operand} (hx : ev L x = some (.pointer (some ⟨b, 0, none⟩))) (hs : Rm (MpIt ek ev' b r l left cur) Γ Γ2) (hd : Nat.blt d n = true)
    (kf : left = [] → XL P w0 h0 false ops K Q rest n ((d, .tuple #[.bool false]) :: L) (MpIt ek ev' b r l left none :: Γ2))
    (kt : ∀ a k v c, left = a ++ (k, v) :: c → XL P w0 h0 false ops K Q rest n ((d, .tuple #[.bool true, ek k, ev' v]) :: L) (MpIt ek ev' b r l (a ++ c) (some (k, v)) :: Γ2)) :
    XL P w0 h0 false ops K Q (⟨some d, .next x false, ty, pos, af, none⟩ :: rest) n L Γ :=
  XL.valueW (R := fun u Γ' => (left = [] ∧ u = .tuple #[.bool false] ∧ Γ' = MpIt ek ev' b r l left none :: Γ2) ∨ ∃ a k v c, left = a ++ (k, v) :: c ∧ u = .tuple #[.bool true, ek k, ev' v] ∧ Γ' = MpIt ek ev' b r l (a ++ c) (some (k, v)) :: Γ2) (fun a w f s => by
    obtain ⟨h, st, ag, fr⟩ := s
    obtain ⟨h1, hr, e, dd, ⟨hne, es, c, seen, hm, hb, ho, hleft, hcur⟩, st2⟩ := hs.to h st
    have hwr : w.heap[r]? = some (.map es c) := ag r _ (by rw [e]; exact un_left hm)
    have hwb : w.heap[b]? = some (.mapIter (some r) c seen c) := ag b _ (by rw [e]; exact un_left hb)
    have hS : Wd w0 h0 (MpIt ek ev' b r l left none :: Γ2) w := ⟨h, ⟨h1, hr, e, dd, ⟨hne, es, c, seen, hm, hb, ho, hleft, by simp⟩, st2⟩, ag, fr⟩
    have hborn := entOk_born es.toList l 0 ho
    have hold : (es.filter fun e => !seen.contains e.born).filter (fun e => decide (e.born < c)) = es.filter fun e => !seen.contains e.born := by
      apply Array.filter_eq_self.2
      intro e he
      have := hborn e (by simpa using (Array.mem_filter.1 he).1)
      simpa using this.2
    have hnew : (es.filter fun e => !seen.contains e.born).filter (fun e => decide (e.born ≥ c)) = #[] := by
      rw [Array.filter_eq_empty_iff]
      intro e he
      have := hborn e (by simpa using (Array.mem_filter.1 he).1)
      simp; omega
    have hall : (!seen.isEmpty && !es.isEmpty && es.all (fun e => decide (e.born ≥ c))) = false := by
      cases hes : es.toList with
      | nil => have : es = #[] := by simpa using hes
               simp [this]
      | cons e0 rest0 =>
        have h0m : e0 ∈ es := by simp [← Array.mem_toList_iff, hes]
        have : es.all (fun e => decide (e.born ≥ c)) = false := by
          rw [← Bool.not_eq_true, Array.all_eq_true']
          intro hh
          have := hh e0 h0m
          have h2 := hborn e0 (by simpa using h0m)
          simp at this; omega
        rw [this]; simp
    have hfl : (es.filter fun e => !seen.contains e.born).toList = bornIn es.toList seen.toList := by
      simp [bornIn]
    have hnx : ∀ (v : Value) (w' : World), (Instr.next (.pointer (some ⟨b, 0, none⟩)) false ty).run P w = .ok v w' → (execOp a.eval ⟨some d, .next x false, ty, pos, af, none⟩).run P w = .ok (.value v) w' := fun v w' hr => by
      simp only [execOp, f.ev hx]; rw [ok_of hr]; rfl
    by_cases hemp : (es.filter fun e => !seen.contains e.born).size = 0
    · have hz : (es.filter fun e => !seen.contains e.born) = #[] := Array.size_eq_zero_iff.1 hemp
      have hl0 : left = [] := by
        have : bornIn es.toList seen.toList = [] := by rw [← hfl, hz]
        rw [this] at hleft; simpa using hleft.symm
      refine ⟨_, w, _, hnx (.tuple #[.bool false]) w ?_, .inl ⟨hl0, rfl, rfl⟩, hS⟩
      unfold Instr.next
      show Sem.run P (getObj b >>= _) w = _
      rw [ok_of (getObj_iter hwb rfl)]
      dsimp only
      rw [ok_of (getObj_map hwr)]
      simp only [hall, Bool.false_eq_true, if_false, hold, hnew]
      rw [hz]
      simp [choose, Sem.run, Question.forced]
    · obtain ⟨j, w2, hj, hch, hw2⟩ : ∃ j w2, j < (es.filter fun e => !seen.contains e.born).size ∧ (choose (.mapNext (es.filter fun e => !seen.contains e.born).size)).run P w = .ok j w2 ∧ (w2 = w ∨ w2 = w.drew) := by
        generalize (es.filter fun e => !seen.contains e.born).size = N at hemp
        by_cases hN : N ≤ 1
        · exact ⟨0, w, by omega, by simp [choose, Sem.run, Question.forced, hN], .inl rfl⟩
        · refine ⟨_, w.drew, ?_, by simp [choose, Sem.run, Question.forced, hN]; rfl, .inr rfl⟩
          exact Nat.mod_lt _ (by omega)
      have hwd : w2.heap = w.heap := by rcases hw2 with rfl | rfl <;> rfl
      have hS2 : Wd w0 h0 (MpIt ek ev' b r l left none :: Γ2) w2 := by rcases hw2 with rfl | rfl; exact hS; exact hS.drew _
      have hget : (es.filter fun e => !seen.contains e.born)[j]? = some (es.filter fun e => !seen.contains e.born)[j] := Array.getElem?_eq_getElem hj
      generalize hx0 : (es.filter fun e => !seen.contains e.born)[j] = x0 at hget
      have hgl : (bornIn es.toList seen.toList)[j]? = some x0 := by rw [← hfl, Array.getElem?_toList]; exact hget
      obtain ⟨al, ⟨k0, v0⟩, bl, e1, e2, e3, e4, e5⟩ := map_split hleft hgl
      simp only [Prod.mk.injEq] at e2
      refine ⟨_, setB w2 b (.mapIter (some r) c (seen.push x0.born) c), _, hnx (.tuple #[.bool true, x0.key, x0.val]) _ ?_, .inr ⟨al, k0, v0, bl, e1, by rw [e2.1, e2.2], rfl⟩, ?_⟩
      · unfold Instr.next
        show Sem.run P (getObj b >>= _) w = _
        rw [ok_of (getObj_iter hwb rfl)]
        dsimp only
        rw [ok_of (getObj_map hwr)]
        simp only [hall, Bool.false_eq_true, if_false, hold, hnew]
        have hne0 : (es.filter fun e => !seen.contains e.born).isEmpty = false := by
          rw [Array.isEmpty_eq_false_iff]; intro g; rw [g] at hemp; simp at hemp
        simp only [hne0, Bool.false_eq_true, if_false, Array.append_empty, Array.empty_append, Array.size_map, bind_assoc]
        rw [ok_of hch]
        simp only [Array.getElem?_map, hget, Option.map_some]
        have hset : (setObj b (.mapIter (some r) c (seen.push x0.born) c)).run P w2 = .ok () (setB w2 b (.mapIter (some r) c (seen.push x0.born) c)) := by
          unfold setObj; simp only [Sem.run, hwd, hwb]; unfold setB; rw [hwd]
        rw [ok_of hset]; rfl
      · obtain ⟨hh, st', ag', fr'⟩ := hS2
        obtain ⟨p1, p2, e', d', ⟨hne', es', c', seen', hm', hb', _, _, _⟩, st2'⟩ := st'
        have q1 : w2.heap[r]? = some (.map es' c') := ag' r _ (by rw [e']; exact un_left hm')
        have q2 : w2.heap[b]? = some (.mapIter (some r) c' seen' c') := ag' b _ (by rw [e']; exact un_left hb')
        rw [hwd, hwr] at q1; rw [hwd, hwb] at q2
        cases q1; cases q2
        have hP : PtAt (pt b (.mapIter (some r) c seen c) :: (fun h => h r = some (.map es c)) :: Γ2) b (.mapIter (some r) c seen c) (fun o => pt b o :: (fun h => h r = some (.map es c)) :: Γ2) := PtAt.here _ _ _
        have hT : Wd w0 h0 (pt b (.mapIter (some r) c seen c) :: (fun h => h r = some (.map es c)) :: Γ2) w2 := by
          refine ⟨hh, ?_, ag', fr'⟩
          rw [e']
          refine ⟨fun x => if x = b then p1 b else none, un (fun x => if x = b then none else p1 x) p2, ?_, ?_, by simp [pt, hb'], fun x => if x = b then none else p1 x, p2, rfl, ?_, by show (if r = b then none else p1 r) = _; rw [if_neg (fun g => hne' g.symm)]; exact hm', st2'⟩
          · funext x; unfold un; by_cases g : x = b
            · subst g; simp [hb']
            · simp [g]
          · intro x; by_cases g : x = b
            · right
              subst g
              rw [un_none]; refine ⟨by simp, ?_⟩
              rcases d' x with g | g
              · rw [hb'] at g; cases g
              · exact g
            · left; simp [g]
          · intro x; by_cases g : x = b
            · left; simp [g]
            · rcases d' x with g2 | g2
              · left; simp [g, g2]
              · exact .inr g2
        refine (hP.set hT (.mapIter (some r) c (seen.push x0.born) c)).mono fun h hs => ?_
        obtain ⟨m1, m2, f1, f2, f3, m3, m4, f4, f5, f6, f7⟩ := hs
        subst f4
        have f2' := dj_un_r.1 f2
        refine ⟨un m1 m3, m4, by rw [f1, un_assoc], dj_un.2 ⟨f2'.2, f5⟩, ⟨hne, es, c, seen.push x0.born, ?_, un_left f3, ho, ?_, ?_⟩, f7⟩
        · have : m1 r = none := by
            rcases f2'.1 r with g | g
            · exact g
            · rw [f6] at g; cases g
          rw [un_right this]; exact f6
        · have hb1 : bornIn es.toList (seen.push x0.born).toList = (bornIn es.toList seen.toList).take j ++ (bornIn es.toList seen.toList).drop (j + 1) := by
            rw [bornIn, bornIn, ← filter_one hgl (entOk_inj _ _ _ ho) (entOk_nd _ _ _ ho)]
            congr 1; funext e
            simp [Bool.not_or]; rfl
          rw [hb1, List.map_append, e4, e5, List.map_append]
        · intro k v hkv
          simp only [Option.some.injEq, Prod.mk.injEq] at hkv
          obtain ⟨rfl, rfl⟩ := hkv
          have hmem : x0 ∈ es := by
            have := List.mem_of_getElem? hgl
            have := (List.mem_filter.1 this).1
            simpa using this
          obtain ⟨y, hy⟩ : ∃ y, es.find? (fun e => e.born == x0.born) = some y := by
            cases hf : es.find? (fun e => e.born == x0.born) with
            | some y => exact ⟨y, rfl⟩
            | none => have := Array.find?_eq_none.1 hf x0 hmem; simp at this
          have hyb : y.born = x0.born := by simpa using Array.find?_some hy
          have hym : y ∈ es := Array.mem_of_find?_eq_some hy
          have hyx : y = x0 := entOk_inj _ _ _ ho y (by simpa using hym) x0 (by simpa using hmem) hyb
          exact ⟨x0.born, y, by simp, hy, by rw [hyx]; exact e2.1, by rw [hyx]; exact e2.2⟩) hd (by
      rintro u Γ' (⟨h1, rfl, rfl⟩ | ⟨a, k, v, c, h1, rfl, rfl⟩)
      · exact kf h1
      · exact kt a k v c h1)
end
end Go.Bk
namespace Go.Bk
section
variable {P : Program} {κ β : Type} {ek : κ → Value} {ev' : β → Value}
variable {w0 : World} {h0 : Hp} {q : Bool} {ops : Array Oper} {K : Act → World → Prop} {Q : Exit → Act → World → Prop} {rest : List Oper} {n : Nat} {L : Sl} {Γ Γ' Γ2 : List Asn}
variable {d : Tmp} {ty : TypeId} {pos : String} {af : Array Edge} {l left : List (κ × β)} {r b : Nat}
theorem XL.entry {x : Operand} {k : κ} {v : β} (hx : ev L x = some (.pointer (some ⟨b, 0, none⟩))) (hs : Rm (MpIt ek ev' b r l left (some (k, v))) Γ Γ2) (hd : Nat.blt d n = true)
    (kk : XL P w0 h0 q ops K Q rest n ((d, .tuple #[ek k, ev' v]) :: L) Γ) : XL P w0 h0 q ops K Q (⟨some d, .entry x, ty, pos, af, none⟩ :: rest) n L Γ :=
  XL.value (fun a w f s => by
    obtain ⟨h, ⟨hne, es, c, seen, hm, hb, ho, hleft, hcur⟩, ag⟩ := star_get hs s
    obtain ⟨s, e, h1, h2, h3, h4⟩ := hcur k v rfl
    simp only [execOp, f.ev hx]
    have : (Instr.entry (.pointer (some ⟨b, 0, none⟩))).run P w = .ok (.tuple #[ek k, ev' v]) w := by
      unfold Instr.entry
      show Sem.run P (getObj b >>= _) w = _
      rw [ok_of (getObj_iter (ag b _ hb) rfl)]
      simp only [h1]
      rw [ok_of (getObj_map (ag r _ hm))]
      simp [h2, h3, h4]
    rw [ok_of this]; rfl) hd kk
theorem MpIt.done {cur : Option (κ × β)} : ∀ h, MpIt ek ev' b r l left cur h → MpR ek ev' r l h := fun h ⟨_, es, c, seen, hm, _, ho, _, _⟩ => ⟨es, c, hm, ho⟩
end
end Go.Bk

namespace Go.Bk
structure Pl where
 x : Int
 y : Int
 z : Int
 deriving DecidableEq
@[reducible] def Pl.cs (p : Pl) : List Value := [.int .i64 p.x, .int .i64 p.y, .int .i64 p.z]
@[reducible] def Pl.v (p : Pl) : Value := .agg #[.int .i64 p.x, .int .i64 p.y, .int .i64 p.z]
structure C2 where
 a : Int
 b : Int
 deriving DecidableEq
@[reducible] def C2.cs (p : C2) : List Value := [.int .u8 p.a, .int .u8 p.b]
@[reducible] def C2.v (p : C2) : Value := .agg #[.int .u8 p.a, .int .u8 p.b]

section
variable {P : Program}
theorem part_sc {t off : Nat} {cs : Array Value} {v : Value} {w : World} [ht : Sc P t] (h : cs[off]? = some v) : (part t cs off).run P w = .ok v w := by
 unfold part; rw [ok_of (ht.agg w)]; simp [h]
structure Eq3 (P : Program) (T t : TypeId) (k : IntKind) : Prop where
 un : ∃ f0 f1 f2, P.underlying T = some (.struct #[f0, f1, f2]) ∧ f0.name ≠ "_" ∧ f1.name ≠ "_" ∧ f2.name ≠ "_" ∧ f0.offset = 0 ∧ f1.offset = 1 ∧ f2.offset = 2 ∧ f0.type = t ∧ f1.type = t ∧ f2.type = t
 held : P.stoodInHeld T = false
 guard : P.eqGuardType P.depth T = false
structure Eq2 (P : Program) (T t : TypeId) (k : IntKind) : Prop where
 un : ∃ f0 f1, P.underlying T = some (.struct #[f0, f1]) ∧ f0.name ≠ "_" ∧ f1.name ≠ "_" ∧ f0.offset = 0 ∧ f1.offset = 1 ∧ f0.type = t ∧ f1.type = t
 held : P.stoodInHeld T = false
 guard : P.eqGuardType P.depth T = false
theorem eqIn3 {T t : TypeId} {k : IntKind} (h : Eq3 P T t k) [hs : Sc P t] [hi : Ity P t k] {d : Nat} (a0 a1 a2 b0 b1 b2 : Int) (w : World) :
  (Op.equalIn (d + 2) T (.agg #[.int k a0, .int k a1, .int k a2]) (.agg #[.int k b0, .int k b1, .int k b2])).run P w = .ok (decide (a0 = b0 ∧ a1 = b1 ∧ a2 = b2)) w := by
 obtain ⟨f0, f1, f2, hu, n0, n1, n2, o0, o1, o2, t0, t1, t2⟩ := h.un
 have hf : P.fieldsOf T = #[f0, f1, f2] := by unfold Program.fieldsOf; rw [hu]
 rw [run_equalIn_struct w (d + 1) T _ _ (by rw [hf]; exact hu) h.held, hf]
 have e : ∀ x y : Int, (Op.equalIn (d + 1) t (.int k x) (.int k y)).run P w = .ok (x == y) w := fun x y => run_equalIn_int w d t k k x y hi.int
 have p : ∀ (cs : Array Value) off v, cs[off]? = some v → (part t cs off).run P w = .ok v w := fun cs off v hv => part_sc hv
 simp only [Op.eqFields, n0, n1, n2, ne_eq, not_false_eq_true, if_true, o0, o1, o2, t0, t1, t2]
 rw [ok_of (p _ 0 (.int k a0) rfl), ok_of (p _ 0 (.int k b0) rfl), ok_of (e _ _)]
 by_cases g0 : a0 = b0
 ·simp only [g0, beq_self_eq_true, Bool.not_true, Bool.false_eq_true, if_false]
  rw [ok_of (p _ 1 (.int k a1) rfl), ok_of (p _ 1 (.int k b1) rfl), ok_of (e _ _)]
  by_cases g1 : a1 = b1
  ·simp only [g1, beq_self_eq_true, Bool.not_true, Bool.false_eq_true, if_false]
   rw [ok_of (p _ 2 (.int k a2) rfl), ok_of (p _ 2 (.int k b2) rfl), ok_of (e _ _)]
   by_cases g2 : a2 = b2
   ·simp [g2]
   ·simp [g2]
  ·simp [g1]
 ·simp [g0]
theorem eqIn2 {T t : TypeId} {k : IntKind} (h : Eq2 P T t k) [hs : Sc P t] [hi : Ity P t k] {d : Nat} (a0 a1 b0 b1 : Int) (w : World) :
  (Op.equalIn (d + 2) T (.agg #[.int k a0, .int k a1]) (.agg #[.int k b0, .int k b1])).run P w = .ok (decide (a0 = b0 ∧ a1 = b1)) w := by
 obtain ⟨f0, f1, hu, n0, n1, o0, o1, t0, t1⟩ := h.un
 have hf : P.fieldsOf T = #[f0, f1] := by unfold Program.fieldsOf; rw [hu]
 rw [run_equalIn_struct w (d + 1) T _ _ (by rw [hf]; exact hu) h.held, hf]
 have e : ∀ x y : Int, (Op.equalIn (d + 1) t (.int k x) (.int k y)).run P w = .ok (x == y) w := fun x y => run_equalIn_int w d t k k x y hi.int
 have p : ∀ (cs : Array Value) off v, cs[off]? = some v → (part t cs off).run P w = .ok v w := fun cs off v hv => part_sc hv
 simp only [Op.eqFields, n0, n1, ne_eq, not_false_eq_true, if_true, o0, o1, t0, t1]
 rw [ok_of (p _ 0 (.int k a0) rfl), ok_of (p _ 0 (.int k b0) rfl), ok_of (e _ _)]
 by_cases g0 : a0 = b0
 ·simp only [g0, beq_self_eq_true, Bool.not_true, Bool.false_eq_true, if_false]
  rw [ok_of (p _ 1 (.int k a1) rfl), ok_of (p _ 1 (.int k b1) rfl), ok_of (e _ _)]
  by_cases g1 : a1 = b1
  ·simp [g1]
  ·simp [g1]
 ·simp [g0]
theorem chk3 {T t : TypeId} {k : IntKind} (h : Eq3 P T t k) [hs : Sc P t] [hi : Ity P t k] (e : Bool) {d : Nat} (a0 a1 a2 : Int) (w : World) :
  (Instr.checkKey e (d + 2) T (.agg #[.int k a0, .int k a1, .int k a2])).run P w = .ok () w := by
 obtain ⟨f0, f1, f2, hu, n0, n1, n2, o0, o1, o2, t0, t1, t2⟩ := h.un
 have p : ∀ (cs : Array Value) off v, cs[off]? = some v → (part t cs off).run P w = .ok v w := fun cs off v hv => part_sc hv
 have c : ∀ x : Int, (Instr.checkKey e (d + 1) t (.int k x)).run P w = .ok () w := fun x => by
  unfold Instr.checkKey; rw [ok_of (run_underlying' hi.int w)]; rfl
 unfold Instr.checkKey
 rw [ok_of (run_underlying' hu w)]
 simp [n0, n1, n2, o0, o1, o2, t0, t1, t2, p #[.int k a0, .int k a1, .int k a2] 0 (.int k a0) rfl, p #[.int k a0, .int k a1, .int k a2] 1 (.int k a1) rfl, p #[.int k a0, .int k a1, .int k a2] 2 (.int k a2) rfl, c]
theorem KeyT.three {T t : TypeId} (h : Eq3 P T t .i64) [hs : Sc P t] [hi : Ity P t .i64] : KeyT P T Pl Pl.v where
 eq a b w := equal_of' fun d => by
  rw [eqIn3 h]
  congr 1
  cases a; cases b; simp
 chk e a w := chk3 h e (d := 9998) _ _ _ w
 now kind hk a b := by
  obtain ⟨f0, f1, f2, hu, _⟩ := h.un
  rw [hu] at hk; cases hk
  exact .inl rfl
 ty := by obtain ⟨f0, f1, f2, hu, _⟩ := h.un; exact ⟨_, hu⟩
 bits a := by
  show Instr.sameBits (9999 + 1) _ _ = true
  unfold Instr.sameBits
  simp [Instr.sameBits]
where
 equal_of' {T : TypeId} {x y : Value} {w : World} {b : Bool} (h : ∀ d, (Op.equalIn (d + 2) T x y).run P w = .ok b w) : (Op.equal T x y).run P w = .ok b w := h 9998
end
end Go.Bk

namespace Go.Bk
section
variable {α : Type} {enc : α → List Value} {k : Nat}
theorem flat_len (hk : ∀ x, (enc x).length = k) : ∀ l : List α, (l.flatMap enc).length = l.length * k
 | [] => by simp
 | x :: l => by simp [flat_len hk l, hk, Nat.add_mul, Nat.add_comm]
theorem flat_drop (hk : ∀ x, (enc x).length = k) : ∀ (l : List α) (i : Nat), (l.flatMap enc).drop (i * k) = (l.drop i).flatMap enc
 | [], i => by simp
 | x :: l, 0 => by simp
 | x :: l, i + 1 => by
  simp only [List.flatMap_cons, List.drop_succ_cons]
  rw [← flat_drop hk l i, List.drop_append, hk, List.drop_eq_nil_of_le (by rw [hk, Nat.add_mul]; omega)]
  simp; congr 1; rw [Nat.add_mul]; omega
theorem flat_take (hk : ∀ x, (enc x).length = k) : ∀ (l : List α) (i : Nat), (l.flatMap enc).take (i * k) = (l.take i).flatMap enc
 | [], i => by simp
 | x :: l, 0 => by simp
 | x :: l, i + 1 => by
  simp only [List.flatMap_cons, List.take_succ_cons]
  rw [← flat_take hk l i, List.take_append, hk, List.take_of_length_le (by rw [hk, Nat.add_mul]; omega)]
  congr 2; rw [Nat.add_mul]; omega
theorem SbL.row (hk : ∀ x, (enc x).length = k) {l : List α} {i off : Nat} {x : α} {pre rest : List Value} (h : l[i]? = some x) (ho : off = pre.length + i * k) : SbL (pre ++ (l.flatMap enc ++ rest)) off k (enc x) := by
 obtain ⟨hi, hx⟩ := List.getElem?_eq_some_iff.1 h
 have hl := flat_len hk l
 have h1 : i * k + k ≤ l.length * k := by rw [← Nat.succ_mul]; exact Nat.mul_le_mul_right k hi
 refine ⟨by simp [hl]; omega, ?_⟩
 rw [ho, List.drop_append, List.drop_eq_nil_of_le (by omega), List.nil_append, Nat.add_sub_cancel_left, List.drop_append, flat_drop hk, List.drop_eq_getElem_cons hi, hx]
 simp only [List.flatMap_cons, List.append_assoc]
 exact List.take_left' (hk x)
theorem StL.row (hk : ∀ x, (enc x).length = k) {l : List α} {i off : Nat} (y : α) {pre rest : List Value} (h : i < l.length) (ho : off = pre.length + i * k) : StL (pre ++ (l.flatMap enc ++ rest)) off (enc y) (pre ++ ((l.set i y).flatMap enc ++ rest)) := by
 have hl := flat_len hk l
 have h1 : i * k + k ≤ l.length * k := by rw [← Nat.succ_mul]; exact Nat.mul_le_mul_right k h
 refine ⟨by simp [hl, hk]; omega, ?_⟩
 rw [ho, List.take_append, List.take_of_length_le (by omega), Nat.add_sub_cancel_left, List.take_append, flat_take hk, hk, List.drop_append, List.drop_eq_nil_of_le (by omega), List.nil_append]
 rw [show pre.length + i * k + k - pre.length = (i + 1) * k by rw [Nat.add_mul]; omega, List.drop_append, flat_drop hk]
 rw [show i * k - (l.flatMap enc).length = 0 by omega, List.take_zero]
 rw [show (i + 1) * k - (l.flatMap enc).length = 0 by rw [hl, Nat.add_mul]; omega, List.drop_zero]
 rw [List.set_eq_take_append_cons_drop, if_pos h]
 simp
end
theorem C2.len (x : C2) : x.cs.length = 2 := rfl
theorem Pl.len (x : Pl) : x.cs.length = 3 := rfl
structure Tk where
 i : Int
 due : Int
 deriving DecidableEq
@[reducible] def Tk.cs (p : Tk) : List Value := [.int .i64 p.i, .int .i64 p.due]
theorem Tk.len (x : Tk) : x.cs.length = 2 := rfl
structure Ch where
 cells : List C2
 lights : List C2
 tv : Value
 ticks : List Tk
def Ch.cs (c : Ch) : List Value := c.cells.flatMap C2.cs ++ (c.lights.flatMap C2.cs ++ [c.tv])
structure Ch.Ok (c : Ch) : Prop where
 nc : c.cells.length = 4096
 nl : c.lights.length = 4096
 sc : sca c.tv = true
 rc : ∀ x ∈ c.cells, 0 ≤ x.a ∧ x.a ≤ 255 ∧ 0 ≤ x.b ∧ x.b ≤ 255
 rl : ∀ x ∈ c.lights, 0 ≤ x.a ∧ x.a ≤ 255 ∧ 0 ≤ x.b ∧ x.b ≤ 255
theorem Ch.len {c : Ch} (h : c.Ok) : c.cs.length = 16385 := by unfold Ch.cs; simp [flat_len C2.len, h.nc, h.nl]
theorem Ch.cell_at {c : Ch} {i off : Nat} {x : C2} (h : c.cells[i]? = some x) (ho : off = i * 2) : SbL c.cs off 2 x.cs := by
 have := SbL.row (pre := []) (rest := c.lights.flatMap C2.cs ++ [c.tv]) C2.len h (off := off) (by simp [ho])
 simpa [Ch.cs] using this
theorem Ch.light_at {c : Ch} (hc : c.Ok) {i off : Nat} {x : C2} (h : c.lights[i]? = some x) (ho : off = 8192 + i * 2) : SbL c.cs off 2 x.cs :=
 SbL.row (pre := c.cells.flatMap C2.cs) (rest := [c.tv]) C2.len h (by rw [flat_len C2.len, hc.nc, ho])
theorem Ch.cell_set {c : Ch} (hc : c.Ok) {i off : Nat} (y : C2) (h : i < 4096) (ho : off = i * 2) : StL c.cs off y.cs { c with cells := c.cells.set i y }.cs := by
 have := StL.row (pre := []) (rest := c.lights.flatMap C2.cs ++ [c.tv]) C2.len y (l := c.cells) (i := i) (by rw [hc.nc]; exact h) (off := off) (by simp [ho])
 simpa [Ch.cs] using this
theorem Ch.light_set {c : Ch} (hc : c.Ok) {i off : Nat} (y : C2) (h : i < 4096) (ho : off = 8192 + i * 2) : StL c.cs off y.cs { c with lights := c.lights.set i y }.cs :=
 StL.row (pre := c.cells.flatMap C2.cs) (rest := [c.tv]) C2.len y (by rw [hc.nl]; exact h) (by rw [flat_len C2.len, hc.nc, ho])
theorem Ch.tv_at {c : Ch} (hc : c.Ok) : GtL c.cs 16384 c.tv := ⟨by
 unfold Ch.cs
 rw [List.getElem?_append_right (by simp [flat_len C2.len, hc.nc]), List.getElem?_append_right (by simp [flat_len C2.len, hc.nc, hc.nl])]
 simp [flat_len C2.len, hc.nc, hc.nl]⟩
theorem Ch.tv_set {c : Ch} (hc : c.Ok) (v : Value) : StL c.cs 16384 [v] { c with tv := v }.cs := ⟨by rw [Ch.len hc]; simp, by
 unfold Ch.cs
 have e : (c.cells.flatMap C2.cs ++ (c.lights.flatMap C2.cs ++ [c.tv])) = (c.cells.flatMap C2.cs ++ c.lights.flatMap C2.cs) ++ [c.tv] := by simp
 have hl : (c.cells.flatMap C2.cs ++ c.lights.flatMap C2.cs).length = 16384 := by simp [flat_len C2.len, hc.nc, hc.nl]
 simp only [e]
 rw [List.take_left' hl, List.drop_eq_nil_of_le (by rw [List.length_append, hl]; simp)]
 simp⟩
end Go.Bk

namespace Go.Bk
def bnd (L : Sl) (x : Option Operand) (dflt l : Nat) : Prop := match x with
 | none => l = dflt
 | some x => ∃ i : Int, ev L x = some (.int .i64 i) ∧ i = (l : Int)
class EqT (P : Program) (T : TypeId) (α : Type) [DecidableEq α] (enc : outParam (α → List Value)) : Prop where
 eq : ∀ (a b : α) w, (Op.equal T (.agg (enc a).toArray) (.agg (enc b).toArray)).run P w = .ok (decide (a = b)) w
 guard : P.eqGuardType P.depth T = false
theorem EqT.three {P : Program} {T t : TypeId} (h : Eq3 P T t .i64) [hs : Sc P t] [hi : Ity P t .i64] : EqT P T Pl Pl.cs where
 eq a b w := (KeyT.three h).eq a b w
 guard := h.guard
theorem EqT.two {P : Program} {T t : TypeId} (h : Eq2 P T t .u8) [hs : Sc P t] [hi : Ity P t .u8] : EqT P T C2 C2.cs where
 eq a b w := by
  show (Op.equalIn 10000 T _ _).run P w = _
  have := eqIn2 h (d := 9998) a.a a.b b.a b.b w
  rw [this]; congr 1; cases a; cases b; simp
 guard := h.guard
structure Row (α : Type) (N : Nat) where
 l : List α
 n : l.length = N
 deriving DecidableEq
section
variable {P : Program} {w0 : World} {h0 : Hp} {q : Bool} {ops : Array Oper} {K : Act → World → Prop} {Q : Exit → Act → World → Prop} {rest : List Oper} {n : Nat} {L : Sl} {Γ Γ' : List Asn}
variable {d : Tmp} {ty : TypeId} {pos : String} {af : Array Edge}
theorem eqIn_sl {d T e : Nat} (h : P.underlying T = some (.slice e)) (a : Option Addr) (m c : Nat) (w : World) : (Op.equalIn (d + 1) T (.slice a m c) (.slice none 0 0)).run P w = .ok a.isNone w := by
 cases a <;> simp [Op.equalIn, run_underlying' h w]
theorem XL.slnil {x : Operand} {T T2 E k m c : Nat} {a : Option Addr} (hx : ev L x = some (.slice a m c)) [hT : Slt P T E k] (hd : Nat.blt d n = true) (k : XL P w0 h0 q ops K Q rest n ((d, .bool a.isNone) :: L) Γ) :
  XL P w0 h0 q ops K Q (⟨some d, .binOp .eql T x (.const (.slice none 0 0)) T2, ty, pos, af, none⟩ :: rest) n L Γ :=
 XL.value (fun a' w f s => by have := equal_of (P := P) (w := w) fun d => eqIn_sl (d := d) hT.slt a m c w; simp only [execOp, f.ev hx, eqGuard, binOp, evc]; simp [this]) hd k
theorem eqT_run {T : TypeId} {α : Type} [DecidableEq α] {enc : α → List Value} [h : EqT P T α enc] (x y : Operand) (a b : α) (w : World) :
  (do eqGuard .eql T x y (.agg (enc a).toArray) (.agg (enc b).toArray); binOp .eql T (.agg (enc a).toArray) (.agg (enc b).toArray)).run P w = .ok (.bool (decide (a = b))) w := by
 have hg := h.guard
 have he := h.eq a b w
 simp [eqGuard, binOp, program, Sem.run, hg, he]
theorem neqT_run {T : TypeId} {α : Type} [DecidableEq α] {enc : α → List Value} [h : EqT P T α enc] (x y : Operand) (a b : α) (w : World) :
  (do eqGuard .neq T x y (.agg (enc a).toArray) (.agg (enc b).toArray); binOp .neq T (.agg (enc a).toArray) (.agg (enc b).toArray)).run P w = .ok (.bool (!decide (a = b))) w := by
 have hg := h.guard
 have he := h.eq a b w
 simp [eqGuard, binOp, program, Sem.run, hg, he]
theorem XL.eqlT {x y : Operand} {T T2 : Nat} {α : Type} [DecidableEq α] {enc : α → List Value} (a b : α) [h : EqT P T α enc] (hx : ev L x = some (.agg (enc a).toArray)) (hy : ev L y = some (.agg (enc b).toArray)) (hd : Nat.blt d n = true)
  (kt : a = b → XL P w0 h0 q ops K Q rest n ((d, .bool true) :: L) Γ) (kf : a ≠ b → XL P w0 h0 q ops K Q rest n ((d, .bool false) :: L) Γ) :
  XL P w0 h0 q ops K Q (⟨some d, .binOp .eql T x y T2, ty, pos, af, none⟩ :: rest) n L Γ := by
 by_cases g : a = b
 ·refine XL.value (fun a' w f s => ?_) hd (kt g)
  simp only [execOp, f.ev hx, f.ev hy]
  rw [ok_of (eqT_run (h := h) x y a b w)]; simp [g]
 ·refine XL.value (fun a' w f s => ?_) hd (kf g)
  simp only [execOp, f.ev hx, f.ev hy]
  rw [ok_of (eqT_run (h := h) x y a b w)]; simp [g]
theorem XL.neqT {x y : Operand} {T T2 : Nat} {α : Type} [DecidableEq α] {enc : α → List Value} (a b : α) [h : EqT P T α enc] (hx : ev L x = some (.agg (enc a).toArray)) (hy : ev L y = some (.agg (enc b).toArray)) (hd : Nat.blt d n = true)
  (kt : a ≠ b → XL P w0 h0 q ops K Q rest n ((d, .bool true) :: L) Γ) (kf : a = b → XL P w0 h0 q ops K Q rest n ((d, .bool false) :: L) Γ) :
  XL P w0 h0 q ops K Q (⟨some d, .binOp .neq T x y T2, ty, pos, af, none⟩ :: rest) n L Γ := by
 by_cases g : a = b
 ·refine XL.value (fun a' w f s => ?_) hd (kf g)
  simp only [execOp, f.ev hx, f.ev hy]
  rw [ok_of (neqT_run (h := h) x y a b w)]; simp [g]
 ·refine XL.value (fun a' w f s => ?_) hd (kt g)
  simp only [execOp, f.ev hx, f.ev hy]
  rw [ok_of (neqT_run (h := h) x y a b w)]; simp [g]

/-! ### parts of slices -/
theorem bound1 {a : Act} (f : Fit n L a) {x : Operand} {l y dd : Nat} (h : bnd L (some x) dd l) (hl : l ≤ y) (c : BoundsCode) (w : World) : (Instr.sliceBound (a.eval x) y c).run P w = .ok l w := by
 obtain ⟨i, h1, h2⟩ := h
 simp only [f.ev h1, Instr.sliceBound, asIntOf, pure_bind]
 rw [if_pos (by omega)]
 simp [h2]
theorem bounds_run {a : Act} (f : Fit n L a) {lo hi : Option Operand} {len cap l h : Nat} (hlo : bnd L lo 0 l) (hhi : bnd L hi len h) (h1 : l ≤ h) (h2 : h ≤ cap) (w : World) :
  (Instr.sliceBounds true len cap (lo.map a.eval) (hi.map a.eval) none).run P w = .ok (l, h, cap) w := by
 cases lo with
 | none =>
  simp only [bnd] at hlo; subst hlo
  cases hi with
  | none => simp only [bnd] at hhi; subst hhi; simp [Instr.sliceBounds]
  | some y => simp [Instr.sliceBounds, bound1 (P := P) f hhi h2 .sliceAcap w, Result.andThen]
 | some x =>
  cases hi with
  | none => simp only [bnd] at hhi; subst hhi; simp [Instr.sliceBounds, bound1 (P := P) f hlo h1 .sliceB w, Result.andThen]
  | some y => simp [Instr.sliceBounds, bound1 (P := P) f hhi h2 .sliceAcap w, Result.andThen, bound1 (P := P) f hlo h1 .sliceB w, Result.andThen]
theorem XL.slice {x : Operand} {lo hi : Option Operand} {T E k b o len cap l h r mm cc : Nat} (hx : ev L x = some (.slice (some ⟨b, o, none⟩) len cap)) [hT : Slt P T E k] (hlo : bnd L lo 0 l) (hhi : bnd L hi len h) (h1 : l ≤ h) (h2 : h ≤ cap)
  (hr : (if cap = l then o else o + l * k) = r) (hmm : h - l = mm) (hcc : cap - l = cc) (hd : Nat.blt d n = true) (kk : XL P w0 h0 q ops K Q rest n ((d, .slice (some ⟨b, r, none⟩) mm cc) :: L) Γ) :
  XL P w0 h0 q ops K Q (⟨some d, .slice T x lo hi none, ty, pos, af, none⟩ :: rest) n L Γ :=
 XL.value (fun a w f s => by
  have e := bounds_run (P := P) f hlo hhi h1 h2 w
  simp only [execOp, f.ev hx, Option.map_none, Instr.sliceAt]
  rw [bind_assoc, ok_of (run_underlying' hT.slt w)]
  simp only [Instr.slice]
  rw [bind_assoc, ok_of (run_underlying' hT.slt w)]
  simp only [bind_assoc]
  rw [ok_of e]
  simp only [bind_assoc]
  rw [ok_of (hT.size w)]
  simp only [Option.map_some, add_none]
  subst hr hmm hcc
  split <;> simp) hd kk
theorem XL.slice0 {x : Operand} {lo hi : Option Operand} {T E k : Nat} (hx : ev L x = some (.slice none 0 0)) [hT : Slt P T E k] (hlo : bnd L lo 0 0) (hhi : bnd L hi 0 0)
  (hd : Nat.blt d n = true) (kk : XL P w0 h0 q ops K Q rest n ((d, .slice none 0 0) :: L) Γ) :
  XL P w0 h0 q ops K Q (⟨some d, .slice T x lo hi none, ty, pos, af, none⟩ :: rest) n L Γ :=
 XL.value (fun a w f s => by
  have e := bounds_run (P := P) f hlo hhi (Nat.le_refl 0) (Nat.le_refl 0) w
  simp only [execOp, f.ev hx, Option.map_none, Instr.sliceAt]
  rw [bind_assoc, ok_of (run_underlying' hT.slt w)]
  simp only [Instr.slice]
  rw [bind_assoc, ok_of (run_underlying' hT.slt w)]
  simp only [bind_assoc]
  rw [ok_of e]
  simp only [bind_assoc]
  rw [ok_of (hT.size w)]
  simp) hd kk
theorem XL.slice3 {x lo hi mx : Operand} {T E k b o len cap l h m r mm cc : Nat} (hx : ev L x = some (.slice (some ⟨b, o, none⟩) len cap)) [hT : Slt P T E k] (hlo : bnd L (some lo) 0 l) (hhi : bnd L (some hi) 0 h) (hmx : bnd L (some mx) 0 m) (h1 : l ≤ h) (h2 : h ≤ m) (h3 : m ≤ cap)
  (hr : (if m = l then o else o + l * k) = r) (hmm : h - l = mm) (hcc : m - l = cc) (hd : Nat.blt d n = true) (kk : XL P w0 h0 q ops K Q rest n ((d, .slice (some ⟨b, r, none⟩) mm cc) :: L) Γ) :
  XL P w0 h0 q ops K Q (⟨some d, .slice T x (some lo) (some hi) (some mx), ty, pos, af, none⟩ :: rest) n L Γ :=
 XL.value (fun a w f s => by
  have e : (Instr.sliceBounds true len cap (some (a.eval lo)) (some (a.eval hi)) (some (a.eval mx))).run P w = .ok (l, h, m) w := by
   simp [Instr.sliceBounds, bound1 (P := P) f hhi h2 .slice3B w, bound1 (P := P) f hlo h1 .slice3C w, bound1 (P := P) f hmx h3 .slice3Acap w, Result.andThen]
  simp only [execOp, f.ev hx, Option.map_some, Instr.sliceAt]
  rw [bind_assoc, ok_of (run_underlying' hT.slt w)]
  simp only [Instr.slice]
  rw [bind_assoc, ok_of (run_underlying' hT.slt w)]
  simp only [bind_assoc]
  rw [ok_of e]
  simp only [bind_assoc]
  rw [ok_of (hT.size w)]
  simp only [Option.map_some, add_none]
  subst hr hmm hcc
  split <;> simp) hd kk
theorem XL.cap {x : Operand} {T E sz : Nat} {a : Option Addr} {m c : Nat} (hx : ev L x = some (.slice a m c)) [hT : Slt P T E sz] (hd : Nat.blt d n = true) (k : XL P w0 h0 q ops K Q rest n ((d, .int .i64 c) :: L) Γ) : XL P w0 h0 q ops K Q (⟨some d, .call ⟨.builtin .cap, #[x], #[T]⟩, ty, pos, af, none⟩ :: rest) n L Γ :=
 XL.value (fun a w f s => by simp [execOp, resolve, invoke, builtin, f.ev hx, Builtin.cap_, goInt, run_underlying' hT.slt w]) hd k
theorem firstCells_at {b off E k m c m2 : Nat} {cs ys : List Value} (w : World) (h : w.heap[b]? = some (cel cs E)) (hs : SbL cs off (m2 * k) ys) : (Builtin.firstCells k m2 (.slice (some ⟨b, off, none⟩) m c)).run P w = .ok ys.toArray w := by
 unfold Builtin.firstCells loadCells
 have := loadCellsFrom_run (P := P) h off (m2 * k) 0 #[] (by have := hs.sub.1; omega)
 simpa [hs.sub.2] using this
theorem XL.copy {x y : Operand} {T T2 E k b1 o1 d1 c1 b2 o2 d2 c2 nn : Nat} {cs1 cs1' cs2 ys : List Value} {K1 K2 : List Value → List Asn} (hx : ev L x = some (.slice (some ⟨b1, o1, none⟩) d1 c1)) (hy : ev L y = some (.slice (some ⟨b2, o2, none⟩) d2 c2)) [hT : Slt P T E k]
  [p1 : PtC Γ b1 cs1 K1] [p2 : PtC Γ b2 cs2 K2] (hn : min d2 d1 = nn) (hs2 : SbL cs2 o2 (nn * k) ys) (hs1 : StL cs1 o1 ys cs1') (hsca : ys.all sca = true) (hd : Nat.blt d n = true)
  (kk : XL P w0 h0 false ops K Q rest n ((d, .int .i64 nn) :: L) (K1 cs1')) :
  XL P w0 h0 false ops K Q (⟨some d, .call ⟨.builtin .copy, #[x, y], #[T, T2]⟩, ty, pos, af, none⟩ :: rest) n L Γ :=
 XL.valueW (R := fun v' Γ' => v' = .int .i64 nn ∧ Γ' = K1 cs1') (fun a w f s => by
  obtain ⟨r1, t1, e1, k1⟩ := p1.get s
  obtain ⟨r2, t2, e2, _⟩ := p2.get s
  have hf := firstCells_at (P := P) (m := d2) (c := c2) w e2 (hs2.app r2)
  have hst := storeCells_run (P := P) (T := t1) o1 ys 0 (cs1 ++ r1) w e1 (by have := hs1.st.1; simp; omega) hsca
  simp only [Nat.add_zero] at hst
  rw [← (hs1.app r1).st.2] at hst
  refine ⟨.int .i64 nn, _, _, ?_, ⟨rfl, rfl⟩, k1 cs1' hs1.len⟩
  have hn' : Nat.min d2 d1 = nn := hn
  simp [execOp, resolve, invoke, builtin, f.ev hx, f.ev hy, Builtin.copy_, run_underlying' hT.slt w, lenOf_slice, hT.size w, hn', hf, hst, goInt]) hd (by rintro v Γ' ⟨rfl, rfl⟩; exact kk)
theorem XL.appendIn {x y : Operand} {T T2 E k b o sl cap b2 o2 m2 c2 : Nat} {cs cs' cs2 ys : List Value} {K1 K2 : List Value → List Asn} (hx : ev L x = some (.slice (some ⟨b, o, none⟩) sl cap)) (hy : ev L y = some (.slice (some ⟨b2, o2, none⟩) m2 c2)) [hT : Slt P T E k]
  (hT2 : ∃ e, P.underlying T2 = some (.slice e)) [p1 : PtC Γ b cs K1] [p2 : PtC Γ b2 cs2 K2] (hroom : sl + m2 ≤ cap) (hs2 : SbL cs2 o2 (m2 * k) ys) (hs1 : StL cs (o + sl * k) ys cs') (hsca : ys.all sca = true) (hd : Nat.blt d n = true)
  (kk : XL P w0 h0 false ops K Q rest n ((d, .slice (some ⟨b, o, none⟩) (sl + m2) cap) :: L) (K1 cs')) :
  XL P w0 h0 false ops K Q (⟨some d, .call ⟨.builtin .append, #[x, y], #[T, T2]⟩, ty, pos, af, none⟩ :: rest) n L Γ :=
 XL.valueW (R := fun v' Γ' => v' = .slice (some ⟨b, o, none⟩) (sl + m2) cap ∧ Γ' = K1 cs') (fun a w f s => by
  obtain ⟨r1, t1, e1, k1⟩ := p1.get s
  obtain ⟨r2, t2, e2, _⟩ := p2.get s
  obtain ⟨e3, hu2⟩ := hT2
  have hf := firstCells_at (P := P) (m := m2) (c := c2) w e2 (hs2.app r2)
  have hst := storeCells_run (P := P) (T := t1) (o + sl * k) ys 0 (cs ++ r1) w e1 (by have := hs1.st.1; simp; omega) hsca
  simp only [Nat.add_zero] at hst
  rw [← (hs1.app r1).st.2] at hst
  refine ⟨_, _, _, ?_, ⟨rfl, rfl⟩, k1 cs' hs1.len⟩
  simp [execOp, resolve, invoke, builtin, f.ev hx, f.ev hy, Builtin.append_, run_underlying' hT.slt w, run_underlying' hu2 w, lenOf_slice, hT.size w, hroom, hf, add_none, hst]) hd (by rintro v Γ' ⟨rfl, rfl⟩; exact kk)
theorem XL.appendMake {x y : Operand} {T T2 E k bt b o sl cap j : Nat} {i : Int} {cs xs z : List Value} {K1 : List Value → List Asn} (hx : ev L x = some (.slice (some ⟨b, o, none⟩) sl cap)) (hy : ev L y = some (.int .i64 i)) (hi : i = (j : Int)) [hT : Slt P T E k] [hb : ByT P E bt] [hz : Zr P E z]
  (hT2 : ∃ kd, P.underlying T2 = some (.int kd)) [p1 : PtC Γ b cs K1] (hs1 : SbL cs o (sl * k) xs) (hfull : cap < sl + j) (hzl : z.length = k) (hk0 : Nat.blt 0 k = true) (hbt : Nat.blt 0 bt = true) (hroom : (2 * (sl + j) + 768) * bt ≤ 2 ^ 48) (hd : Nat.blt d n = true)
  (kk : ∀ v', XL P w0 h0 false ops K Q rest n ((d, v') :: L) (Sl' E k v' (sl + j) (xs ++ (Builtin.zeroCells z.toArray j).toList) :: Γ)) :
  XL P w0 h0 false ops K Q (⟨some d, .call ⟨.builtin .append, #[x, y], #[T, T2]⟩, ty, pos, af, none⟩ :: rest) n L Γ :=
 XL.valueW (R := fun v' Γ' => Γ' = Sl' E k v' (sl + j) (xs ++ (Builtin.zeroCells z.toArray j).toList) :: Γ) (fun a w f s => by
  obtain ⟨r1, t1, e1, k1⟩ := p1.get s
  obtain ⟨kd, hu2⟩ := hT2
  obtain ⟨ti, hti, hbi⟩ := hb.by'
  have hbt' : 0 < bt := by simpa [Nat.blt_eq] using hbt
  have hk0' : 0 < k := by simpa [Nat.blt_eq] using hk0
  have hjb : (2 * (sl + j) + 768) ≤ 2 ^ 48 := Nat.le_trans (Nat.le_mul_of_pos_right _ hbt') hroom
  have hjb2 : j * bt ≤ 2 ^ 48 := Nat.le_trans (Nat.mul_le_mul_right bt (by omega)) hroom
  have hcap2 := nextcap_le hfull
  have hlim : Builtin.nextslicecap (sl + j) cap * bt ≤ 281474976710656 := by
   have : Builtin.nextslicecap (sl + j) cap * bt ≤ (2 * (sl + j) + 768) * bt := Nat.mul_le_mul_right bt hcap2
   omega
  have hnc : sl + j ≤ (Question.appendCap (sl + j) cap E).cut (w.tape w.drawn (Question.appendCap (sl + j) cap E)) := by show _ ≤ (sl + j) + _ % _; omega
  generalize hq : (Question.appendCap (sl + j) cap E).cut (w.tape w.drawn (Question.appendCap (sl + j) cap E)) = nc at hnc
  obtain ⟨zv, hzv, hzc⟩ := hz.zero w.drew
  have hcz : zv.cells = z.toArray := hzc
  have hold : (Builtin.firstCells k sl (.slice (some ⟨b, o, none⟩) sl cap)).run P w.drew = .ok xs.toArray w.drew := firstCells_at w.drew e1 (hs1.app r1)
  have hxl : xs.length = sl * k := by have := hs1.sub; rw [← this.2]; simp; omega
  have hw : IntKind.i64.wrap (j : Int) = (j : Int) := wrap64_of (by omega) (by omega)
  have hS := (s.drew (w.drawn + 1)).new (cel (xs ++ (Builtin.zeroCells z.toArray j).toList ++ (Builtin.zeroCells z.toArray (nc - (sl + j))).toList) E)
  refine ⟨.slice (some ⟨w.heap.size, 0, none⟩) (sl + j) nc, _, _, ?_, rfl, hS.mono (star_closeS (by simp [hxl, zeroCells_len, hzl, Nat.add_mul]) ?_ hnc)⟩
  ·subst hi
   have hbig : ¬ ((j : Int) * (bt : Int) > 2 ^ 48) := by
    rw [show (j : Int) * (bt : Int) = ((j * bt : Nat) : Int) from (Int.natCast_mul j bt).symm]; omega
   have hzz : (if j * k = 0 then (pure #[] : Sem (Array Value)) else do pure (Builtin.zeroCells (← zeroValue E).cells j)).run P w.drew = .ok (Builtin.zeroCells z.toArray j) w.drew := by
    split
    ·rename_i hj
     have : j = 0 := by rcases Nat.mul_eq_zero.1 hj with h | h; exact h; omega
     subst this; simp [Builtin.zeroCells]
    ·rw [ok_of hzv, hcz]; rfl
   have hneed : ¬ (((sl + j : Nat) : Int) > IntKind.i64.max) := by
    have : IntKind.i64.max = 9223372036854775807 := by decide
    rw [this]; omega
   simp only [execOp, resolve, invoke, builtin, List.map_toArray, List.map_cons, List.map_nil, f.ev hx, f.ev hy, pure_bind]
   unfold Builtin.append_
   simp only [List.getElem?_toArray, List.getElem?_cons_zero, List.getElem?_cons_succ]
   rw [bind_assoc, ok_of (run_underlying' hT.slt w)]
   simp only [bind_assoc]
   rw [ok_of (hT.size w), ok_of (run_underlying' hu2 w)]
   simp only [pure_bind, if_true, asInt, asIntOf, hw, bind_assoc]
   rw [if_neg (by omega)]
   simp only [Int.toNat_natCast, bind_assoc]
   rw [ok_of (run_info hti w)]
   simp only [hbi]
   rw [if_neg hbig, if_neg (show ¬ sl + j ≤ cap by omega)]
   simp only [bind_assoc]
   rw [ok_of (run_info hti w), if_neg (fun h => hneed h.1)]
   simp only [bind_assoc]
   rw [ok_of (run_info hti w)]
   simp only [hbi]
   rw [if_neg (show ¬ Builtin.nextslicecap (sl + j) cap * bt > 2 ^ 48 by omega)]
   have hch : (choose (.appendCap (sl + j) cap E)).run P w = .ok nc w.drew := by rw [← hq]; simp [choose, Sem.run, Question.forced]
   simp only [bind_assoc]
   rw [ok_of hch, ok_of (run_info hti w.drew), ok_of (askRoom_run _ _), ok_of hold]
   simp only [Bool.not_true, Bool.false_eq_true, if_false]
   rw [ok_of hzz, ok_of hzv, hcz]
   simp only [newRow, bind_assoc]
   rw [ok_of (newB _ _)]
   have : xs.toArray ++ Builtin.zeroCells z.toArray j ++ Builtin.zeroCells z.toArray (nc - (sl + j)) = (xs ++ (Builtin.zeroCells z.toArray j).toList ++ (Builtin.zeroCells z.toArray (nc - (sl + j))).toList).toArray := by simp
   rw [this]; rfl
  ·simp [hxl, zeroCells_len, hzl]
   rw [← Nat.add_mul, ← Nat.add_mul]; congr 1; omega) hd (by rintro v Γ' rfl; exact kk v)
theorem XL.nothingV {op : Op} {ty : TypeId} {pos : String} {af : Array Edge} (hr : ∀ a w, Fit n L a → Wd w0 h0 Γ w → ∃ v w', (execOp a.eval ⟨none, op, ty, pos, af, none⟩).run P w = .ok (.value v) w' ∧ Wd w0 h0 Γ' w')
  (k : XL P w0 h0 false ops K Q rest n L Γ') : XL P w0 h0 false ops K Q (⟨none, op, ty, pos, af, none⟩ :: rest) n L Γ := by
 intro a w f s
 unfold wpList
 rw [if_pos (wanted_none rfl _)]
 left
 unfold Oper.wp
 obtain ⟨v, w', hv, s'⟩ := hr a w f s
 rw [hv]
 exact k _ _ f s'
theorem XL.clear {x : Operand} {T E k b o m c : Nat} {cs cs' z : List Value} {K1 : List Value → List Asn} (hx : ev L x = some (.slice (some ⟨b, o, none⟩) m c)) [hT : Slt P T E k] [hz : Zr P E z] [p1 : PtC Γ b cs K1]
  (hsca : z.all sca = true) (hs1 : StL cs o (Builtin.zeroCells z.toArray m).toList cs') (kk : XL P w0 h0 false ops K Q rest n L (K1 cs')) :
  XL P w0 h0 false ops K Q (⟨none, .call ⟨.builtin .clear, #[x], #[T]⟩, ty, pos, af, none⟩ :: rest) n L Γ :=
 XL.nothingV (fun a w f s => by
  obtain ⟨r1, t1, e1, k1⟩ := p1.get s
  obtain ⟨zv, hzv, hzc⟩ := hz.zero w
  have hcz : zv.cells = z.toArray := hzc
  by_cases hm : m = 0
  ·subst hm
   refine ⟨.tuple #[], w, ?_, ?_⟩
   ·simp [execOp, resolve, invoke, builtin, f.ev hx, Builtin.clear_, run_underlying' hT.slt w]
   ·have := hs1.st.2
    simp [Builtin.zeroCells] at this
    have k2 := k1 cs' hs1.len
    rw [this] at k2 ⊢
    have : setB w b (cel (cs ++ r1) t1) = w := by
     unfold setB
     have : w.heap.setIfInBounds b (cel (cs ++ r1) t1) = w.heap := by
      apply Array.ext'
      apply List.ext_getElem?
      intro j
      simp only [Array.getElem?_toList, Array.getElem?_setIfInBounds]
      split
      ·rename_i e; subst e; split
       ·exact e1.symm
       ·rename_i h2; exact (Array.getElem?_eq_none (by omega)).symm
      ·rfl
     rw [this]
    rwa [this] at k2
  ·have hall : ((Builtin.zeroCells z.toArray m).toList).all sca = true := by
    rw [List.all_eq_true]
    intro v hv
    simp only [Builtin.zeroCells, Array.toList_map, List.mem_map] at hv
    obtain ⟨i, hi, rfl⟩ := hv
    by_cases hz0 : z.length = 0
    ·simp [List.length_eq_zero_iff.1 hz0] at hi
    ·have : i % z.length < z.length := Nat.mod_lt _ (by omega)
     have e : z.toArray[i % z.toArray.size]! = z[i % z.length] := by simp [this]
     rw [e]; exact List.all_eq_true.1 hsca _ (List.getElem_mem this)
   have hst := storeCells_run (P := P) (T := t1) o _ 0 (cs ++ r1) w e1 (by have := hs1.st.1; simp at this ⊢; omega) hall
   simp only [Nat.add_zero] at hst
   rw [← (hs1.app r1).st.2] at hst
   refine ⟨.tuple #[], _, ?_, k1 cs' hs1.len⟩
   have hst' := ok_of hst (fun _ => (pure (Value.tuple #[]) : Sem Value))
   obtain ⟨m', rfl⟩ : ∃ m', m = m' + 1 := ⟨m - 1, by omega⟩
   simp only [execOp, resolve, invoke, builtin, List.map_toArray, List.map_cons, List.map_nil, f.ev hx, pure_bind]
   unfold Builtin.clear_
   simp only [List.getElem?_toArray, List.getElem?_cons_zero]
   rw [bind_assoc, ok_of (run_underlying' hT.slt w)]
   simp only [bind_assoc]
   rw [ok_of hzv, hcz]
   rw [ok_of hst]; rfl) kk
end
end Go.Bk

namespace Go.Bk
section
variable {P : Program}
theorem part_row {α : Type} {enc : α → List Value} {E k i : Nat} {xs : List Value} {x : α} [ht : Ag P E k] (h : SbL xs (i * k) k (enc x)) (w : World) : (part E xs.toArray (i * k)).run P w = .ok (.agg (enc x).toArray) w := by
 unfold part
 rw [ok_of (ht.agg w)]
 simp only [if_true]
 rw [ok_of (ht.size w)]
 have : xs.toArray.extract (i * k) (i * k + k) = (enc x).toArray := by
  rw [← h.sub.2]; simp [List.extract_toArray, List.extract_eq_drop_take]
 rw [this]; rfl
theorem eqItems_row {α : Type} [DecidableEq α] {enc : α → List Value} {d E k : Nat} [ht : Ag P E k] (hk : ∀ x, (enc x).length = k)
  (IH : ∀ (a b : α) w, (Op.equalIn d E (.agg (enc a).toArray) (.agg (enc b).toArray)).run P w = .ok (decide (a = b)) w) (as bs : List α) (hn : as.length = bs.length) (w : World) :
  ∀ (m i : Nat), i + m = as.length → (Op.eqItems d E k (as.flatMap enc).toArray (bs.flatMap enc).toArray (List.range' i m)).run P w = .ok (decide (as.drop i = bs.drop i)) w
 | 0, i, h => by
  rw [List.drop_eq_nil_of_le (by omega), List.drop_eq_nil_of_le (by omega)]
  simp [Op.eqItems]
 | m + 1, i, h => by
  have h1 : i < as.length := by omega
  have h2 : i < bs.length := by omega
  have s1 : SbL (as.flatMap enc) (i * k) k (enc as[i]) := SbL.flat hk (List.getElem?_eq_getElem h1) rfl
  have s2 : SbL (bs.flatMap enc) (i * k) k (enc bs[i]) := SbL.flat hk (List.getElem?_eq_getElem h2) rfl
  simp only [List.range'_succ, Op.eqItems]
  rw [ok_of (part_row s1 w), ok_of (part_row s2 w), ok_of (IH _ _ w)]
  rw [List.drop_eq_getElem_cons h1, List.drop_eq_getElem_cons h2]
  by_cases g : as[i] = bs[i]
  ·simp only [g, decide_true, Bool.not_true, Bool.false_eq_true, if_false]
   rw [eqItems_row hk IH as bs hn w m (i + 1) (by omega)]
   refine congrArg (fun b => Result.ok b w) ?_
   rw [decide_eq_decide]; exact ⟨fun e => by rw [e], fun e => (List.cons.inj e).2⟩
  ·have e : decide (as[i] :: as.drop (i + 1) = bs[i] :: bs.drop (i + 1)) = false := by
    rw [decide_eq_false_iff_not]; intro he; exact g (List.cons.inj he).1
   rw [e, decide_eq_false g]; rfl
theorem EqT.arr {T E N t : Nat} (h : Eq2 P E t .u8) [hs : Sc P t] [hi : Ity P t .u8] (hu : P.underlying T = some (.array N E)) (hsz : (P.info? E).map (·.size) = some 2) (hg : P.eqGuardType P.depth T = false) (ha : agB P E = true) : EqT P T (Row C2 N) (fun r => r.l.flatMap C2.cs) where
 eq a b w := by
  haveI : Ag P E 2 := Ag.of ha hsz
  obtain ⟨i, hi', hk⟩ := Option.map_eq_some_iff.1 hsz
  show (Op.equalIn (9999 + 1) T _ _).run P w = _
  rw [run_equalIn_array w 9999 _ _ hu hi']
  have hc : P.cellsOf E = 2 := by unfold Program.cellsOf; rw [hsz]; rfl
  rw [hc, List.range_eq_range']
  have := eqItems_row (P := P) (E := E) (enc := C2.cs) (d := 9999) C2.len (fun a b w => by
   have := eqIn2 h (d := 9997) a.a a.b b.a b.b w
   rw [this]; congr 1; cases a; cases b; simp) a.l b.l (by rw [a.n, b.n]) w N 0 (by rw [a.n]; omega)
  rw [this]
  congr 1
  cases a; cases b; simp
 guard := hg
end

/-! ### calls -/
class Mth (P : Program) (t : TypeId) (name : String) (g : outParam FuncId) : Prop where
 mth : ∀ (v : Value) w, (method (P.types.size + Made.depth) t v name).run P w = .ok (g, v) w
section
variable {P : Program} {w0 : World} {h0 : Hp} {q : Bool} {ops : Array Oper} {K : Act → World → Prop} {Q : Exit → Act → World → Prop} {rest : List Oper} {n : Nat} {L : Sl} {Γ Γ' : List Asn}
variable {d : Tmp} {ty : TypeId} {pos : String} {af : Array Edge}
theorem runC_inv {dst : Option Tmp} {x : Operand} {l : List Operand} {tys : Array TypeId} {t : TypeId} {name : String} {v : Value} {vs : List Value} {g : FuncId} (hr : ev L x = some (.iface t v)) (hx : evs L l = some vs) (hm : ∀ w, (method (P.types.size + Made.depth) t v name).run P w = .ok (g, v) w) [hf : Fun P g] :
  RunC P w0 h0 n L Γ ⟨dst, .call ⟨.invoke x name, l.toArray, tys⟩, ty, pos, af, none⟩ g (v :: vs) := fun a w fi s => by
 simp only [execOp, resolve, fi.ev hr, List.map_toArray, fi.evs hx]
 rw [pure_bind]
 simp only [invoke]
 have e : (#[Value.iface t v] ++ vs.toArray : Array Value)[0]? = some (.iface t v) := by simp
 rw [e]
 have e2 : (#[Value.iface t v] ++ vs.toArray : Array Value).extract 1 (#[Value.iface t v] ++ vs.toArray : Array Value).size = vs.toArray := by
  apply Array.ext'; simp
 simp only [e2, callMethod, program]
 show Sem.run P (method _ t v name >>= _) w = _
 rw [ok_of (hm w)]
 simp only []
 rw [hf.cal]; simp
theorem XL.ir {x : Operand} {l : List Operand} {tys : Array TypeId} {t : TypeId} {name : String} {v r : Value} {vs : List Value} {g : FuncId} {Γ1 Γ2 : List Asn} (hr : ev L x = some (.iface t v)) (hx : evs L l = some vs) [hm : Mth P t name g] [hf : Fun P g] (hp : Tri P g (v :: vs) Γ1 fun v' Γ' => v' = r ∧ Γ' = Γ1) (hs : Pk Γ1 Γ Γ2) (hd : Nat.blt d n = true)
  (k : XL P w0 h0 q ops K Q rest n ((d, r) :: L) Γ) : XL P w0 h0 q ops K Q (⟨some d, .call ⟨.invoke x name, l.toArray, tys⟩, ty, pos, af, none⟩ :: rest) n L Γ :=
 XL.callR (runC_inv hr hx (hm.mth v)) hp hs.to hs.from hd k
theorem XL.iw {x : Operand} {l : List Operand} {tys : Array TypeId} {t : TypeId} {name : String} {v : Value} {vs : List Value} {g : FuncId} {Γ1 Γ2 : List Asn} {post : Value → List Asn → Prop} (hr : ev L x = some (.iface t v)) (hx : evs L l = some vs) [hm : Mth P t name g] [hf : Fun P g] (hp : Tri P g (v :: vs) Γ1 post) (hs : Pk Γ1 Γ Γ2) (hd : Nat.blt d n = true)
  (k : ∀ v Γ', post v Γ' → XL P w0 h0 false ops K Q rest n ((d, v) :: L) (Γ' ++ Γ2)) : XL P w0 h0 false ops K Q (⟨some d, .call ⟨.invoke x name, l.toArray, tys⟩, ty, pos, af, none⟩ :: rest) n L Γ :=
 XL.callW (runC_inv hr hx (hm.mth v)) hp hs.to hd k
theorem XL.assertT {x : Operand} {xT T : TypeId} {v : Value} {dsc : TypeDesc} (hx : ev L x = some (.iface T v)) (hT : P.underlying T = some dsc) (hi : (match dsc with | .interface _ => false | _ => true) = true) (hd : Nat.blt d n = true)
  (k : XL P w0 h0 q ops K Q rest n ((d, v) :: L) Γ) : XL P w0 h0 q ops K Q (⟨some d, .typeAssert x xT T false, ty, pos, af, none⟩ :: rest) n L Γ :=
 XL.value (fun a w f s => by
  simp only [execOp, f.ev hx, Instr.typeAssert]
  rw [bind_assoc, ok_of (run_underlying' hT w)]
  cases dsc <;> first | (simp; done) | cases hi) hd k
class Ext (P : Program) (f : FuncId) (e : outParam (Array Value → Sem Value)) : Prop where
 ext : ∀ args w, (callFunc f args).run P w = ((e args).run P w).andThen fun v w' => .ok (.value v) w'
theorem XL.ext {f : FuncId} {l : List Operand} {tys : Array TypeId} {vs : List Value} {e : Array Value → Sem Value} {v : Value} (hx : evs L l = some vs) [hf : Ext P f e] (hr : ∀ w, Wd w0 h0 Γ w → (e vs.toArray).run P w = .ok v w) (hd : Nat.blt d n = true)
  (k : XL P w0 h0 q ops K Q rest n ((d, v) :: L) Γ) : XL P w0 h0 q ops K Q (⟨some d, .call ⟨.value (.func f), l.toArray, tys⟩, ty, pos, af, none⟩ :: rest) n L Γ :=
 XL.value (fun a w fi s => by
  simp only [execOp, resolve, Act.eval, Deferred.ofValue]
  rw [pure_bind]
  simp only [invoke, List.map_toArray, fi.evs hx, Array.append_empty, Array.empty_append]
  rw [hf.ext, hr w s]; rfl) hd k
theorem XL.extW {f : FuncId} {l : List Operand} {tys : Array TypeId} {vs : List Value} {e : Array Value → Sem Value} {R : Value → List Asn → Prop} (hx : evs L l = some vs) [hf : Ext P f e] (hr : ∀ w, Wd w0 h0 Γ w → ∃ v w' Γ', (e vs.toArray).run P w = .ok v w' ∧ R v Γ' ∧ Wd w0 h0 Γ' w') (hd : Nat.blt d n = true)
  (k : ∀ v Γ', R v Γ' → XL P w0 h0 false ops K Q rest n ((d, v) :: L) Γ') : XL P w0 h0 false ops K Q (⟨some d, .call ⟨.value (.func f), l.toArray, tys⟩, ty, pos, af, none⟩ :: rest) n L Γ :=
 XL.valueW (R := R) (fun a w fi s => by
  obtain ⟨v, w', Γ', h1, h2, h3⟩ := hr w s
  refine ⟨v, w', Γ', ?_, h2, h3⟩
  simp only [execOp, resolve, Act.eval, Deferred.ofValue]
  rw [pure_bind]
  simp only [invoke, List.map_toArray, fi.evs hx, Array.append_empty, Array.empty_append]
  rw [hf.ext, h1]; rfl) hd k
theorem XL.crs {f : FuncId} {l : List Operand} {tys : Array TypeId} {vs : List Value} {p : Prop} [Decidable p] {Γ1 Γ2 : List Asn} (hx : evs L l = some vs) [hf : Fun P f] (hp : Tri P f vs Γ1 fun v' Γ' => v' = .bool (decide p) ∧ Γ' = Γ1) (hs : Pk Γ1 Γ Γ2) (hd : Nat.blt d n = true)
  (kt : p → XL P w0 h0 q ops K Q rest n ((d, .bool true) :: L) Γ) (kf : ¬ p → XL P w0 h0 q ops K Q rest n ((d, .bool false) :: L) Γ) : XL P w0 h0 q ops K Q (⟨some d, .call ⟨.value (.func f), l.toArray, tys⟩, ty, pos, af, none⟩ :: rest) n L Γ := by
 by_cases h : p
 ·exact XL.cr hx (by rwa [decide_eq_true h] at hp) hs hd (kt h)
 ·exact XL.cr hx (by rwa [decide_eq_false h] at hp) hs hd (kf h)
theorem XL.vrs {x : Operand} {f : FuncId} {l : List Operand} {tys : Array TypeId} {v1 v2 vs : List Value} {p : Prop} [Decidable p] {Γ1 Γ2 : List Asn} (hf' : ev L x = some (.func (.func f) v1.toArray v2.toArray)) (hx : evs L l = some vs) [hf : Fun P f] (hp : Tri P f (v1 ++ vs ++ v2) Γ1 fun v' Γ' => v' = .bool (decide p) ∧ Γ' = Γ1) (hs : Pk Γ1 Γ Γ2) (hd : Nat.blt d n = true)
  (kt : p → XL P w0 h0 q ops K Q rest n ((d, .bool true) :: L) Γ) (kf : ¬ p → XL P w0 h0 q ops K Q rest n ((d, .bool false) :: L) Γ) : XL P w0 h0 q ops K Q (⟨some d, .call ⟨.value x, l.toArray, tys⟩, ty, pos, af, none⟩ :: rest) n L Γ := by
 by_cases h : p
 ·exact XL.vr hf' hx (by rwa [decide_eq_true h] at hp) hs hd (kt h)
 ·exact XL.vr hf' hx (by rwa [decide_eq_false h] at hp) hs hd (kf h)
end
end Go.Bk

namespace Go.Bk
theorem SbL.whole {cs : List Value} {k : Nat} (h : cs.length = k) : SbL cs 0 k cs := ⟨by omega, by simp [← h]⟩
theorem SbL.none {cs : List Value} {o : Nat} (h : o ≤ cs.length) : SbL cs o 0 [] := ⟨by omega, by simp⟩
theorem SbL.head {xs rest : List Value} {k : Nat} (h : xs.length = k) : SbL (xs ++ rest) 0 k xs := ⟨by simp; omega, by simp [← h]⟩
theorem SbL.mid {pre xs rest : List Value} {k o : Nat} (ho : pre.length = o) (h : xs.length = k) : SbL (pre ++ (xs ++ rest)) o k xs := ⟨by simp; omega, by rw [← ho, List.drop_left, ← h, List.take_left]⟩
theorem sca_flat {α : Type} {enc : α → List Value} (h : ∀ x, (enc x).all sca = true) (l : List α) : (l.flatMap enc).all sca = true := by
 induction l with
 | nil => rfl
 | cons x l ih => rw [List.flatMap_cons, List.all_append, h x, ih]; rfl
theorem Tk.sca (t : Tk) : t.cs.all sca = true := rfl
theorem C2.sca (t : C2) : t.cs.all sca = true := rfl
theorem Pl.sca (t : Pl) : t.cs.all sca = true := rfl
theorem Ch.all {c : Ch} (h : c.Ok) : c.cs.all Bk.sca = true := by
 unfold Ch.cs
 rw [List.all_append, List.all_append, sca_flat C2.sca, sca_flat C2.sca]
 simp [h.sc]
theorem Ch.setTv {c : Ch} (h : c.Ok) {v : Value} (hv : Bk.sca v = true) : Ch.Ok { c with tv := v } := ⟨h.nc, h.nl, hv, h.rc, h.rl⟩
theorem Ch.setTicks {c : Ch} (h : c.Ok) {v : Value} (ts : List Tk) (hv : Bk.sca v = true) : Ch.Ok { c with tv := v, ticks := ts } := ⟨h.nc, h.nl, hv, h.rc, h.rl⟩
theorem Ch.setCell {c : Ch} (h : c.Ok) (i : Nat) (x : C2) (hx : 0 ≤ x.a ∧ x.a ≤ 255 ∧ 0 ≤ x.b ∧ x.b ≤ 255) : Ch.Ok { c with cells := c.cells.set i x } := ⟨by simp [h.nc], h.nl, h.sc, fun y hy => by
 rcases List.mem_or_eq_of_mem_set hy with g | g
 ·exact h.rc y g
 ·subst g; exact hx, h.rl⟩
theorem Ch.setLight {c : Ch} (h : c.Ok) (i : Nat) (x : C2) (hx : 0 ≤ x.a ∧ x.a ≤ 255 ∧ 0 ≤ x.b ∧ x.b ≤ 255) : Ch.Ok { c with lights := c.lights.set i x } := ⟨h.nc, by simp [h.nl], h.sc, h.rc, fun y hy => by
 rcases List.mem_or_eq_of_mem_set hy with g | g
 ·exact h.rl y g
 ·subst g; exact hx⟩
section
variable {α : Type} {enc : α → List Value} {k : Nat}
theorem flat_split (hk : ∀ x, (enc x).length = k) (l : List α) (i : Nat) (hi : i ≤ l.length) : l.flatMap enc = (l.take i).flatMap enc ++ (l.drop i).flatMap enc ∧ ((l.take i).flatMap enc).length = i * k := by
 refine ⟨by rw [← List.flatMap_append, List.take_append_drop], ?_⟩
 rw [flat_len' hk, List.length_take, Nat.min_eq_left hi]
theorem SbL.seg (hk : ∀ x, (enc x).length = k) {l : List α} {i j o kk : Nat} (h : i + j ≤ l.length) (ho : o = i * k) (hkk : kk = j * k) : SbL (l.flatMap enc) o kk (((l.drop i).take j).flatMap enc) := by
 subst ho hkk
 obtain ⟨e1, e2⟩ := flat_split hk l i (by omega)
 obtain ⟨e3, e4⟩ := flat_split hk (l.drop i) j (by simp; omega)
 rw [e1, e3]
 exact SbL.mid e2 e4
theorem StL.mid {pre xs ys rest : List Value} {o : Nat} (ho : pre.length = o) (h : xs.length = ys.length) : StL (pre ++ (xs ++ rest)) o ys (pre ++ (ys ++ rest)) := ⟨by simp; omega, by
 rw [← ho, List.take_left, List.drop_append, ← h, List.drop_eq_nil_of_le (by omega), List.nil_append, Nat.add_sub_cancel_left, List.drop_left, List.append_assoc]⟩
theorem StL.seg (hk : ∀ x, (enc x).length = k) {l ys : List α} {i o : Nat} (h : i + ys.length ≤ l.length) (ho : o = i * k) : StL (l.flatMap enc) o (ys.flatMap enc) ((l.take i ++ ys ++ l.drop (i + ys.length)).flatMap enc) := by
 subst ho
 obtain ⟨e1, e2⟩ := flat_split hk l i (by omega)
 obtain ⟨e3, e4⟩ := flat_split hk (l.drop i) ys.length (by simp; omega)
 rw [e1, e3, List.drop_drop, List.flatMap_append, List.flatMap_append, List.append_assoc]
 exact StL.mid e2 (by rw [e4, flat_len' hk])
theorem zeroCells_flat {z : α} (hk : ∀ x, (enc x).length = k) (j : Nat) : (Builtin.zeroCells (enc z).toArray j).toList = (List.replicate j z).flatMap enc := by
 have hz := hk z
 induction j with
 | zero => simp [Builtin.zeroCells]
 | succ j ih =>
  rw [List.replicate_succ', List.flatMap_append, ← ih]
  simp only [Builtin.zeroCells, List.size_toArray, hz, Array.toList_map, Array.toList_range, Nat.add_mul, Nat.one_mul, List.flatMap_cons, List.flatMap_nil, List.append_nil]
  rw [List.range_add, List.map_append, List.map_map]
  congr 1
  apply List.ext_getElem
  ·simp [hz]
  ·intro i h1 h2
   simp at h1
   simp [Nat.mod_eq_of_lt h1, Nat.mul_comm j k, Nat.add_mod, show i < (enc z).length by omega]
theorem Sl'.shrink {E m m' b c : Nat} {xs : List Value} {h : Hp} (s : Sl' E k (.slice (some ⟨b, 0, none⟩) m c) m xs h) (hm : m' ≤ m) : Sl' E k (.slice (some ⟨b, 0, none⟩) m' c) m' (xs.take (m' * k)) h := by
 obtain ⟨hl, hh⟩ := s
 have : m' * k ≤ m * k := Nat.mul_le_mul_right k hm
 rcases hh with ⟨e1, _⟩ | ⟨b', cap, rest, e1, e2, e3, e4⟩
 ·cases e1
 ·cases e1
  refine ⟨by simp; omega, .inr ⟨b, c, xs.drop (m' * k) ++ rest, rfl, ?_, by omega, ?_⟩⟩
  ·rw [← List.append_assoc, List.take_append_drop]; exact e2
  ·rw [← List.append_assoc, List.take_append_drop]; exact e4
theorem Sl'.ptr {E m : Nat} {v : Value} {xs : List Value} {h : Hp} (s : Sl' E k v m xs h) (hm : m ≠ 0) : ∃ b c, v = .slice (some ⟨b, 0, none⟩) m c ∧ m ≤ c := by
 obtain ⟨_, ⟨_, h2⟩ | ⟨b, cap, rest, e1, _, e3, _⟩⟩ := s
 ·exact absurd h2 hm
 ·exact ⟨b, cap, e1, e3⟩
end
theorem pt_ne {b b2 : Nat} {o o2 : Obj} {Γ : List Asn} {h : Hp} (s : star (pt b o :: pt b2 o2 :: Γ) h) : b ≠ b2 := by
 obtain ⟨h1, h2, e, d, a, h3, h4, e2, d2, a2, _⟩ := s
 intro g
 subst g
 rcases d b with g | g
 ·rw [show h1 b = some o from a] at g; cases g
 ·rw [e2, un_left (show h3 b = some o2 from a2)] at g; cases g
section
variable {P : Program} {w0 : World} {h0 : Hp} {ops : Array Oper} {K : Act → World → Prop} {Q : Exit → Act → World → Prop} {rest : List Oper} {n : Nat} {L : Sl} {Γ : List Asn}
theorem XL.know {p : Prop} (hp : ∀ h, star Γ h → p) (k : p → XL P w0 h0 false ops K Q rest n L Γ) : XL P w0 h0 false ops K Q rest n L Γ := fun a w f s => by
 obtain ⟨h, st, _⟩ := id s
 exact k (hp h st) a w f s
theorem XL.app0 {q : Bool} {Γ2 : List Asn} (k : XL P w0 h0 q ops K Q rest n L Γ2) : XL P w0 h0 q ops K Q rest n L ([] ++ Γ2) := k
theorem XL.app1 {q : Bool} {A : Asn} {Γ2 : List Asn} (k : XL P w0 h0 q ops K Q rest n L (A :: Γ2)) : XL P w0 h0 q ops K Q rest n L ([A] ++ Γ2) := k
theorem XL.app2 {q : Bool} {A B : Asn} {Γ2 : List Asn} (k : XL P w0 h0 q ops K Q rest n L (A :: B :: Γ2)) : XL P w0 h0 q ops K Q rest n L ([A, B] ++ Γ2) := k
theorem XL.app3 {q : Bool} {A B C : Asn} {Γ2 : List Asn} (k : XL P w0 h0 q ops K Q rest n L (A :: B :: C :: Γ2)) : XL P w0 h0 q ops K Q rest n L ([A, B, C] ++ Γ2) := k
theorem XL.app4 {q : Bool} {A B C D : Asn} {Γ2 : List Asn} (k : XL P w0 h0 q ops K Q rest n L (A :: B :: C :: D :: Γ2)) : XL P w0 h0 q ops K Q rest n L ([A, B, C, D] ++ Γ2) := k
theorem Rm.know {A : Asn} {Γ' : List Asn} {p : Prop} (r : Rm A Γ Γ') (hp : ∀ h, A h → p) : ∀ h, star Γ h → p := fun h s => by
 obtain ⟨h1, _, _, _, a, _⟩ := r.to h s
 exact hp h1 a
end
section
variable {P : Program}
theorem Tri.slv {f : FuncId} {vs : List Value} {Γ Γ2 : List Asn} {E k m : Nat} {v : Value} {xs : List Value} {post : Value → List Asn → Prop} (hs : Rm (Sl' E k v m xs) Γ Γ2)
  (h0 : v = .slice none 0 0 → m = 0 → xs = [] → Tri P f vs Γ post) (h1 : ∀ b cap, v = .slice (some ⟨b, 0, none⟩) m cap → xs.length = m * k → m ≤ cap → Tri P f vs Γ post) : Tri P f vs Γ post := by
 intro w h s a
 obtain ⟨h1', h2', e, d, ⟨hl, hh⟩, st2⟩ := hs.to h s
 rcases hh with ⟨e1, e2⟩ | ⟨b, cap, rest, e1, e2, e3, e4⟩
 ·subst e2; exact h0 e1 rfl (List.length_eq_zero_iff.1 (by simpa using hl)) w h s a
 ·exact h1 b cap e1 hl e3 w h s a
theorem Tri.pre {f : FuncId} {vs : List Value} {Γ Γ' : List Asn} {post : Value → List Asn → Prop} (hs : ∀ h, star Γ h → star Γ' h) (t : Tri P f vs Γ' post) : Tri P f vs Γ post := fun w h s a => t w h (hs h s) a
theorem Tri.know {f : FuncId} {vs : List Value} {Γ : List Asn} {post : Value → List Asn → Prop} {p : Prop} (hp : ∀ h, star Γ h → p) (t : p → Tri P f vs Γ post) : Tri P f vs Γ post := fun w h s a => t (hp h s) w h s a
end
end Go.Bk

namespace Go.Bk
def valB : Op → Bool
 | .move _ | .assign _ | .binOp .. | .unOp .. | .indexAddr .. | .fieldAddr .. | .field .. | .build .. | .extract .. | .convert .. | .slice .. => true
 | _ => false
section
variable {P : Program} {w0 : World} {h0 : Hp} {ops : Array Oper} {Q : Exit → Act → World → Prop} {n : Nat} {L : Sl} {Γ Γ' : List Asn}
theorem execOp_value {ρ : Operand → Value} {o : Oper} {w w' : World} {r : Next} (h : valB o.op = true) (e : (execOp ρ o).run P w = .ok r w') : ∃ v, r = .value v := by
 have key : ∀ (s : Sem Value), (do pure (Next.value (← s)) : Sem Next).run P w = .ok r w' → ∃ v, r = .value v := fun s hs => by
  rw [Sem.run_bind] at hs
  cases hq : s.run P w with
  | ok v w1 => rw [hq] at hs; simp [Result.andThen] at hs; exact ⟨v, hs.1.symm⟩
  | _ => rw [hq] at hs; simp [Result.andThen] at hs
 unfold execOp at e
 cases hop : o.op <;> rw [hop] at h e <;> first
  | exact key _ e
  | (simp at e; exact ⟨_, e.1.symm⟩)
  | (simp [valB] at h; done)
theorem Jp.gam {e : Exit} (hΓ : ∀ h, star Γ h → star Γ' h) (k : Jp w0 h0 e Q n L Γ') : Jp w0 h0 e Q n L Γ := fun a w f s => k a w f (s.mono hΓ)
theorem Jp.endcG {fn : Func} {e : Exit} {post : Value → List Asn → Prop} {r1 : ResultVar} {v1 : Value} (he : e = .normal ∨ e = .ret) (hr : fn.results = #[r1])
  (h1 : Res P w0 h0 L Γ r1 v1) (hΓ : ∀ h, star Γ h → star Γ' h) (hp : post v1 Γ') : Jp w0 h0 e (bodyPost P fn (Post w0 h0 post)) n L Γ := by
 intro a w f s
 have := Jp.endc (post := fun v Δ => v = v1 ∧ Δ = Γ) he hr h1 ⟨rfl, rfl⟩ a w f s
 rcases he with rfl | rfl <;> (obtain ⟨hd, v, hv, v2, Δ, e1, ⟨e2, e3⟩, s'⟩ := this; subst e2; subst e3; exact ⟨hd, v, hv, v2, Γ', e1, hp, s'.mono hΓ⟩)
def nrm (K : Act → World → Prop) : Exit → Act → World → Prop := fun e a w => e = .normal ∧ K a w
def XA (P : Program) (w0 : World) (h0 : Hp) (ops : Array Oper) (Q : Exit → Act → World → Prop) (fuel : Nat) (listed : Array Bool) (n : Nat) (L : Sl) (Γ : List Asn) : Prop :=
 ∀ a w, Fit n L a → Wd w0 h0 Γ w → wpAny P .any ops Q fuel listed a w
theorem SP.any {id : Nat} {l : List Oper} {m : Nat} (hm : P.follows .mixedOrders = true) (hl : l.toArray.size = m) (k : XA P w0 h0 l.toArray Q m (Array.replicate m false) n L Γ) : SP P w0 h0 (.region id l.toArray true) Q n L Γ := fun a w f s => by
 refine wp_region_any hm ?_
 rw [hl]
 exact k a _ f (s.drew _)
theorem upon_nrm {o : Oper} {a : Act} {w : World} {K : Act → World → Prop} (h : o.wp P a w K (nrm K)) : o.wp P a w K Q := by
 have hlo : ¬ LetsOut (nrm K) := fun ⟨_, _, h, _⟩ => by cases h
 unfold Oper.wp at h ⊢
 unfold Oper.upon at h ⊢
 split at h <;> first
  | exact h
  | (refine Calls.mono h fun e w'' hq => ?_; cases e with
    | returned v => exact hq
    | panicked c => exact absurd hq.1 (by simp)
    | outgrown => exact absurd hq hlo)
  | exact absurd h.1 (by simp)
  | exact h.elim
theorem XA.one {i : Nat} {o : Oper} {fuel : Nat} {listed : Array Bool} (hi : ops[i]? = some o) (hr : Region.ready .any ops listed = [i]) (hg : o.guard = none)
  (hx : XL P w0 h0 false ops (fun _ _ => True) (nrm (wpAny P .any ops Q fuel (listed.setIfInBounds i true))) [o] n L Γ) : XA P w0 h0 ops Q (fuel + 1) listed n L Γ := fun a w f s => by
 refine wpAny_all hr (by simp) fun j hj => ?_
 obtain rfl : j = i := by simpa using hj
 have := hx a w f s
 unfold wpList at this
 rw [if_pos (wanted_none hg _)] at this
 unfold wpOp
 simp only [hi]
 rw [if_pos (wanted_none hg _)]
 rcases this with h | ⟨_, h⟩
 ·left
  exact upon_nrm (Oper.wp_mono (fun a' w' (hh : nrm _ .normal a' w') => hh.2) h)
 ·obtain ⟨_, _, h, _⟩ := h; cases h
theorem XA.two {i j : Nat} {o o' : Oper} {fuel : Nat} {listed : Array Bool} (hi : ops[i]? = some o) (hj : ops[j]? = some o') (hr : Region.ready .any ops listed = [i, j]) (hg : o.guard = none) (hg' : o'.guard = none)
  (hx : XL P w0 h0 false ops (fun _ _ => True) (nrm (wpAny P .any ops Q fuel (listed.setIfInBounds i true))) [o] n L Γ)
  (hy : XL P w0 h0 false ops (fun _ _ => True) (nrm (wpAny P .any ops Q fuel (listed.setIfInBounds j true))) [o'] n L Γ) : XA P w0 h0 ops Q (fuel + 1) listed n L Γ := fun a w f s => by
 refine wpAny_all hr (by simp) fun k hk => ?_
 have hk' : k = i ∨ k = j := by simpa using hk
 rcases hk' with rfl | rfl
 ·have := hx a w f s
  unfold wpList at this
  rw [if_pos (wanted_none hg _)] at this
  unfold wpOp
  simp only [hi]
  rw [if_pos (wanted_none hg _)]
  rcases this with h | ⟨_, h⟩
  ·left
   exact upon_nrm (Oper.wp_mono (fun a' w' (hh : nrm _ .normal a' w') => hh.2) h)
  ·obtain ⟨_, _, h, _⟩ := h; cases h
 ·have := hy a w f s
  unfold wpList at this
  rw [if_pos (wanted_none hg' _)] at this
  unfold wpOp
  simp only [hj]
  rw [if_pos (wanted_none hg' _)]
  rcases this with h | ⟨_, h⟩
  ·left
   exact upon_nrm (Oper.wp_mono (fun a' w' (hh : nrm _ .normal a' w') => hh.2) h)
  ·obtain ⟨_, _, h, _⟩ := h; cases h
theorem XA.on {fuel : Nat} {listed : Array Bool} (k : XA P w0 h0 ops Q fuel listed n L Γ) : Jp w0 h0 .normal (nrm (wpAny P .any ops Q fuel listed)) n L Γ := fun a w f s => ⟨rfl, k a w f s⟩
theorem XA.done {fuel : Nat} {listed : Array Bool} (hr : Region.ready .any ops listed = []) (k : Jp w0 h0 .normal Q n L Γ) : XA P w0 h0 ops Q fuel listed n L Γ := fun a w f s => wpAny_done hr (k a w f s) fuel
class NPT (Q : Exit → Act → World → Prop) : Prop where
 npt : ∀ c a w d v, Q (.panic c) (Act.put a d v) w → Q (.panic c) a w
instance NPT.thn (N : Act → World → Prop) [h : NPT Q] : NPT (Exit.then N Q) := ⟨fun c a w d v hh => h.npt c a w d v hh⟩
instance NPT.blk (i : Nat) [h : NPT Q] : NPT (Exit.inBlock i Q) := ⟨fun c a w d v hh => h.npt c a w d v hh⟩
instance NPT.body (fn : Func) (R : Ending → World → Prop) : NPT (bodyPost P fn R) := ⟨fun c a w d v hh => by cases d <;> exact hh⟩
theorem XA.take {i : Nat} {d : Tmp} {op : Op} {ty : TypeId} {pos : String} {af : Array Edge} {v : Value} {fuel : Nat} {listed : Array Bool} (hi : ops[i]? = some ⟨some d, op, ty, pos, af, none⟩) (hv : valB op = true) (hd : Nat.blt d n = true)
  (hs : Region.noSelect ops = true) (hf : Region.free .any ops listed i = true) (hr : (Region.ready .any ops listed).contains i = true) [hQ : NPT Q]
  (hx : ∀ (w0 : World) (h0 : Hp) (K : Act → World → Prop), XL P w0 h0 true ops K Q [] n ((d, v) :: L) [] → XL P w0 h0 true ops K Q [⟨some d, op, ty, pos, af, none⟩] n L [])
  (k : XA P w0 h0 ops Q fuel (listed.setIfInBounds i true) n ((d, v) :: L) Γ) : XA P w0 h0 ops Q (fuel + 1) listed n L Γ := fun a w f s => by
 have hd' : d < n := by rw [Nat.blt_eq] at hd; exact hd
 have hy : Yields P ops ⟨some d, op, ty, pos, af, none⟩ v a := .inl ⟨wanted_none rfl _, fun w' => by
  have := (hx w' (fun _ => none) (fun a' _ => Fit n ((d, v) :: L) a') (fun a' f' w'' _ => f')).quiet f
  unfold wpQuiet at this
  rw [if_pos (wanted_none rfl _)] at this
  obtain ⟨v', h1, h2⟩ := this
  have hW : Wd w' (fun _ => none) [] w' := Wd.start trivial (fun b o hb => by cases hb)
  have h3 := h1 w' hW
  have h4 := (h2 w' hW).get d v (lk_cons_self _ _ _)
  have h5 : v' = v := by
   simp only [Act.put] at h4
   rw [Array.getElem?_setIfInBounds_self_of_lt (by rw [f.size]; exact hd')] at h4
   exact Option.some.inj h4
  subst h5
  unfold Oper.quietAt at h3
  cases hq : (execOp a.eval ⟨some d, op, ty, pos, af, none⟩).run P w' with
  | ok r w2 =>
   obtain ⟨u, hu⟩ := execOp_value (o := ⟨some d, op, ty, pos, af, none⟩) hv hq
   rw [hq] at h3; subst hu
   obtain ⟨h6, h7⟩ := h3
   subst h6; subst h7; rfl
  | _ => rw [hq] at h3; cases h3⟩
 exact wpAny_take hi hs hf hr (fun c a' w' => hQ.npt c a' w' _ _) hy (k _ w (f.put d v hd) s)
end
end Go.Bk

namespace Go.Bk
theorem star_perm {Γ Γ' : List Asn} (p : Γ.Perm Γ') : ∀ h, star Γ h → star Γ' h := by
 induction p with
 | nil => exact fun _ s => s
 | cons x _ ih => exact fun h s => star_tail ih s
 | swap x y l => exact fun h s => star_swap s
 | trans _ _ ih1 ih2 => exact fun h s => ih2 h (ih1 h s)
theorem star_bundle {Γ Δ : List Asn} : ∀ h, star (Γ ++ Δ) h → star (Γ ++ [star Δ]) h := fun h s => by
 obtain ⟨h1, h2, e, d, s1, s2⟩ := (star_app Γ Δ).1 s
 exact (star_app _ _).2 ⟨h1, h2, e, d, s1, h2, fun _ => none, by funext b; unfold un; cases h2 b <;> rfl, fun b => .inr rfl, s2, trivial⟩
theorem star_unbundle {Γ Δ : List Asn} : ∀ h, star (Γ ++ [star Δ]) h → star (Γ ++ Δ) h := fun h s => by
 obtain ⟨h1, h2, e, d, s1, h3, h4, e2, d2, s2, _⟩ := (star_app Γ [star Δ]).1 s
 refine (star_app _ _).2 ⟨h1, h2, e, d, s1, ?_⟩
 rw [e2]; exact star_more _ d2 s2
theorem star_flat {Γ Δ : List Asn} : ∀ h, star (star Γ :: Δ) h ↔ star (Γ ++ Δ) h := fun h => by
 constructor
 ·rintro ⟨h1, h2, e, d, s1, s2⟩; exact (star_app _ _).2 ⟨h1, h2, e, d, s1, s2⟩
 ·intro s; obtain ⟨h1, h2, e, d, s1, s2⟩ := (star_app _ _).1 s; exact ⟨h1, h2, e, d, s1, s2⟩
section
variable {P : Program} {f : FuncId} {vs : List Value} {Γ Δ : List Asn} {post post' : Value → List Asn → Prop}
theorem Tri.conseq (t : Tri P f vs Γ post) (k : ∀ v Γ', post v Γ' → ∃ Γ'', post' v Γ'' ∧ ∀ h, star Γ' h → star Γ'' h) : Tri P f vs Γ post' := fun w h s a =>
 (t w h s a).mono fun e w' ⟨v, Γ', he, hp, hw⟩ => by
  obtain ⟨Γ'', hp', hs⟩ := k v Γ' hp
  exact ⟨v, Γ'', he, hp', hw.mono hs⟩
theorem Tri.fr (t : Tri P f vs Γ post) (Δ : List Asn) : Tri P f vs (Γ ++ Δ) (fun v Γ'' => ∃ Γ', post v Γ' ∧ Γ'' = Γ' ++ Δ) := fun w h s a =>
 (Tri.frame t (Wd.start s a)).mono fun e w' ⟨v, Γ', he, hp, hw⟩ => ⟨v, Γ' ++ Δ, he, ⟨Γ', hp, rfl⟩, hw⟩
theorem Tri.ex {α : Sort _} {A : α → Asn} {Γ : List Asn} (t : ∀ x, Tri P f vs (A x :: Γ) post) : Tri P f vs ((fun h => ∃ x, A x h) :: Γ) post := fun w h ⟨h1, h2, e, d, ⟨x, hx⟩, s⟩ a => t x w h ⟨h1, h2, e, d, hx, s⟩ a
end
section
variable {P : Program} {w0 : World} {h0 : Hp} {ops : Array Oper} {Q : Exit → Act → World → Prop} {n : Nat} {L : Sl} {Γ : List Asn}
def XO (P : Program) (w0 : World) (h0 : Hp) (ops : Array Oper) (Q : Exit → Act → World → Prop) (fuel : Nat) (listed : Array Bool) (n : Nat) (L : Sl) (Γ : List Asn) (rs : List Nat) : Prop :=
 ∀ a w, Fit n L a → Wd w0 h0 Γ w → ∀ i ∈ rs, wpOp P ops Q i (wpAny P .any ops Q fuel (listed.setIfInBounds i true)) a w
theorem XA.many {fuel : Nat} {listed : Array Bool} (rs : List Nat) (hr : Region.ready .any ops listed = rs) (hne : rs.isEmpty = false) (k : XO P w0 h0 ops Q fuel listed n L Γ rs) : XA P w0 h0 ops Q (fuel + 1) listed n L Γ := fun a w f s =>
 wpAny_all hr (by intro h; subst h; cases hne) (k a w f s)
theorem XO.nil {fuel : Nat} {listed : Array Bool} : XO P w0 h0 ops Q fuel listed n L Γ [] := fun a w f s i hi => by cases hi
theorem XO.cons {i : Nat} {rs : List Nat} {o : Oper} {fuel : Nat} {listed : Array Bool} (hi : ops[i]? = some o) (hg : o.guard = none)
  (hx : XL P w0 h0 false ops (fun _ _ => True) (nrm (wpAny P .any ops Q fuel (listed.setIfInBounds i true))) [o] n L Γ) (k : XO P w0 h0 ops Q fuel listed n L Γ rs) : XO P w0 h0 ops Q fuel listed n L Γ (i :: rs) := fun a w f s j hj => by
 rcases List.mem_cons.1 hj with rfl | hj
 ·have := hx a w f s
  unfold wpList at this
  rw [if_pos (wanted_none hg _)] at this
  unfold wpOp
  simp only [hi]
  rw [if_pos (wanted_none hg _)]
  rcases this with h | ⟨_, h⟩
  ·left
   exact upon_nrm (Oper.wp_mono (fun a' w' (hh : nrm _ .normal a' w') => hh.2) h)
  ·obtain ⟨_, _, h, _⟩ := h; cases h
 ·exact k a w f s j hj
end
end Go.Bk

namespace Go.Bk
section
variable {P : Program} {w0 : World} {h0 : Hp} {q : Bool} {ops : Array Oper} {K : Act → World → Prop} {Q : Exit → Act → World → Prop} {rest : List Oper} {n : Nat} {L : Sl} {Γ : List Asn}
variable {d : Tmp} {ty : TypeId} {pos : String} {af : Array Edge}
theorem XL.indexA {x y : Operand} {T N E sz : Nat} {k : IntKind} {i : Int} {j : Nat} {cs vs : List Value} (hx : ev L x = some (.agg cs.toArray)) (hy : ev L y = some (.int k i)) [hT : Arr P T N E sz] [hE : Ag P E sz] (hj : i = (j : Int)) (h2 : j < N) (hs : SbL cs (j * sz) sz vs) (hd : Nat.blt d n = true)
  (kk : XL P w0 h0 q ops K Q rest n ((d, .agg vs.toArray) :: L) Γ) : XL P w0 h0 q ops K Q (⟨some d, .index T x y, ty, pos, af, none⟩ :: rest) n L Γ :=
 XL.value (fun a w f s => by
  subst hj
  simp only [execOp, f.ev hx, f.ev hy, Instr.index, asIntOf, pure_bind]
  rw [bind_assoc, ok_of (run_underlying' hT.arr w)]
  simp only []
  rw [if_pos (show 0 ≤ (j : Int) ∧ (j : Int) < (N : Int) by omega)]
  simp only [Int.toNat_natCast, bind_assoc]
  rw [ok_of (hT.size w)]
  have := part_row (P := P) (E := E) (enc := fun _ : Unit => vs) (x := ()) hs w
  rw [ok_of this]; rfl) hd kk
end
end Go.Bk

namespace Go.Bk
section
variable {P : Program} {w0 : World} {h0 : Hp} {q : Bool} {ops : Array Oper} {K : Act → World → Prop} {Q : Exit → Act → World → Prop} {rest : List Oper} {n : Nat} {L : Sl} {Γ Γ' Γ1 Γ2 : List Asn} {c : Code} {e : Exit}
theorem Jp.lit {E k b : Nat} {xs : List Value} (m : Nat) (r : Rm (pt b (cel xs E)) Γ Γ2) (hl : xs.length = m * k) (kk : Jp w0 h0 e Q n L (Sl' E k (.slice (some ⟨b, 0, none⟩) m m) m xs :: Γ2)) : Jp w0 h0 e Q n L Γ :=
 Jp.gam (fun h s => closeLit hl h (r.to h s)) kk
theorem SP.lit {E k b : Nat} {xs : List Value} (m : Nat) (r : Rm (pt b (cel xs E)) Γ Γ2) (hl : xs.length = m * k) (kk : SP P w0 h0 c Q n L (Sl' E k (.slice (some ⟨b, 0, none⟩) m m) m xs :: Γ2)) : SP P w0 h0 c Q n L Γ :=
 fun a w f s => kk a w f (s.mono fun h s => closeLit hl h (r.to h s))
theorem XL.lit {E k b : Nat} {xs : List Value} (m : Nat) (r : Rm (pt b (cel xs E)) Γ Γ2) (hl : xs.length = m * k) (kk : XL P w0 h0 false ops K Q rest n L (Sl' E k (.slice (some ⟨b, 0, none⟩) m m) m xs :: Γ2)) : XL P w0 h0 false ops K Q rest n L Γ :=
 fun a w f s => kk a w f (s.mono fun h s => closeLit hl h (r.to h s))
theorem SP.share1 {a0 : Code} {X : Type} (M : X → Sl) (Δ : X → List Asn) (I : X → Prop) (k2 : ∀ x, I x → SP P w0 h0 c Q n (M x) (Δ x)) (k1 : (∀ x, I x → SP P w0 h0 c Q n (M x) (Δ x)) → SP P w0 h0 (.seq a0 c) Q n L Γ) : SP P w0 h0 (.seq a0 c) Q n L Γ := k1 k2
theorem SP.share2 {a0 a1 : Code} {X : Type} (M : X → Sl) (Δ : X → List Asn) (I : X → Prop) (k2 : ∀ x, I x → SP P w0 h0 c Q n (M x) (Δ x)) (k1 : (∀ x, I x → SP P w0 h0 c Q n (M x) (Δ x)) → SP P w0 h0 (.seq a0 (.seq a1 c)) Q n L Γ) : SP P w0 h0 (.seq a0 (.seq a1 c)) Q n L Γ := k1 k2
theorem SP.gam (hΓ : ∀ h, star Γ h → star Γ' h) (k : SP P w0 h0 c Q n L Γ') : SP P w0 h0 c Q n L Γ := fun a w f s => k a w f (s.mono hΓ)
theorem SP.know {p : Prop} (hp : ∀ h, star Γ h → p) (k : p → SP P w0 h0 c Q n L Γ) : SP P w0 h0 c Q n L Γ := fun a w f s => by
 obtain ⟨h, st, _⟩ := id s
 exact k (hp h st) a w f s
theorem Jp.know {p : Prop} (hp : ∀ h, star Γ h → p) (k : p → Jp w0 h0 e Q n L Γ) : Jp w0 h0 e Q n L Γ := fun a w f s => by
 obtain ⟨h, st, _⟩ := id s
 exact k (hp h st) a w f s
variable {d : Tmp} {ty : TypeId} {pos : String} {af : Array Edge}
theorem XL.nilCheckI {x : Operand} {t : TypeId} {v : Value} (hx : ev L x = some (.iface t v)) (hd : Nat.blt d n = true) (k : XL P w0 h0 q ops K Q rest n ((d, .iface t v) :: L) Γ) : XL P w0 h0 q ops K Q (⟨some d, .nilCheck x, ty, pos, af, none⟩ :: rest) n L Γ :=
 XL.value (fun a w f s => by simp [execOp, f.ev hx]) hd k
end
section
variable {P : Program} {w0 : World} {h0 : Hp} {ops : Array Oper} {Q : Exit → Act → World → Prop} {n : Nat} {L : Sl} {Γ : List Asn}
theorem XA.takeV {i : Nat} {d : Tmp} {op : Op} {ty : TypeId} {pos : String} {af : Array Edge} {v : Value} {fuel : Nat} {listed : Array Bool} (hi : ops[i]? = some ⟨some d, op, ty, pos, af, none⟩) (hd : Nat.blt d n = true)
  (hs : Region.noSelect ops = true) (hf : Region.free .any ops listed i = true) (hr : (Region.ready .any ops listed).contains i = true) [hQ : NPT Q]
  (hx : ∀ a w, Fit n L a → (execOp a.eval ⟨some d, op, ty, pos, af, none⟩).run P w = .ok (.value v) w)
  (k : XA P w0 h0 ops Q fuel (listed.setIfInBounds i true) n ((d, v) :: L) Γ) : XA P w0 h0 ops Q (fuel + 1) listed n L Γ := fun a w f s =>
 wpAny_take hi hs hf hr (fun c a' w' => hQ.npt c a' w' _ _) (.inl ⟨wanted_none rfl _, fun w' => hx a w' f⟩) (k _ w (f.put d v hd) s)
theorem XA.takeN {i : Nat} {d : Tmp} {x : Operand} {ad : Addr} {ty : TypeId} {pos : String} {af : Array Edge} {fuel : Nat} {listed : Array Bool} (hi : ops[i]? = some ⟨some d, .nilCheck x, ty, pos, af, none⟩) (hd : Nat.blt d n = true)
  (hs : Region.noSelect ops = true) (hf : Region.free .any ops listed i = true) (hr : (Region.ready .any ops listed).contains i = true) [hQ : NPT Q] (hx : ev L x = some (.pointer (some ad)))
  (k : XA P w0 h0 ops Q fuel (listed.setIfInBounds i true) n ((d, .pointer (some ad)) :: L) Γ) : XA P w0 h0 ops Q (fuel + 1) listed n L Γ :=
 XA.takeV hi hd hs hf hr (fun a w f => by simp [execOp, f.ev hx]) k
theorem XA.takeI {i : Nat} {d : Tmp} {x : Operand} {t : TypeId} {v : Value} {ty : TypeId} {pos : String} {af : Array Edge} {fuel : Nat} {listed : Array Bool} (hi : ops[i]? = some ⟨some d, .nilCheck x, ty, pos, af, none⟩) (hd : Nat.blt d n = true)
  (hs : Region.noSelect ops = true) (hf : Region.free .any ops listed i = true) (hr : (Region.ready .any ops listed).contains i = true) [hQ : NPT Q] (hx : ev L x = some (.iface t v))
  (k : XA P w0 h0 ops Q fuel (listed.setIfInBounds i true) n ((d, .iface t v) :: L) Γ) : XA P w0 h0 ops Q (fuel + 1) listed n L Γ :=
 XA.takeV hi hd hs hf hr (fun a w f => by simp [execOp, f.ev hx]) k
end
end Go.Bk

namespace Go.Bk
section
variable {P : Program} {ops : Array Oper} {md : Region.Mode} {C : Asn → World → Prop}
def YD (P : Program) (ops : Array Oper) (C : Asn → World → Prop) (o : Oper) (v : Value) (a : Act) : Prop :=
 (Region.wanted o (yielded ops a.tmps) = true ∧ ∀ Δ w, C Δ w → o.quietAt P a (C Δ) w v) ∨ (Region.wanted o (yielded ops a.tmps) = false ∧ v = undef)
theorem YD.same {o : Oper} {v : Value} {a a' : Act} (hy : YD P ops C o v a) (he : execOp a'.eval o = execOp a.eval o) (hw : Region.wanted o (yielded ops a'.tmps) = Region.wanted o (yielded ops a.tmps)) : YD P ops C o v a' := by
 unfold YD Oper.quietAt at *
 rw [he, hw]; exact hy
def LD (P : Program) (md : Region.Mode) (ops : Array Oper) (C : Asn → World → Prop) (n : Nat) (L : Array Bool → Act → Prop) : Nat → Array Bool → Act → Prop
 | 0, listed, a => L listed a
 | f + 1, listed, a => Region.ready md ops listed ≠ [] ∧ ∀ i ∈ Region.ready md ops listed, i < n ∧ ∃ o v, ops[i]? = some o ∧ YD P ops C o v a ∧ LD P md ops C n L f (listed.setIfInBounds i true) (a.put o.dst v)
theorem YD.wp {i : Nat} {o : Oper} {v : Value} {a : Act} {w : World} {Δ : Asn} {K : Act → World → Prop} {Q' : Exit → Act → World → Prop} (hi : ops[i]? = some o) (hy : YD P ops C o v a) (hw : C Δ w)
  (h : ∀ w', C Δ w' → K (a.put o.dst v) w') : wpOp P ops Q' i K a w := by
 have hy' : YieldsIn P ops (C Δ) o v a := hy.imp (fun ⟨h1, h2⟩ => ⟨h1, h2 Δ⟩) id
 exact wpOp_of_qOp hw (K := fun a' => a' = a.put o.dst v) (fun a' w' hw' e => by subst e; exact h w' hw') (hy'.qOp hi rfl)
theorem LD.wp {n g : Nat} {L : Array Bool → Act → Prop} {Q' : Exit → Act → World → Prop} {Δ : Asn} (hL : ∀ listed a w, C Δ w → L listed a → wpAny P md ops Q' g listed a w) :
  ∀ (f : Nat) (listed : Array Bool) (a : Act) (w : World), C Δ w → LD P md ops C n L f listed a → wpAny P md ops Q' (f + g) listed a w
 | 0, listed, a, w, hw, h => by rw [Nat.zero_add]; exact hL _ _ _ hw h
 | f + 1, listed, a, w, hw, h => by
  rw [show f + 1 + g = (f + g) + 1 by omega]
  refine ⟨fun h0 => absurd h0 h.1, fun i hi => ?_⟩
  obtain ⟨_, o, v, ho, hy, hr⟩ := h.2 i hi
  exact hy.wp ho hw fun w' hw' => LD.wp hL f _ _ w' hw' hr
theorem LD.first {n i : Nat} {oi : Oper} {v : Value} {L : Array Bool → Act → Prop} (hi : ops[i]? = some oi) (hsel : ∀ (j : Nat) (o : Oper) cs b, ops[j]? = some o → o.op ≠ .select cs b)
  (hwait : ∀ listed, HeadInv md ops n listed → listed.getD i true = false → ∀ j ∈ Region.ready md ops listed, j < n) (hin : i < n)
  (hdone : ∀ listed a, L listed a → ∀ j ∈ Region.ready md ops listed, n ≤ j) :
  ∀ (f : Nat) (listed : Array Bool) (a : Act), HeadInv md ops n listed →
   (∀ j oj, ops[j]? = some oj → j ≠ i → listed.getD j true = false → (∀ e ∈ oj.after, Region.binds md e = true → e.on ≠ i) → oi.apart ops oj = true) →
   i ∈ Region.ready md ops listed → YD P ops C oi v a →
   LD P md ops C n L f (listed.setIfInBounds i true) (a.put oi.dst v) → LD P md ops C n L (f + 1) listed a := by
 intro f
 induction f with
 | zero =>
  intro listed a inv _ hr hy H
  have hun := (mem_ready.1 hr).1
  refine ⟨fun h => (by rw [h] at hr; cases hr), fun j hj => ⟨hwait listed inv hun j hj, ?_⟩⟩
  by_cases hji : j = i
  ·subst hji; exact ⟨oi, v, hi, hy, H⟩
  ·have h1 := hwait listed inv hun j hj
   have := hdone _ _ H j (ready_mono hj hji)
   omega
 | succ f ih =>
  intro listed a inv hfree hr hy H
  have hun := (mem_ready.1 hr).1
  refine ⟨fun h => (by rw [h] at hr; cases hr), fun j hj => ?_⟩
  have hjn := hwait listed inv hun j hj
  refine ⟨hjn, ?_⟩
  by_cases hji : j = i
  ·subst hji; exact ⟨oi, v, hi, hy, H⟩
  ·obtain ⟨_, oj, u, hoj, hyj, HK⟩ := H.2 j (ready_mono hj hji)
   obtain ⟨hjun, oj', hoj', hall⟩ := mem_ready.1 hj
   have : oj' = oj := Option.some.inj (hoj'.symm.trans hoj)
   subst this
   have hnot : ∀ e ∈ oj'.after, Region.binds md e = true → e.on ≠ i := fun e he hb heq => by
    have h1 := hall e he hb
    rw [heq, getD_both hun] at h1
    cases h1
   obtain ⟨a1, a2, a3⟩ := Oper.apart_spec (hfree j oj' hoj hji hjun hnot)
   have hfree' : ∀ k ok, ops[k]? = some ok → k ≠ i → (listed.setIfInBounds j true).getD k true = false →
     (∀ e ∈ ok.after, Region.binds md e = true → e.on ≠ i) → oi.apart ops ok = true := fun k ok hk hki hun hno => by
    refine hfree k ok hk hki ?_ hno
    by_cases hjk : j = k
    ·subst hjk; exact hjun
    ·rw [getD_set_ne true hjk] at hun; exact hun
   refine ⟨oj', u, hoj, hyj.same (execOp_put oj' (fun cs b => hsel j oj' cs b hoj) a oi.dst v a1).symm (wanted_put oj' a oi.dst v a1).symm, ?_⟩
   refine ih (listed.setIfInBounds j true) _ (inv.set hj hjn) hfree' (ready_mono hr (Ne.symm hji)) (hy.same (execOp_put oi (fun cs b => hsel i oi cs b hi) a oj'.dst u a3) (wanted_put oi a oj'.dst u a3)) ?_
   rw [Array.setIfInBounds_comm _ _ hji, ← Act.put_comm a v u a2]
   exact HK
def lexN (md : Region.Mode) (ops : Array Oper) (g n : Nat) : Nat → Nat → Array Bool → Bool
 | 0, _, listed => Region.seqB md ops g n listed
 | f + 1, k, listed => (Region.ready md ops listed).contains k && Region.free md ops listed k && lexN md ops g n f (k + 1) (listed.setIfInBounds k true)
theorem LD.lex {n g : Nat} {Lq : Act → Prop} (hsel : Region.noSelect ops = true) (hs : Region.sinkB md ops n = true) (hc : Region.chainB md ops n = true) (hn : n < ops.size) :
  ∀ (l : List Oper) (k : Nat) (listed : Array Bool) (a : Act), (∀ j, j < l.length → l[j]? = ops[k + j]?) → k + l.length ≤ n → HeadInv md ops n listed →
  lexN md ops g n l.length k listed = true → wpQD P ops C Lq l a → LD P md ops C n (fun listed' a' => Region.seqB md ops g n listed' = true ∧ Lq a') l.length listed a
 | [], k, listed, a, _, hk, _, hB, h => ⟨by simpa [lexN] using hB, h⟩
 | o :: l, k, listed, a, hl, hk, inv, hB, h => by
  have h0 : ops[k]? = some o := by simpa using (hl 0 (by simp)).symm
  simp only [List.length_cons, lexN, Bool.and_eq_true] at hB
  obtain ⟨⟨hr, hf⟩, hB'⟩ := hB
  have hkn : k < n := by simp only [List.length_cons] at hk; omega
  have hr' : k ∈ Region.ready md ops listed := by simpa using hr
  obtain ⟨v, hy, hK⟩ : ∃ v, YD P ops C o v a ∧ wpQD P ops C Lq l (a.put o.dst v) := by
   unfold wpQD at h
   by_cases hw : Region.wanted o (yielded ops a.tmps) = true
   ·rw [if_pos hw] at h
    obtain ⟨v, h1, h2⟩ := h
    exact ⟨v, .inl ⟨hw, h1⟩, h2⟩
   ·rw [if_neg hw] at h
    exact ⟨undef, .inr ⟨by simpa using hw, rfl⟩, h⟩
  exact LD.first h0 (Region.noSelect_spec hsel) (fun listed inv hun j hj => by
    rcases Nat.lt_or_ge j n with h | h
    ·exact h
    ·exact absurd hj (tail_waits hs hc hn inv _ k rfl hkn hun j h)) hkn (fun listed' a' hL => seqB_ready hL.1) l.length listed a inv (Region.free_spec h0 hf) hr' hy
   (LD.lex hsel hs hc hn l (k + 1) _ _ (fun j hj => by have := hl (j + 1) (by simp; omega); simpa [Nat.add_assoc, Nat.add_comm 1 j] using this) (by simp only [List.length_cons] at hk; omega) (inv.set hr' hkn) hB' hK)
theorem LD.put {n ia d : Nat} {p : Value} {oa : Oper} {L : Array Bool → Act → Prop} (hsel : ∀ (j : Nat) (o : Oper) cs b, ops[j]? = some o → o.op ≠ .select cs b) (hdst : oa.dst = some d)
  (hap : ∀ j oj, j < n → j ≠ ia → ops[j]? = some oj → oa.apart ops oj = true) : ∀ (f : Nat) (listed : Array Bool) (a : Act), listed.getD ia true = true → LD P md ops C n L f listed a →
   LD P md ops C n (fun l a' => ∃ a'', a' = a''.put (some d) p ∧ L l a'') f listed (a.put (some d) p)
 | 0, listed, a, _, h => ⟨a, rfl, h⟩
 | f + 1, listed, a, hia, h => by
  refine ⟨h.1, fun i hi => ?_⟩
  obtain ⟨hin, o, v, ho, hy, hr⟩ := h.2 i hi
  have hne : i ≠ ia := fun e => by subst e; have := (mem_ready.1 hi).1; rw [hia] at this; cases this
  obtain ⟨a1, a2, a3⟩ := Oper.apart_spec (hap i o hin hne ho)
  rw [hdst] at a1 a2
  refine ⟨hin, o, v, ho, hy.same (execOp_put o (fun cs b => hsel i o cs b ho) a (some d) p a1) (wanted_put o a (some d) p a1), ?_⟩
  rw [Act.put_comm a p v a2]
  exact LD.put hsel hdst hap f _ _ (by rw [getD_set_ne true hne]; exact hia) hr
theorem alloc_any {n g ia d : Nat} {oa : Oper} {L : Array Bool → Act → Prop} {G : Value → Asn → Prop} {Q' : Exit → Act → World → Prop} (hsel : ∀ (j : Nat) (o : Oper) cs b, ops[j]? = some o → o.op ≠ .select cs b)
  (hal : ops[ia]? = some oa) (hdst : oa.dst = some d) (hg : oa.guard = none) (hian : ia < n)
  (hwait : ∀ listed, HeadInv md ops n listed → listed.getD ia true = false → ∀ j ∈ Region.ready md ops listed, j < n)
  (hap : ∀ j oj, j < n → j ≠ ia → ops[j]? = some oj → oa.apart ops oj = true)
  (step : ∀ (a : Act) w, C tt w → ∃ p w' Δ, (execOp a.eval oa).run P w = .ok (.value p) w' ∧ C Δ w' ∧ G p Δ)
  (inv0 : Act → Prop) (hinv : ∀ a d v, inv0 a → inv0 (a.put d v))
  (hdone : ∀ listed a, L listed a → ∀ j ∈ Region.ready md ops listed, n ≤ j)
  (hL : ∀ listed a w p Δ, G p Δ → C Δ w → L listed a → wpAny P md ops Q' g listed (a.put (some d) p) w) :
  ∀ (f : Nat) (listed : Array Bool) (a : Act) (w : World), C tt w → HeadInv md ops n listed → ia ∈ Region.ready md ops listed → LD P md ops C n L f (listed.setIfInBounds ia true) a → wpAny P md ops Q' (f + g + 1) listed a w := by
 intro f
 induction f with
 | zero =>
  intro listed a w hw inv hr H
  have hun := (mem_ready.1 hr).1
  refine ⟨fun h => (by rw [h] at hr; cases hr), fun j hj => ?_⟩
  by_cases hji : j = ia
  ·subst hji
   unfold wpOp
   simp only [hal]
   rw [if_pos (by simp [Region.wanted, hg])]
   left
   unfold Oper.wp
   obtain ⟨p, w', Δ, e, hC, hG⟩ := step a w hw
   rw [e]
   simp only [Oper.upon, hdst]
   rw [Nat.zero_add]
   exact hL _ _ _ p Δ hG hC H
  ·have h1 := hwait listed inv hun j hj
   have := hdone _ _ H j (ready_mono hj hji)
   omega
 | succ f ih =>
  intro listed a w hw inv hr H
  have hun := (mem_ready.1 hr).1
  refine ⟨fun h => (by rw [h] at hr; cases hr), fun j hj => ?_⟩
  by_cases hji : j = ia
  ·subst hji
   unfold wpOp
   simp only [hal]
   rw [if_pos (by simp [Region.wanted, hg])]
   left
   unfold Oper.wp
   obtain ⟨p, w', Δ, e, hC, hG⟩ := step a w hw
   rw [e]
   simp only [Oper.upon, hdst]
   refine LD.wp (Δ := Δ) (fun l a' w'' hC' hL' => ?_) (f + 1) _ _ w' hC (LD.put (p := p) hsel hdst hap (f + 1) _ a (by
    have hlt : j < listed.size := by rw [inv.size]; exact (Array.getElem?_eq_some_iff.1 hal).1
    simp [hlt]) H)
   obtain ⟨a'', rfl, hL''⟩ := hL'
   exact hL _ _ _ p Δ hG hC' hL''
  ·obtain ⟨hjn, oj, u, hoj, hyj, HK⟩ := H.2 j (ready_mono hj hji)
   refine hyj.wp hoj hw fun w' hw' => ?_
   rw [show f + 1 + g = f + g + 1 by omega]
   refine ih (listed.setIfInBounds j true) _ w' hw' (inv.set hj hjn) (ready_mono hr (Ne.symm hji)) ?_
   rw [Array.setIfInBounds_comm _ _ hji]
   exact HK
def tailAB (ops : Array Oper) (ia : Nat) : Bool :=
 Region.noSelect ops && decide (ia + 1 < ops.size) && Region.sinkB .any ops (ia + 1) && Region.chainB .any ops (ia + 1) && (Region.ready .any ops (Array.replicate ops.size false)).contains ia &&
  ((List.range ia).all fun j => match ops[ia]?, ops[j]? with
   | some oa, some oj => oa.apart ops oj
   | _, _ => false) && lexN .any ops (ops.size - (ia + 1)) (ia + 1) ia 0 ((Array.replicate ops.size false).setIfInBounds ia true)
end
section
variable {P : Program} {w0 : World} {h0 : Hp} {Q : Exit → Act → World → Prop} {n : Nat} {L : Sl} {Γ : List Asn} {ops : Array Oper}
def KA (P : Program) (w0 : World) (h0 : Hp) (Q : Exit → Act → World → Prop) (ops : Array Oper) (rest : List Oper) (d : Tmp) (z : List Value) (T : TypeId) (Γ : List Asn) : Act → World → Prop := fun a _ =>
 ∀ b w', Wd w0 h0 (pt b (cel z T) :: Γ) w' → wpList P ops Q rest (a.put (some d) (.pointer (some ⟨b, 0, none⟩))) w'
theorem SP.tailA {id : Nat} {l : List Oper} {d T : Nat} {ty : TypeId} {pos : String} {af : Array Edge} {z : List Value} (ia : Nat) (hm : P.follows .mixedOrders = true) (hB : tailAB l.toArray ia = true) (hal : l[ia]? = some ⟨some d, .alloc T, ty, pos, af, none⟩) [hz : Zr P T z]
  (k : XL P w0 h0 true l.toArray (KA P w0 h0 Q l.toArray (l.drop (ia + 1)) d z T Γ) Q (l.take ia) n L Γ) : SP P w0 h0 (.region id l.toArray true) Q n L Γ := fun a w f s => by
 simp only [tailAB, Bool.and_eq_true, decide_eq_true_eq] at hB
 obtain ⟨⟨⟨⟨⟨⟨hsel, hn⟩, hs⟩, hc⟩, hr⟩, hap⟩, hlex⟩ := hB
 have hn' : ia + 1 < l.length := by simpa using hn
 have htl : (l.take ia).length = ia := by simp; omega
 have hdl : (l.drop (ia + 1)).length = l.toArray.size - (ia + 1) := by simp
 have inv0 : HeadInv .any l.toArray (ia + 1) (Array.replicate l.toArray.size false) :=
  ⟨by simp, fun j oj _ hl => (by rw [getD_replicate_false] at hl; cases hl), fun t _ ht => getD_in (by simpa using ht) (getD_replicate_false _ _)⟩
 have hr' : ia ∈ Region.ready .any l.toArray (Array.replicate l.toArray.size false) := by simpa using hr
 have hal' : l.toArray[ia]? = some ⟨some d, .alloc T, ty, pos, af, none⟩ := by simpa using hal
 have H := LD.lex (P := P) (md := .any) (g := l.toArray.size - (ia + 1)) (C := fun Δ => Wd w0 h0 (Δ :: Γ)) hsel hs hc hn (l.take ia) 0 _ a (fun j hj => by
  have hj' : j < ia := by rw [htl] at hj; exact hj
  simp [hj']) (by rw [htl]; omega) (inv0.set hr' (by omega)) (by rw [htl]; exact hlex) (k a f)
 refine wp_region_any hm ?_
 have hW : Wd w0 h0 (tt :: Γ) { w with drawn := w.drawn + 1 } := by rw [Wd.tt]; exact s.drew _
 have := alloc_any (md := .any) (Q' := Q) (g := l.toArray.size - (ia + 1)) (G := fun p Δ => ∃ b, p = .pointer (some ⟨b, 0, none⟩) ∧ Δ = pt b (cel z T)) (Region.noSelect_spec hsel) hal' rfl rfl (Nat.lt_succ_self ia)
  (fun listed inv hun j hj => by
   rcases Nat.lt_or_ge j (ia + 1) with h | h
   ·exact h
   ·exact absurd hj (tail_waits hs hc hn inv _ ia rfl (Nat.lt_succ_self ia) hun j h))
  (fun j oj hj hne hoj => by
   have h1 := List.all_eq_true.1 hap j (List.mem_range.2 (by omega))
   simp only [hal', hoj] at h1
   exact h1)
  (fun a' w' hw' => by
   obtain ⟨v, hv, hcz⟩ := hz.zero w'
   refine ⟨.pointer (some ⟨w'.heap.size, 0, none⟩), { w' with heap := w'.heap.push (cel z T) }, pt w'.heap.size (cel z T), ?_, ?_, _, rfl, rfl⟩
   ·simp only [execOp, Instr.alloc]
    rw [bind_assoc, ok_of hv]
    simp only [newVar, newRow, hcz, bind_assoc]
    rw [ok_of (newB w' _)]; rfl
   ·rw [Wd.tt] at hw'; exact hw'.new _)
  (fun _ => True) (fun _ _ _ _ => trivial) (fun listed' a' hL => seqB_ready hL.1)
  (fun listed a' w' p Δ hG hC hL => by
   obtain ⟨b, rfl, rfl⟩ := hG
   have hw'' : Wd w0 h0 Γ w' := hC.mono fun h st => star_weaken st
   have := wpAny_of_seq (md := .any) (Q' := Q) (l.drop (ia + 1)) (ia + 1) listed (a'.put (some d) (.pointer (some ⟨b, 0, none⟩))) w' (fun j => by simp [List.getElem?_drop]) (by rw [hdl]; exact hL.1) (hL.2 w' hw'' b w' hC)
   rwa [hdl] at this) (l.take ia).length _ a _ hW inv0 hr' H
 rw [htl, show ia + (l.toArray.size - (ia + 1)) + 1 = l.toArray.size by omega] at this
 exact this
theorem XL.nilq_tailA {rest : List Oper} {d T : Nat} {z : List Value} (hd : Nat.blt d n = true) (k : ∀ b, XL P w0 h0 false ops (Q .normal) Q rest n ((d, .pointer (some ⟨b, 0, none⟩)) :: L) (pt b (cel z T) :: Γ)) :
  XL P w0 h0 true ops (KA P w0 h0 Q ops rest d z T Γ) Q [] n L Γ := fun a f w s b w' s' => k b _ _ (f.put d _ hd) s'
end
end Go.Bk

