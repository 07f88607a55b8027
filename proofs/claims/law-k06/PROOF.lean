import PyProof.Rows.All
import Wide.All
import OpenK.AllK
import Wide.FinOn
import HandS.ForMost
import HandS.Exc
import HandS.WordsExc
import KE.DataEq
import HandS.TupAny
import HandS.Style
import HandS.Conv
import HandS.Dict
import HandS.Iter
import HandS.Zip
import HandS.Comp
import HandS.IsInst
import HandS.Text
import KE.SortData
import KE.DataMinMax
import HandS.Strs
import HandS.RevTup
import HandS.SetKeys
import HandS.OwnEq
import HandS.Property
import HandS.ClsMeth
import OpenK.KWalk
import KE.KRevSl
import HandS.Ends
import KE.SortKeyHeap
import HandS.SortKw
import PyProof.AutoSeq1
import HandS.Evl
import PySem.Challenge.RW_nextsteps_k06_plain_forms
set_option Elab.async false
set_option linter.all false
set_option maxRecDepth 100000
/-! PLa: deep values, their standing in a heap, the state of a body. -/
namespace PL
open PySem PySem.Spec PyProof.Rows L2

/-- a deep value -/
inductive T where
  | non | bl (b : Bool) | int (i : Int) | str (x : Str)
  | tup (ts : List T) | lst (ts : List T)
  | dct (ks : List Key) (ts : List T)
  | ins (C : Addr) (ns : List Str) (ts : List T)
  | raw (v : V)

mutual
inductive Rep (K : PySem.W.Frag) (F : Hp) : V → T → Prop
  | non : Rep K F .non .non
  | bl (b : Bool) : Rep K F (.bl b) (.bl b)
  | int (i : Int) : Rep K F (.int i) (.int i)
  | str (x : Str) : Rep K F (.str x) (.str x)
  | tup {a : Addr} {vs : List V} {ts : List T} : SqT K F a vs → Reps K F vs ts → Rep K F (.ref a) (.tup ts)
  | lst {a : Addr} {vs : List V} {ts : List T} : F a = some (.lst vs) → Reps K F vs ts → Rep K F (.ref a) (.lst ts)
  | dct {a : Addr} {ks : List Key} {vs : List V} {ts : List T} : Rd F a (.dK (ks.zip vs)) → ks.length = vs.length → Reps K F vs ts → Rep K F (.ref a) (.dct ks ts)
  | ins {a C dx : Addr} {ns : List Str} {vs : List V} {ts : List T} : F a = some (.ins C dx (ns.zip vs)) → ns.length = vs.length → Reps K F vs ts → Rep K F (.ref a) (.ins C ns ts)
  | raw (v : V) : Rep K F v (.raw v)
inductive Reps (K : PySem.W.Frag) (F : Hp) : List V → List T → Prop
  | nil : Reps K F [] []
  | cons {v : V} {vs : List V} {t : T} {ts : List T} : Rep K F v t → Reps K F vs ts → Reps K F (v :: vs) (t :: ts)
end

theorem Same.seqT {K : PySem.W.Frag} {H H' : Hp} {a : Addr} {xs : List V} (e : Same H H') (h : SqT K H a xs) : SqT K H' a xs := by
  rcases h with (h | ⟨o, h⟩) | h
  · exact .inl (.inl (e _ _ h))
  · exact .inl (.inr ⟨o, e _ _ h⟩)
  · exact .inr h

theorem Same.rd {H H' : Hp} {a : Addr} {u : HO} (e : Same H H') (h : Rd H a u) : Rd H' a u := by
  rcases h with h | ⟨o, h⟩
  · exact .inl (e _ _ h)
  · exact .inr ⟨o, e _ _ h⟩
mutual
theorem Rep.mono {K : PySem.W.Frag} {F F' : Hp} (s : Same F F') : ∀ {v : V} {t : T}, Rep K F v t → Rep K F' v t
  | _, _, .non => .non
  | _, _, .bl b => .bl b
  | _, _, .int i => .int i
  | _, _, .str x => .str x
  | _, _, .tup h r => .tup (Same.seqT s h) (Reps.mono s r)
  | _, _, .lst h r => .lst (s _ _ h) (Reps.mono s r)
  | _, _, .dct h e r => .dct (Same.rd s h) e (Reps.mono s r)
  | _, _, .ins h e r => .ins (s _ _ h) e (Reps.mono s r)
  | _, _, .raw v => .raw v
theorem Reps.mono {K : PySem.W.Frag} {F F' : Hp} (s : Same F F') : ∀ {vs : List V} {ts : List T}, Reps K F vs ts → Reps K F' vs ts
  | _, _, .nil => .nil
  | _, _, .cons h r => .cons (Rep.mono s h) (Reps.mono s r)
end

section
variable {K : PySem.W.Frag} {F : Hp}
theorem Reps.length : ∀ {vs : List V} {ts : List T}, Reps K F vs ts → vs.length = ts.length
  | _, _, .nil => rfl
  | _, _, .cons _ r => by simp [Reps.length r]
theorem Reps.get : ∀ {vs : List V} {ts : List T} {i : Nat} {t : T}, Reps K F vs ts → ts[i]? = some t → ∃ v, vs[i]? = some v ∧ Rep K F v t
  | _, _, _, _, .nil, e => by simp at e
  | _, _, 0, _, .cons h _, e => by simp at e; subst e; exact ⟨_, rfl, h⟩
  | _, _, i + 1, _, .cons _ r, e => by
    obtain ⟨v, h1, h2⟩ := Reps.get (i := i) r (by simpa using e)
    exact ⟨v, by simpa using h1, h2⟩
theorem Reps.getV : ∀ {vs : List V} {ts : List T} {i : Nat} {v : V}, Reps K F vs ts → vs[i]? = some v → ∃ t, ts[i]? = some t ∧ Rep K F v t
  | _, _, _, _, .nil, e => by simp at e
  | _, _, 0, _, .cons h _, e => by simp at e; subst e; exact ⟨_, rfl, h⟩
  | _, _, i + 1, _, .cons _ r, e => by
    obtain ⟨v, h1, h2⟩ := Reps.getV (i := i) r (by simpa using e)
    exact ⟨v, by simpa using h1, h2⟩
theorem Reps.append : ∀ {vs ws : List V} {ts us : List T}, Reps K F vs ts → Reps K F ws us → Reps K F (vs ++ ws) (ts ++ us)
  | _, _, _, _, .nil, s => s
  | _, _, _, _, .cons h r, s => .cons h (Reps.append r s)
theorem Reps.take : ∀ {vs : List V} {ts : List T} (n : Nat), Reps K F vs ts → Reps K F (vs.take n) (ts.take n)
  | _, _, 0, _ => by simpa using Reps.nil
  | _, _, _ + 1, .nil => by simpa using Reps.nil
  | _, _, n + 1, .cons h r => .cons h (Reps.take n r)
theorem Reps.drop : ∀ {vs : List V} {ts : List T} (n : Nat), Reps K F vs ts → Reps K F (vs.drop n) (ts.drop n)
  | _, _, 0, r => r
  | _, _, _ + 1, .nil => .nil
  | _, _, n + 1, .cons _ r => Reps.drop n r
theorem Reps.reverse {vs : List V} {ts : List T} (r : Reps K F vs ts) : Reps K F vs.reverse ts.reverse := by
  induction vs generalizing ts with
  | nil => cases r; exact .nil
  | cons v vs ih =>
    cases r with
    | cons h r => simpa using (ih r).append (.cons h .nil)
theorem Reps.eraseIdx : ∀ {vs : List V} {ts : List T} (n : Nat), Reps K F vs ts → Reps K F (vs.eraseIdx n) (ts.eraseIdx n)
  | _, _, _, .nil => by simpa using Reps.nil
  | _, _, 0, .cons _ r => by simpa using r
  | _, _, n + 1, .cons h r => by simpa using Reps.cons h (Reps.eraseIdx n r)
theorem Reps.set : ∀ {vs : List V} {ts : List T} {v : V} {t : T} (n : Nat), Reps K F vs ts → Rep K F v t → Reps K F (vs.set n v) (ts.set n t)
  | _, _, _, _, _, .nil, _ => by simpa using Reps.nil
  | _, _, _, _, 0, .cons _ r, h => by simpa using Reps.cons h r
  | _, _, _, _, n + 1, .cons h r, h' => by simpa using Reps.cons h (Reps.set n r h')
theorem Reps.one {v : V} {t : T} (h : Rep K F v t) : Reps K F [v] [t] := .cons h .nil
end

/-! ### results -/
/-- an exception: its class, its fields -/
structure Er where
  C : Addr
  ns : List Str
  ts : List T
inductive R (α : Type) where
  | ok (a : α)
  | er (e : Er)
abbrev M (W : Type) (α : Type) := W → Option (R α × W)
section
variable {W α β : Type}
def ret (a : α) : M W α := fun w => some (.ok a, w)
def bnd (m : M W α) (k : α → M W β) : M W β := fun w => match m w with
  | some (.ok a, w') => k a w'
  | some (.er e, w') => some (.er e, w')
  | none => none
def lift (o : Option α) : M W α := fun w => match o with
  | some a => some (.ok a, w)
  | none => none
def stuck : M W α := fun _ => none
@[simp] theorem bnd_ret (a : α) (k : α → M W β) : bnd (ret a) k = k a := rfl
@[simp] theorem bnd_lift_some (a : α) (k : α → M W β) : bnd (lift (some a)) k = k a := rfl
theorem bnd_assoc {γ : Type} (m : M W α) (k : α → M W β) (l : β → M W γ) : bnd (bnd m k) l = bnd m fun a => bnd (k a) l := by
  funext w
  unfold bnd
  cases m w with
  | none => rfl
  | some p =>
    obtain ⟨r, w'⟩ := p
    cases r <;> rfl
theorem bnd_inv {m : M W α} {k : α → M W β} {w w' : W} {r : R β} (h : bnd m k w = some (r, w')) :
    (∃ a w1, m w = some (.ok a, w1) ∧ k a w1 = some (r, w')) ∨ (∃ e, m w = some (.er e, w') ∧ r = .er e) := by
  unfold bnd at h
  cases hm : m w with
  | none => rw [hm] at h; cases h
  | some p =>
    obtain ⟨q, w1⟩ := p
    rw [hm] at h
    cases q with
    | ok a => exact .inl ⟨a, w1, rfl, h⟩
    | er e =>
      simp only [Option.some.injEq, Prod.mk.injEq] at h
      obtain ⟨h1, h2⟩ := h
      subst h1 h2
      exact .inr ⟨e, rfl, rfl⟩
theorem lift_inv {o : Option α} {w w' : W} {r : R α} (h : lift o w = some (r, w')) : ∃ a, o = some a ∧ r = .ok a ∧ w' = w := by
  cases o with
  | none => cases h
  | some a =>
    simp only [lift, Option.some.injEq, Prod.mk.injEq] at h
    exact ⟨a, rfl, h.1.symm, h.2.symm⟩
theorem ret_inv {a : α} {w w' : W} {r : R α} (h : ret a w = some (r, w')) : r = .ok a ∧ w' = w := by
  simp only [ret, Option.some.injEq, Prod.mk.injEq] at h
  exact ⟨h.1.symm, h.2.symm⟩
end

/-! ### the state of a body -/
/-- what a slot holds: nothing that is known, a frozen value, a list or a dict of the body's own -/
inductive Sl where
  | un
  | fz (t : T)
  | ow (ts : List T)
  | od (ks : List Key) (ts : List T)
abbrev Rho := List Sl

/-- the source of draws: its dict, what it holds -/
structure Dr where
  d : Addr
  rest : Int
  turn : Int
  large : List Int
  cells : List Int
def Dr.dict (l c : Addr) (w : Dr) : List (Key × V) := [(.inr "large", .ref l), (.inr "cells", .ref c), (.inr "rest", .int w.rest), (.inr "turn", .int w.turn)]
def drD (d l c : Addr) : Addr → Prop := fun b => b = d ∨ b = l ∨ b = c
def drOk (d l c : Addr) (H : Hp) (w : Dr) : Prop := w.d = d ∧ d ≠ l ∧ d ≠ c ∧ l ≠ c ∧ H d = some (.dK (w.dict l c)) ∧ H l = some (.lst (w.large.map V.int)) ∧ H c = some (.lst (w.cells.map V.int)) ∧ w.cells.length ≤ 1000 ∧ w.large.length ≤ 1000
/-- the worlds there are -/
inductive WGood : (W : Type) → (Addr → Prop) → (Hp → W → Prop) → Prop
  | dr (d l c : Addr) : WGood Dr (drD d l c) (drOk d l c)
/-- things that all may change (the source of draws), told by W -/
structure Wd (W : Type) where
  D : Addr → Prop
  ok : Hp → W → Prop
  live : ∀ {H w b}, ok H w → D b → H b ≠ none
  stay : ∀ {H H' w}, ok H w → (∀ b, D b → H' b = H b) → ok H' w
  good : WGood W D ok

/-- what is fixed through a body: the world, the heap and its frozen part at the entry -/
structure Gm (W : Type) where
  O : Wd W
  B : Hp
  F0 : Hp

section
variable {W : Type}
def SlOk (K : PySem.W.Frag) (G : Gm W) (H F : Hp) (σ : L2.St) (i : Nat) : Sl → Prop
  | .un => True
  | .fz t => ∃ v, σ[i]? = some (some v) ∧ Rep K F v t
  | .ow ts => ∃ p vs, σ[i]? = some (some (.ref p)) ∧ H p = some (.lst vs) ∧ F p = none ∧ G.B p = none ∧ Reps K F vs ts
  | .od ks ts => ∃ p vs, σ[i]? = some (some (.ref p)) ∧ H p = some (.dK (ks.zip vs)) ∧ ks.length = vs.length ∧ F p = none ∧ G.B p = none ∧ Reps K F vs ts
def Sl.owns : Sl → Bool
  | .ow _ => true
  | .od _ _ => true
  | _ => false

structure Sd (K : PySem.W.Frag) (G : Gm W) (ρ : Rho) (w : W) (σ : L2.St) (H F : Hp) : Prop where
  sub : Same F H
  wok : G.O.ok H w
  dF : ∀ b, G.O.D b → F b = none
  dB : ∀ b, G.O.D b → G.B b ≠ none
  keep : ∀ b o, G.B b = some o → ¬ G.O.D b → H b = some o
  grow : Same G.F0 F
  old : ∀ b, G.B b ≠ none → F b = G.F0 b
  slots : ∀ (i : Nat) (s : Sl), ρ[i]? = some s → SlOk K G H F σ i s
  apart : ∀ (i j : Nat) (s t : Sl), ρ[i]? = some s → ρ[j]? = some t → s.owns = true → t.owns = true → σ[i]? = σ[j]? → i = j
  len : σ.length = ρ.length

/-- the world of draws at given places -/
def drWd (d l c : Addr) : Wd Dr where
  D := drD d l c
  ok := drOk d l c
  live := fun {H w b} ⟨_, _, _, _, h1, h2, h3, _⟩ hb => by
    rcases hb with rfl | rfl | rfl
    · rw [h1]; simp
    · rw [h2]; simp
    · rw [h3]; simp
  stay := fun {H H' w} ⟨a0, a1, a2, a3, h1, h2, h3, h4⟩ e => ⟨a0, a1, a2, a3, (e _ (.inl rfl)).trans h1, (e _ (.inr (.inl rfl))).trans h2, (e _ (.inr (.inr rfl))).trans h3, h4⟩
  good := .dr d l c
theorem neq_of {P : Addr → Prop} {b p : Addr} (d : ¬ P p) (h : P b) : b ≠ p := fun e => d (e ▸ h)
theorem none_of {F H : Hp} (s : Same F H) {p : Addr} (h : H p = none) : F p = none := s.free h

variable {K : PySem.W.Frag} {G : Gm W} {ρ : Rho} {w w' : W} {σ : L2.St} {H H' F F' : Hp}
/-- the same slots in a later heap, where all that stood and is not the world's stands as it was -/
theorem Sd.later (S : Sd K G ρ w σ H F) (sub : Same F' H') (wok : G.O.ok H' w') (gr : Same F F') (ke : ∀ b o, H b = some o → ¬ G.O.D b → H' b = some o) (nf : ∀ b, H b ≠ none → F' b = F b)
    (dF : ∀ b, G.O.D b → F' b = none) : Sd K G ρ w' σ H' F' := by
  have ndB : ∀ p, G.B p = none → ¬ G.O.D p := fun p e d => S.dB p d e
  refine ⟨sub, wok, dF, S.dB, fun b o e d => ke b o (S.keep b o e d) d, S.grow.trans gr, fun b hb => ?_, fun i s hs => ?_, S.apart, S.len⟩
  · have : H b ≠ none := by
      by_cases d : G.O.D b
      · exact G.O.live S.wok d
      · intro z
        cases e : G.B b with
        | none => exact hb e
        | some o => rw [S.keep b o e d] at z; cases z
    rw [nf b this, S.old b hb]
  · have q := S.slots i s hs
    cases s with
    | un => trivial
    | fz t => obtain ⟨v, e, r⟩ := q; exact ⟨v, e, r.mono gr⟩
    | ow ts =>
      obtain ⟨p, vs, e, h1, h2, h3, r⟩ := q
      exact ⟨p, vs, e, ke p _ h1 (ndB p h3), by rw [nf p (by rw [h1]; simp), h2], h3, r.mono gr⟩
    | od ks ts =>
      obtain ⟨p, vs, e, h1, hl, h2, h3, r⟩ := q
      exact ⟨p, vs, e, ke p _ h1 (ndB p h3), hl, by rw [nf p (by rw [h1]; simp), h2], h3, r.mono gr⟩
theorem Sd.fresh (S : Sd K G ρ w σ H F) {p : Addr} (hp : H p = none) : ¬ G.O.D p ∧ G.B p = none ∧ F p = none := by
  have d : ¬ G.O.D p := fun d => G.O.live S.wok d hp
  refine ⟨d, ?_, S.sub.free hp⟩
  cases e : G.B p with
  | none => rfl
  | some o => rw [S.keep p o e d] at hp; cases hp
theorem Same.updB {H F : Hp} {p : Addr} {o : HO} (s : Same F H) : Same (upd F p o) (upd H p o) := fun b u e => by
  by_cases h : b = p
  · subst h; rw [upd_same] at e ⊢; exact e
  · rw [upd_ne h] at e ⊢; exact s b u e
theorem Same.updN {H : Hp} {p : Addr} {o : HO} (h : H p = none) : Same H (upd H p o) := fun b u e => by rw [upd_ne (ne_of_none e h)]; exact e
/-- a new object, frozen at once -/
theorem Sd.laidF (S : Sd K G ρ w σ H F) {p : Addr} {o : HO} (hp : H p = none) : Sd K G ρ w σ (upd H p o) (upd F p o) := by
  obtain ⟨d, _, hf⟩ := S.fresh hp
  refine S.later (Same.updB S.sub) (G.O.stay S.wok fun b db => upd_ne (neq_of d db)) (Same.updN hf) (fun b u e _ => Same.updN hp b u e) (fun b hb => upd_ne (neq_of (P := fun b => H b ≠ none) (fun z => z hp) hb)) (fun b db => ?_)
  rw [upd_ne (neq_of d db)]; exact S.dF b db
/-- a new object, not frozen -/
theorem Sd.laid (S : Sd K G ρ w σ H F) {p : Addr} {o : HO} (hp : H p = none) : Sd K G ρ w σ (upd H p o) F := by
  obtain ⟨d, _, hf⟩ := S.fresh hp
  exact S.later (S.sub.trans (Same.updN hp)) (G.O.stay S.wok fun b db => upd_ne (neq_of d db)) (Same.refl F) (fun b u e _ => Same.updN hp b u e) (fun b hb => rfl) S.dF
/-- an object that no slot owns is frozen -/
theorem Sd.freeze (S : Sd K G ρ w σ H F) {p : Addr} {o : HO} (hp : H p = some o) (hf : F p = none) (hB : G.B p = none) (hs : ∀ (i : Nat) (s : Sl), ρ[i]? = some s → s.owns = true → σ[i]? ≠ some (some (V.ref p))) : Sd K G ρ w σ H (upd F p o) := by
  have d : ¬ G.O.D p := fun d => S.dB p d hB
  have gr : Same F (upd F p o) := Same.updN hf
  refine ⟨fun b u e => ?_, S.wok, fun b db => ?_, S.dB, S.keep, S.grow.trans gr, fun b hb => ?_, fun i s hsl => ?_, S.apart, S.len⟩
  · by_cases h : b = p
    · subst h; rw [upd_same] at e; rw [hp]; exact e
    · rw [upd_ne h] at e; exact S.sub b u e
  · rw [upd_ne (neq_of d db)]; exact S.dF b db
  · rw [upd_ne (neq_of (P := fun b => G.B b ≠ none) (fun z => z hB) hb)]; exact S.old b hb
  · have q := S.slots i s hsl
    cases s with
    | un => trivial
    | fz t => obtain ⟨v, e, r⟩ := q; exact ⟨v, e, r.mono gr⟩
    | ow ts =>
      obtain ⟨p', vs, e, h1, h2, h3, r⟩ := q
      exact ⟨p', vs, e, h1, by rw [upd_ne fun (z : p' = p) => hs i _ hsl rfl (z ▸ e)]; exact h2, h3, r.mono gr⟩
    | od ks ts =>
      obtain ⟨p', vs, e, h1, hl, h2, h3, r⟩ := q
      exact ⟨p', vs, e, h1, hl, by rw [upd_ne fun (z : p' = p) => hs i _ hsl rfl (z ▸ e)]; exact h2, h3, r.mono gr⟩
/-- what evaluation does to the heaps: all that stood and is not the world's stands as it was, frozen or not -/
structure Gr (G : Gm W) (H F H' F' : Hp) : Prop where
  same : Same F F'
  keep : ∀ b o, H b = some o → ¬ G.O.D b → H' b = some o
  nof : ∀ b, H b ≠ none → F' b = F b
theorem Gr.refl : Gr G H F H F := ⟨Same.refl F, fun _ _ e _ => e, fun _ _ => rfl⟩
theorem Gr.trans {H2 F2 : Hp} (a : Gr G H F H' F') (b : Gr G H' F' H2 F2) (d : ∀ b, G.O.D b → H' b ≠ none) : Gr G H F H2 F2 := by
  refine ⟨a.same.trans b.same, fun c o e nd => b.keep c o (a.keep c o e nd) nd, fun c e => ?_⟩
  have : H' c ≠ none := by
    by_cases nd : G.O.D c
    · exact d c nd
    · cases q : H c with
      | none => exact absurd q e
      | some o => rw [a.keep c o q nd]; simp
  rw [b.nof c this, a.nof c e]
theorem Sd.dH (S : Sd K G ρ w σ H F) : ∀ b, G.O.D b → H b ≠ none := fun b d => G.O.live S.wok d
theorem Gr.laidF (S : Sd K G ρ w σ H F) {p : Addr} {o : HO} (hp : H p = none) : Gr G H F (upd H p o) (upd F p o) :=
  ⟨Same.updN (S.sub.free hp), fun b u e _ => Same.updN hp b u e, fun b hb => upd_ne (neq_of (P := fun b => H b ≠ none) (fun z => z hp) hb)⟩
theorem Gr.free0 (g : Gr G H F H' F') (d : ∀ b, G.O.D b → H' b ≠ none) {p : Addr} (hp : H' p = none) : H p = none := by
  cases q : H p with
  | none => rfl
  | some o =>
    by_cases nd : G.O.D p
    · exact absurd hp (d p nd)
    · rw [g.keep p o q nd] at hp; cases hp
theorem Gr.laid {p : Addr} {o : HO} (hp : H p = none) : Gr G H F (upd H p o) F := ⟨Same.refl F, fun b u e _ => Same.updN hp b u e, fun _ _ => rfl⟩
/-- a new object (none at the start) is frozen -/
theorem Gr.frz (g : Gr G H F H' F') {p : Addr} {o : HO} (hp : H p = none) (hf : F' p = none) : Gr G H F H' (upd F' p o) :=
  ⟨g.same.trans (Same.updN hf), g.keep, fun b hb => by rw [upd_ne (neq_of (P := fun b => H b ≠ none) (fun z => z hp) hb)]; exact g.nof b hb⟩
theorem Sd.grown (S : Sd K G ρ w σ H F) (g : Gr G H F H' F') (sub : Same F' H') (wok : G.O.ok H' w') (dF : ∀ b, G.O.D b → F' b = none) : Sd K G ρ w' σ H' F' := S.later sub wok g.same g.keep g.nof dF
end
end PL

/-! PLb: the judgements: expressions, tests, arguments, statements, told by functions. -/
namespace PL
open PySem PySem.Spec PyProof.Rows L2
section
variable {W : Type}

/-- a value that is frozen, or that a slot owns -/
def ShR (K : PySem.W.Frag) (ρ : Rho) (σ : L2.St) (F : Hp) (v : V) (t : T) : Prop :=
  Rep K F v t ∨ (∃ (i : Nat) (ts : List T), ρ[i]? = some (Sl.ow ts) ∧ σ[i]? = some (some v) ∧ t = .lst ts) ∨ (∃ (i : Nat) (ks : List Key) (ts : List T), ρ[i]? = some (Sl.od ks ts) ∧ σ[i]? = some (some v) ∧ t = .dct ks ts)
theorem ShR.mono {K : PySem.W.Frag} {ρ : Rho} {σ : L2.St} {F F' : Hp} {v : V} {t : T} (s : Same F F') (h : ShR K ρ σ F v t) : ShR K ρ σ F' v t := by
  rcases h with h | h | h
  · exact .inl (h.mono s)
  · exact .inr (.inl h)
  · exact .inr (.inr h)

/-- the fields of an exception, by its own dict -/
def ErAt (K : PySem.W.Frag) (H F : Hp) (e : Er) (d : Option Addr) : Prop :=
  (e.ns = [] ∧ e.ts = [] ∧ d = none) ∨ ∃ dd vs, d = some dd ∧ H dd = some (.xd (e.ns.zip vs)) ∧ e.ns.length = vs.length ∧ Reps K F vs e.ts

variable (K : PySem.W.Frag) (G : Gm W) (E : XK)
def AccE (F : Hp) (e : Er) (w' : W) : Prop := ∀ d H' F' ρ' σ', Sd K G ρ' w' σ' H' F' → Same F F' → ErAt K H' F' e d → E (.ref e.C) d H'
def Acc (ρ : Rho) (σ : L2.St) (H F : Hp) (Q : VK) (r : R T) (w' : W) : Prop := match r with
  | .ok t => ∀ v H' F', Sd K G ρ w' σ H' F' → Gr G H F H' F' → Rep K F' v t → Q v H'
  | .er e => AccE K G E F e w'
def AccS (ρ : Rho) (σ : L2.St) (H F : Hp) (Q : VK) (r : R T) (w' : W) : Prop := match r with
  | .ok t => ∀ v H' F', Sd K G ρ w' σ H' F' → Gr G H F H' F' → ShR K ρ σ F' v t → Q v H'
  | .er e => AccE K G E F e w'
/-- a list that is new -/
def AccF (ρ : Rho) (σ : L2.St) (H F : Hp) (Q : VK) (r : R (List T)) (w' : W) : Prop := match r with
  | .ok ts => ∀ p vs H' F', Sd K G ρ w' σ H' F' → Gr G H F H' F' → H p = none → H' p = some (.lst vs) → F' p = none → G.B p = none → (∀ (i : Nat) (s : Sl), ρ[i]? = some s → s.owns = true → σ[i]? ≠ some (some (V.ref p))) → Reps K F' vs ts → Q (.ref p) H'
  | .er e => AccE K G E F e w'
def AccT (ρ : Rho) (σ : L2.St) (H F : Hp) (Q : Bool → Hp → Prop) (r : R Bool) (w' : W) : Prop := match r with
  | .ok b => ∀ H' F', Sd K G ρ w' σ H' F' → Gr G H F H' F' → Q b H'
  | .er e => AccE K G E F e w'
def AccA (ρ : Rho) (σ : L2.St) (H F : Hp) (Q : List V → Hp → Prop) (r : R (List T)) (w' : W) : Prop := match r with
  | .ok ts => ∀ vs H' F', Sd K G ρ w' σ H' F' → Gr G H F H' F' → Reps K F' vs ts → Q vs H'
  | .er e => AccE K G E F e w'

def tV (f : Rho → M W T) : TE := fun σ H Q => ∃ ρ w F r w', Sd K G ρ w σ H F ∧ f ρ w = some (r, w') ∧ Acc K G E ρ σ H F Q r w'
def tVs (f : Rho → M W T) : TE := fun σ H Q => ∃ ρ w F r w', Sd K G ρ w σ H F ∧ f ρ w = some (r, w') ∧ AccS K G E ρ σ H F Q r w'
def tF (f : Rho → M W (List T)) : TE := fun σ H Q => ∃ ρ w F r w', Sd K G ρ w σ H F ∧ f ρ w = some (r, w') ∧ AccF K G E ρ σ H F Q r w'
def tT (f : Rho → M W Bool) : TT := fun σ H Q => ∃ ρ w F r w', Sd K G ρ w σ H F ∧ f ρ w = some (r, w') ∧ AccT K G E ρ σ H F Q r w'
def tA (f : Rho → M W (List T)) : TA := fun σ H Q => ∃ ρ w F r w', Sd K G ρ w σ H F ∧ f ρ w = some (r, w') ∧ AccA K G E ρ σ H F Q r w'

/-- how a statement ends -/
inductive Fl where
  | nx (ρ : Rho) | rt (t : T) | bk (ρ : Rho) | ct (ρ : Rho)
def AccD (D : Ends) (F : Hp) (r : R Fl) (w' : W) : Prop := match r with
  | .ok (.nx ρ') => ∀ σ' H' F', Sd K G ρ' w' σ' H' F' → Same F F' → D.nx σ' H'
  | .ok (.bk ρ') => ∀ σ' H' F', Sd K G ρ' w' σ' H' F' → Same F F' → D.bk σ' H'
  | .ok (.ct ρ') => ∀ σ' H' F', Sd K G ρ' w' σ' H' F' → Same F F' → D.ct σ' H'
  | .ok (.rt t) => ∀ v ρ' σ' H' F', Sd K G ρ' w' σ' H' F' → Same F F' → Rep K F' v t → D.rt v H'
  | .er e => AccE K G E F e w'
def tS (g : Rho → M W Fl) : TS := fun D σ H => ∃ ρ w F r w', Sd K G ρ w σ H F ∧ g ρ w = some (r, w') ∧ AccD K G E D F r w'
end

section
variable {W : Type}
structure PV (X : Cx) (G : Gm W) (E : XK) (e : Expr) (f : Rho → M W T) : Prop where
  run : PE X e (tV X.K G E f)
/-- what may be read of it is known; it may be a slot's own -/
structure PVs (X : Cx) (G : Gm W) (E : XK) (e : Expr) (f : Rho → M W T) : Prop where
  run : PE X e (tVs X.K G E f)
/-- a new list -/
structure PF (X : Cx) (G : Gm W) (E : XK) (e : Expr) (f : Rho → M W (List T)) : Prop where
  run : PE X e (tF X.K G E f)
structure PB (X : Cx) (G : Gm W) (E : XK) (e : Expr) (f : Rho → M W Bool) : Prop where
  run : PT X e (tT X.K G E f)
structure PAs (X : Cx) (G : Gm W) (E : XK) (es : List Expr) (f : Rho → M W (List T)) : Prop where
  run : PA X es (tA X.K G E f)
structure PD (X : Cx) (G : Gm W) (E : XK) (s : Stmt) (g : Rho → M W Fl) : Prop where
  run : PS X s (tS X.K G E g)
structure PDs (X : Cx) (G : Gm W) (E : XK) (s : List Stmt) (g : Rho → M W Fl) : Prop where
  run : PSs X s (tS X.K G E g)
end

/-! ### weakening of readings -/
theorem _root_.L2.PE.imp {X : Cx} {e : Expr} {t t' : TE} (h : PE X e t) (i : ∀ σ H Q, t' σ H Q → t σ H Q) : PE X e t' := ⟨fun pins s σ H Q I q => h.run pins s σ H Q I (i σ H Q q)⟩
theorem _root_.L2.PT.imp {X : Cx} {e : Expr} {t t' : TT} (h : PT X e t) (i : ∀ σ H Q, t' σ H Q → t σ H Q) : PT X e t' := ⟨fun pins s σ H Q I q => h.run pins s σ H Q I (i σ H Q q)⟩
theorem _root_.L2.PW.imp {X : Cx} {e : Expr} {t t' : TT} (h : PW X e t) (i : ∀ σ H Q, t' σ H Q → t σ H Q) : PW X e t' := ⟨fun wh pins s σ H Q I q => h.run wh pins s σ H Q I (i σ H Q q)⟩
theorem _root_.L2.PA.imp {X : Cx} {e : List Expr} {t t' : TA} (h : PA X e t) (i : ∀ σ H Q, t' σ H Q → t σ H Q) : PA X e t' := ⟨fun pos pins s σ H Q I q => h.run pos pins s σ H Q I (i σ H Q q)⟩
theorem _root_.L2.PS.imp {X : Cx} {e : Stmt} {t t' : TS} (h : PS X e t) (i : ∀ D σ H, t' D σ H → t D σ H) : PS X e t' := ⟨fun pins s σ H D I q => h.run pins s σ H D I (i D σ H q)⟩
theorem _root_.L2.PSs.imp {X : Cx} {e : List Stmt} {t t' : TS} (h : PSs X e t) (i : ∀ D σ H, t' D σ H → t D σ H) : PSs X e t' := ⟨fun pins s σ H D I q => h.run pins s σ H D I (i D σ H q)⟩

section
variable {W : Type} {X : Cx} {G : Gm W} {E : XK} {ρ : Rho} {w w' : W} {σ : L2.St} {H F : Hp}
theorem AccE.mono {F' : Hp} {e : Er} (h : AccE X.K G E F e w') (s : Same F F') : AccE X.K G E F' e w' := fun d H' F2 ρ' σ' S g r => h d H' F2 ρ' σ' S (s.trans g) r

/-! ### one step of a bind, by the kind of what is read -/
theorem tV.bind {β : Type} {f : Rho → M W T} {k : T → M W β} {r : R β} {Q : VK} (S : Sd X.K G ρ w σ H F) (e : bnd (f ρ) k w = some (r, w'))
    (er : ∀ e, r = .er e → AccE X.K G E F e w')
    (kk : ∀ t w1 v H1 F1, Sd X.K G ρ w1 σ H1 F1 → Gr G H F H1 F1 → Rep X.K F1 v t → k t w1 = some (r, w') → Q v H1) : tV X.K G E f σ H Q := by
  rcases bnd_inv e with ⟨a, w1, h1, h2⟩ | ⟨e', h1, rfl⟩
  · exact ⟨ρ, w, F, .ok a, w1, S, h1, fun v H1 F1 S1 s1 r1 => kk a w1 v H1 F1 S1 s1 r1 h2⟩
  · exact ⟨ρ, w, F, .er e', w', S, h1, er e' rfl⟩
theorem tVs.bind {β : Type} {f : Rho → M W T} {k : T → M W β} {r : R β} {Q : VK} (S : Sd X.K G ρ w σ H F) (e : bnd (f ρ) k w = some (r, w'))
    (er : ∀ e, r = .er e → AccE X.K G E F e w')
    (kk : ∀ t w1 v H1 F1, Sd X.K G ρ w1 σ H1 F1 → Gr G H F H1 F1 → ShR X.K ρ σ F1 v t → k t w1 = some (r, w') → Q v H1) : tVs X.K G E f σ H Q := by
  rcases bnd_inv e with ⟨a, w1, h1, h2⟩ | ⟨e', h1, rfl⟩
  · exact ⟨ρ, w, F, .ok a, w1, S, h1, fun v H1 F1 S1 s1 r1 => kk a w1 v H1 F1 S1 s1 r1 h2⟩
  · exact ⟨ρ, w, F, .er e', w', S, h1, er e' rfl⟩
theorem tF.bind {β : Type} {f : Rho → M W (List T)} {k : List T → M W β} {r : R β} {Q : VK} (S : Sd X.K G ρ w σ H F) (e : bnd (f ρ) k w = some (r, w'))
    (er : ∀ e, r = .er e → AccE X.K G E F e w')
    (kk : ∀ ts w1 p vs H1 F1, Sd X.K G ρ w1 σ H1 F1 → Gr G H F H1 F1 → H p = none → H1 p = some (.lst vs) → F1 p = none → G.B p = none → (∀ (i : Nat) (s : Sl), ρ[i]? = some s → s.owns = true → σ[i]? ≠ some (some (V.ref p))) → Reps X.K F1 vs ts → k ts w1 = some (r, w') → Q (.ref p) H1) : tF X.K G E f σ H Q := by
  rcases bnd_inv e with ⟨a, w1, h1, h2⟩ | ⟨e', h1, rfl⟩
  · exact ⟨ρ, w, F, .ok a, w1, S, h1, fun p vs H1 F1 S1 s1 r0 r1 r2 r3 r4 r5 => kk a w1 p vs H1 F1 S1 s1 r0 r1 r2 r3 r4 r5 h2⟩
  · exact ⟨ρ, w, F, .er e', w', S, h1, er e' rfl⟩
theorem tT.bind {β : Type} {f : Rho → M W Bool} {k : Bool → M W β} {r : R β} {Q : Bool → Hp → Prop} (S : Sd X.K G ρ w σ H F) (e : bnd (f ρ) k w = some (r, w'))
    (er : ∀ e, r = .er e → AccE X.K G E F e w')
    (kk : ∀ b w1 H1 F1, Sd X.K G ρ w1 σ H1 F1 → Gr G H F H1 F1 → k b w1 = some (r, w') → Q b H1) : tT X.K G E f σ H Q := by
  rcases bnd_inv e with ⟨a, w1, h1, h2⟩ | ⟨e', h1, rfl⟩
  · exact ⟨ρ, w, F, .ok a, w1, S, h1, fun H1 F1 S1 s1 => kk a w1 H1 F1 S1 s1 h2⟩
  · exact ⟨ρ, w, F, .er e', w', S, h1, er e' rfl⟩
theorem tA.bind {β : Type} {f : Rho → M W (List T)} {k : List T → M W β} {r : R β} {Q : List V → Hp → Prop} (S : Sd X.K G ρ w σ H F) (e : bnd (f ρ) k w = some (r, w'))
    (er : ∀ e, r = .er e → AccE X.K G E F e w')
    (kk : ∀ ts w1 vs H1 F1, Sd X.K G ρ w1 σ H1 F1 → Gr G H F H1 F1 → Reps X.K F1 vs ts → k ts w1 = some (r, w') → Q vs H1) : tA X.K G E f σ H Q := by
  rcases bnd_inv e with ⟨a, w1, h1, h2⟩ | ⟨e', h1, rfl⟩
  · exact ⟨ρ, w, F, .ok a, w1, S, h1, fun vs H1 F1 S1 s1 r1 => kk a w1 vs H1 F1 S1 s1 r1 h2⟩
  · exact ⟨ρ, w, F, .er e', w', S, h1, er e' rfl⟩
theorem Acc.er {Q : VK} {r : R T} (h : Acc X.K G E ρ σ H F Q r w') : ∀ e, r = .er e → AccE X.K G E F e w' := fun e q => by subst q; exact h
theorem AccS.er {Q : VK} {r : R T} (h : AccS X.K G E ρ σ H F Q r w') : ∀ e, r = .er e → AccE X.K G E F e w' := fun e q => by subst q; exact h
theorem AccF.er {Q : VK} {r : R (List T)} (h : AccF X.K G E ρ σ H F Q r w') : ∀ e, r = .er e → AccE X.K G E F e w' := fun e q => by subst q; exact h
theorem AccT.er {Q : Bool → Hp → Prop} {r : R Bool} (h : AccT X.K G E ρ σ H F Q r w') : ∀ e, r = .er e → AccE X.K G E F e w' := fun e q => by subst q; exact h
theorem AccA.er {Q : List V → Hp → Prop} {r : R (List T)} (h : AccA X.K G E ρ σ H F Q r w') : ∀ e, r = .er e → AccE X.K G E F e w' := fun e q => by subst q; exact h
theorem AccD.er {D : Ends} {r : R Fl} (h : AccD X.K G E D F r w') : ∀ e, r = .er e → AccE X.K G E F e w' := fun e q => by subst q; exact h
theorem Acc.mono {H' F' : Hp} {Q : VK} {r : R T} (h : Acc X.K G E ρ σ H F Q r w') (s : Gr G H F H' F') (d : ∀ b, G.O.D b → H' b ≠ none) : Acc X.K G E ρ σ H' F' Q r w' := by
  cases r with
  | ok t => exact fun v H2 F2 S g q => h v H2 F2 S (s.trans g d) q
  | er e => exact AccE.mono (X := X) h s.same
theorem AccS.mono {H' F' : Hp} {Q : VK} {r : R T} (h : AccS X.K G E ρ σ H F Q r w') (s : Gr G H F H' F') (d : ∀ b, G.O.D b → H' b ≠ none) : AccS X.K G E ρ σ H' F' Q r w' := by
  cases r with
  | ok t => exact fun v H2 F2 S g q => h v H2 F2 S (s.trans g d) q
  | er e => exact AccE.mono (X := X) h s.same
theorem AccT.mono {H' F' : Hp} {Q : Bool → Hp → Prop} {r : R Bool} (h : AccT X.K G E ρ σ H F Q r w') (s : Gr G H F H' F') (d : ∀ b, G.O.D b → H' b ≠ none) : AccT X.K G E ρ σ H' F' Q r w' := by
  cases r with
  | ok t => exact fun H2 F2 S g => h H2 F2 S (s.trans g d)
  | er e => exact AccE.mono (X := X) h s.same
theorem AccA.mono {H' F' : Hp} {Q : List V → Hp → Prop} {r : R (List T)} (h : AccA X.K G E ρ σ H F Q r w') (s : Gr G H F H' F') (d : ∀ b, G.O.D b → H' b ≠ none) : AccA X.K G E ρ σ H' F' Q r w' := by
  cases r with
  | ok t => exact fun vs H2 F2 S g q => h vs H2 F2 S (s.trans g d) q
  | er e => exact AccE.mono (X := X) h s.same
theorem AccD.mono {F' : Hp} {D : Ends} {r : R Fl} (h : AccD X.K G E D F r w') (s : Same F F') : AccD X.K G E D F' r w' := by
  cases r with
  | ok fl =>
    cases fl with
    | nx ρ' => exact fun σ' H' F2 S g => h σ' H' F2 S (s.trans g)
    | bk ρ' => exact fun σ' H' F2 S g => h σ' H' F2 S (s.trans g)
    | ct ρ' => exact fun σ' H' F2 S g => h σ' H' F2 S (s.trans g)
    | rt t => exact fun v ρ' σ' H' F2 S g q => h v ρ' σ' H' F2 S (s.trans g) q
  | er e => exact AccE.mono (X := X) h s
end

/-! ### from one kind of reading to another -/
section
variable {W : Type} {X : Cx} {G : Gm W} {E : XK} {e : Expr} {f : Rho → M W T}
theorem PV.sh (h : PV X G E e f) : PVs X G E e f := ⟨h.run.imp fun σ H Q => by
  rintro ⟨ρ, w, F, r, w', S, hf, acc⟩
  refine ⟨ρ, w, F, r, w', S, hf, ?_⟩
  cases r with
  | ok t => exact fun v H' F' S' g q => acc v H' F' S' g (.inl q)
  | er e => exact acc⟩
/-- a new list, frozen -/
def asL {W : Type} (f : Rho → M W (List T)) : Rho → M W T := fun ρ => bnd (f ρ) fun ts => ret (.lst ts)
theorem PF.dp {g : Rho → M W (List T)} (h : PF X G E e g) : PV X G E e (asL g) := ⟨h.run.imp fun σ H Q => by
  rintro ⟨ρ, w, F, r, w', S, hf, acc⟩
  refine tF.bind (X := X) S hf acc.er fun ts w1 p vs H1 F1 S1 s1 h0 h1 h2 h3 h4 h5 hk => ?_
  obtain ⟨rfl, rfl⟩ := ret_inv hk
  exact acc (.ref p) H1 (upd F1 p (.lst vs)) (S1.freeze h1 h2 h3 h4) (s1.frz h0 h2) (.lst upd_same (h5.mono (Same.updN h2)))⟩
theorem PF.sh {g : Rho → M W (List T)} (h : PF X G E e g) : PVs X G E e (asL g) := h.dp.sh

/-! ### names and constants -/
def slotV (o : Option Sl) : Option T := match o with
  | some (.fz t) => some t
  | _ => none
def slotS (o : Option Sl) : Option T := match o with
  | some (.fz t) => some t
  | some (.ow ts) => some (.lst ts)
  | some (.od ks ts) => some (.dct ks ts)
  | _ => none
def fVar {W : Type} (i : Nat) : Rho → M W T := fun ρ => lift (slotV ρ[i]?)
def fVarS {W : Type} (i : Nat) : Rho → M W T := fun ρ => lift (slotS ρ[i]?)
def fC {W : Type} (t : T) : Rho → M W T := fun _ => ret t
theorem slotV_inv {o : Option Sl} {t : T} (h : slotV o = some t) : o = some (.fz t) := by
  unfold slotV at h
  split at h
  · cases h; rfl
  · cases h
theorem pv_var (i : Nat) {x : Str} {pos : Pos} (hN : X.N[i]? = some x) (hv : Vis X.env.scope x) (hd : (x == ("__debug__" : Str)) = false := by decide) (hcd : (x == ("__classdict__" : Str)) = false := by decide) : PV X G E (.Name x pos) (fVar i) :=
  ⟨(pe_var hN hv hd hcd).imp fun σ H Q => by
    rintro ⟨ρ, w, F, r, w', S, hf, acc⟩
    obtain ⟨t, e, rfl, rfl⟩ := lift_inv hf
    obtain ⟨v, hv, rp⟩ := S.slots i _ (slotV_inv e)
    exact ⟨v, hv, acc v H F S .refl rp⟩⟩
theorem pv_varS (i : Nat) {x : Str} {pos : Pos} (hN : X.N[i]? = some x) (hv : Vis X.env.scope x) (hd : (x == ("__debug__" : Str)) = false := by decide) (hcd : (x == ("__classdict__" : Str)) = false := by decide) : PVs X G E (.Name x pos) (fVarS i) :=
  ⟨(pe_var hN hv hd hcd).imp fun σ H Q => by
    rintro ⟨ρ, w, F, r, w', S, hf, acc⟩
    obtain ⟨t, e, rfl, rfl⟩ := lift_inv hf
    cases hs : ρ[i]? with
    | none => rw [hs] at e; cases e
    | some sl =>
      rw [hs] at e
      have q := S.slots i sl hs
      cases sl with
      | un => cases e
      | fz t' =>
        cases e
        obtain ⟨v, hv, rp⟩ := q
        exact ⟨v, hv, acc v H F S .refl (.inl rp)⟩
      | ow ts =>
        cases e
        obtain ⟨p, vs, hv, _⟩ := q
        exact ⟨.ref p, hv, acc _ H F S .refl (.inr (.inl ⟨i, ts, hs, hv, rfl⟩))⟩
      | od ks ts =>
        cases e
        obtain ⟨p, vs, hv, _⟩ := q
        exact ⟨.ref p, hv, acc _ H F S .refl (.inr (.inr ⟨i, ks, ts, hs, hv, rfl⟩))⟩⟩
theorem pv_c {v : V} {t : T} (h : PE X e (tC v)) (hr : ∀ F, Rep X.K F v t) : PV X G E e (fC t) := ⟨h.imp fun σ H Q => by
  rintro ⟨ρ, w, F, r, w', S, hf, acc⟩
  obtain ⟨rfl, rfl⟩ := ret_inv hf
  exact acc v H F S .refl (hr F)⟩
theorem pv_int {i : Int} {j pos} : PV X G E (.Constant (.int i) j pos) (fC (.int i)) := pv_c pe_int fun _ => .int i
theorem pv_bl {b : Bool} {j pos} : PV X G E (.Constant (.bool b) j pos) (fC (.bl b)) := pv_c pe_bl fun _ => .bl b
theorem pv_non {j pos} : PV X G E (.Constant .none j pos) (fC .non) := pv_c pe_non fun _ => .non
theorem pv_str {x : Str} {j pos} : PV X G E (.Constant (.str x) j pos) (fC (.str x)) := pv_c pe_str fun _ => .str x
theorem pv_glob {x : Str} {v : V} {u : Value} {t : T} {pos : Pos} (hg : Gl X x) (hm : X.mg x = some u) (r : RelV v u) (hr : ∀ F, Rep X.K F v t) (hd : (x == ("__debug__" : Str)) = false := by decide) : PV X G E (.Name x pos) (fC t) := pv_c (pe_glob hg hm r hd) hr
end

/-! ### what may be read -/
section
variable {W : Type} {K : PySem.W.Frag} {G : Gm W} {ρ : Rho} {w : W} {σ : L2.St} {H F : Hp} {v : V}
theorem Rep.lst_inv {ts : List T} (h : Rep K F v (.lst ts)) : ∃ a vs, v = .ref a ∧ F a = some (.lst vs) ∧ Reps K F vs ts := by
  cases h with
  | lst h r => exact ⟨_, _, rfl, h, r⟩
theorem Rep.tup_inv {ts : List T} (h : Rep K F v (.tup ts)) : ∃ a vs, v = .ref a ∧ SqT K F a vs ∧ Reps K F vs ts := by
  cases h with
  | tup h r => exact ⟨_, _, rfl, h, r⟩
theorem Rep.int_inv {i : Int} (h : Rep K F v (.int i)) : v = .int i := by cases h; rfl
theorem Rep.str_inv {x : Str} (h : Rep K F v (.str x)) : v = .str x := by cases h; rfl
theorem Rep.bl_inv {b : Bool} (h : Rep K F v (.bl b)) : v = .bl b := by cases h; rfl
theorem Rep.non_inv (h : Rep K F v .non) : v = .non := by cases h; rfl
theorem ShR.lst (S : Sd K G ρ w σ H F) {ts : List T} (h : ShR K ρ σ F v (.lst ts)) : ∃ a vs, v = .ref a ∧ H a = some (.lst vs) ∧ Reps K F vs ts := by
  rcases h with h | ⟨i, us, h1, h2, h3⟩ | ⟨i, ks, us, h1, h2, h3⟩
  · obtain ⟨a, vs, e, h1, r⟩ := h.lst_inv
    exact ⟨a, vs, e, S.sub _ _ h1, r⟩
  · cases h3
    obtain ⟨p, vs, e, q1, q2, q3, r⟩ := S.slots i _ h1
    rw [h2] at e
    cases e
    exact ⟨p, vs, rfl, q1, r⟩
  · cases h3
theorem ShR.dct (S : Sd K G ρ w σ H F) {ks : List Key} {ts : List T} (h : ShR K ρ σ F v (.dct ks ts)) : ∃ a vs, v = .ref a ∧ Rd H a (.dK (ks.zip vs)) ∧ ks.length = vs.length ∧ Reps K F vs ts := by
  rcases h with h | ⟨i, us, h1, h2, h3⟩ | ⟨i, ks', us, h1, h2, h3⟩
  · cases h with
    | dct h e r => exact ⟨_, _, rfl, Same.rd S.sub h, e, r⟩
  · cases h3
  · cases h3
    obtain ⟨p, vs, e, q1, ql, q2, q3, r⟩ := S.slots i _ h1
    rw [h2] at e
    cases e
    exact ⟨p, vs, rfl, .inl q1, ql, r⟩
theorem ShR.rep {t : T} (h : ShR K ρ σ F v t) (h1 : ∀ ts, t ≠ .lst ts) (h2 : ∀ ks ts, t ≠ .dct ks ts) : Rep K F v t := by
  rcases h with h | ⟨_, us, _, _, h3⟩ | ⟨_, ks, us, _, _, h3⟩
  · exact h
  · exact absurd h3 (h1 _)
  · exact absurd h3 (h2 _ _)
theorem ShR.tup (S : Sd K G ρ w σ H F) {ts : List T} (h : ShR K ρ σ F v (.tup ts)) : ∃ a vs, v = .ref a ∧ SqT K F a vs ∧ SqT K H a vs ∧ Reps K F vs ts := by
  obtain ⟨a, vs, e, q, r⟩ := (h.rep (fun _ z => nomatch z) fun _ _ z => nomatch z).tup_inv
  exact ⟨a, vs, e, q, Same.seqT S.sub q, r⟩
theorem ShR.int {i : Int} (h : ShR K ρ σ F v (.int i)) : v = .int i := (h.rep (fun _ z => nomatch z) fun _ _ z => nomatch z).int_inv
theorem ShR.str {x : Str} (h : ShR K ρ σ F v (.str x)) : v = .str x := (h.rep (fun _ z => nomatch z) fun _ _ z => nomatch z).str_inv
theorem ShR.bl {b : Bool} (h : ShR K ρ σ F v (.bl b)) : v = .bl b := (h.rep (fun _ z => nomatch z) fun _ _ z => nomatch z).bl_inv
theorem ShR.non (h : ShR K ρ σ F v .non) : v = .non := (h.rep (fun _ z => nomatch z) fun _ _ z => nomatch z).non_inv
end
end PL

/-! PLc: operators, comparisons, truth, subscripts, slices, displays. -/
namespace PL
open PySem PySem.Spec PyProof.Rows L2

/-! ### data -/
mutual
def dataT : T → Option PyData
  | .non => some .none
  | .bl b => some (.bool b)
  | .int i => some (.int i)
  | .str x => some (.str x)
  | .tup ts => (dataTs ts).map PyData.tuple
  | .lst ts => (dataTs ts).map PyData.list
  | _ => none
def dataTs : List T → Option (List PyData)
  | [] => some []
  | t :: ts => (dataT t).bind fun d => (dataTs ts).map fun ds => d :: ds
end
mutual
theorem dataT_plain : ∀ (t : T) (d : PyData), dataT t = some d → d.plain = true
  | .non, _, h => by cases h; rfl
  | .bl b, _, h => by cases h; rfl
  | .int i, _, h => by cases h; rfl
  | .str x, _, h => by cases h; rfl
  | .tup ts, d, h => by
    simp only [dataT, Option.map_eq_some_iff] at h
    obtain ⟨ds, h1, rfl⟩ := h
    exact dataTs_plain ts ds h1
  | .lst ts, d, h => by
    simp only [dataT, Option.map_eq_some_iff] at h
    obtain ⟨ds, h1, rfl⟩ := h
    exact dataTs_plain ts ds h1
  | .dct _ _, _, h => by cases h
  | .ins _ _ _, _, h => by cases h
  | .raw _, _, h => by cases h
theorem dataTs_plain : ∀ (ts : List T) (ds : List PyData), dataTs ts = some ds → PyData.plainAll ds = true
  | [], _, h => by cases h; rfl
  | t :: ts, ds, h => by
    simp only [dataTs, Option.bind_eq_some_iff, Option.map_eq_some_iff] at h
    obtain ⟨d, h1, es, h2, rfl⟩ := h
    simp [PyData.plainAll, dataT_plain t d h1, dataTs_plain ts es h2]
end
section
variable {K : PySem.W.Frag} {F H : Hp}
mutual
theorem Rep.dp (s : Same F H) : ∀ (t : T) (v : V) (d : PyData), Rep K F v t → dataT t = some d → Dp K H v d
  | .non, _, _, h, e => by cases h; cases e; exact .non
  | .bl b, _, _, h, e => by cases h; cases e; exact .bl b
  | .int i, _, _, h, e => by cases h; cases e; exact .int i
  | .str x, _, _, h, e => by cases h; cases e; exact .str x
  | .tup ts, _, d, h, e => by
    simp only [dataT, Option.map_eq_some_iff] at e
    obtain ⟨ds, h1, rfl⟩ := e
    cases h with
    | tup q r => exact .tup (Same.seqT s q) (Reps.dp s ts _ ds r h1)
  | .lst ts, _, d, h, e => by
    simp only [dataT, Option.map_eq_some_iff] at e
    obtain ⟨ds, h1, rfl⟩ := e
    cases h with
    | lst q r => exact .lst (.of (s _ _ q)) (Reps.dp s ts _ ds r h1)
  | .dct _ _, _, _, _, e => by cases e
  | .ins _ _ _, _, _, _, e => by cases e
  | .raw _, _, _, _, e => by cases e
theorem Reps.dp (s : Same F H) : ∀ (ts : List T) (vs : List V) (ds : List PyData), Reps K F vs ts → dataTs ts = some ds → DpAll K H vs ds
  | [], _, _, h, e => by cases h; cases e; exact .nil
  | t :: ts, _, ds, h, e => by
    simp only [dataTs, Option.bind_eq_some_iff, Option.map_eq_some_iff] at e
    obtain ⟨d, h1, es, h2, rfl⟩ := e
    cases h with
    | cons q r => exact .cons (Rep.dp s t _ d q h1) (Reps.dp s ts _ es r h2)
end
end
theorem ShR.dp {W : Type} {K : PySem.W.Frag} {G : Gm W} {ρ : Rho} {w : W} {σ : L2.St} {H F : Hp} {v : V} {t : T} {d : PyData} (S : Sd K G ρ w σ H F) (h : ShR K ρ σ F v t) (e : dataT t = some d) : Dp K H v d := by
  cases t with
  | lst ts =>
    obtain ⟨a, vs, rfl, h1, r⟩ := h.lst S
    simp only [dataT, Option.map_eq_some_iff] at e
    obtain ⟨ds, h2, rfl⟩ := e
    exact .lst (.of h1) (Reps.dp S.sub ts vs ds r h2)
  | dct ks ts => cases e
  | non => exact Rep.dp S.sub _ _ _ (h.rep (fun _ z => nomatch z) fun _ _ z => nomatch z) e
  | bl b => exact Rep.dp S.sub _ _ _ (h.rep (fun _ z => nomatch z) fun _ _ z => nomatch z) e
  | int b => exact Rep.dp S.sub _ _ _ (h.rep (fun _ z => nomatch z) fun _ _ z => nomatch z) e
  | str b => exact Rep.dp S.sub _ _ _ (h.rep (fun _ z => nomatch z) fun _ _ z => nomatch z) e
  | tup b => exact Rep.dp S.sub _ _ _ (h.rep (fun _ z => nomatch z) fun _ _ z => nomatch z) e
  | ins _ _ _ => cases e
  | raw _ => cases e

/-! ### operators by values -/
def f2 {W : Type} (g : T → T → Option T) (fa fb : Rho → M W T) : Rho → M W T := fun ρ => bnd (fa ρ) fun t => bnd (fb ρ) fun u => lift (g t u)
section
variable {W : Type} {X : Cx} {G : Gm W} {E : XK} {a b : Expr} {fa fb : Rho → M W T} {pos : Pos}
/-- a reading of an operator by values, told by a function -/
def OpG (X : Cx) (G : Gm W) (r : R2) (g : T → T → Option T) : Prop :=
  ∀ (ρ : Rho) (w : W) (σ : L2.St) (H F : Hp) (x y : V) (t u z : T) (Q : VK), Sd X.K G ρ w σ H F → ShR X.K ρ σ F x t → ShR X.K ρ σ F y u → g t u = some z → (∀ v H' F', Sd X.K G ρ w σ H' F' → Gr G H F H' F' → Rep X.K F' v z → Q v H') → r x y H Q
theorem tOp.of {r : R2} {g : T → T → Option T} (hg : OpG X G r g) : ∀ σ H Q, tV X.K G E (f2 g fa fb) σ H Q → tOp r (tVs X.K G E fa) (tVs X.K G E fb) σ H Q := fun σ H Q => by
  rintro ⟨ρ, w, F, q, w', S, hf, acc⟩
  refine tVs.bind (X := X) S hf acc.er fun t w1 x H1 F1 S1 s1 r1 hk => ?_
  refine tVs.bind (X := X) S1 hk (acc.mono s1 S1.dH).er fun u w2 y H2 F2 S2 s2 r2 hk2 => ?_
  obtain ⟨z, hz, rfl, rfl⟩ := lift_inv hk2
  exact hg ρ _ σ H2 F2 x y t u z Q S2 (r1.mono s2.same) r2 hz fun v H' F' S' s' rv => acc v H' F' S' ((s1.trans s2 S1.dH).trans s' S2.dH) rv
theorem pv_op {op : Operator} {r : R2} {g : T → T → Option T} (ho : OpR X (binaryOp op) r) (hg : OpG X G r g) (ha : PVs X G E a fa) (hb : PVs X G E b fb) : PV X G E (.BinOp a op b pos) (f2 g fa fb) :=
  ⟨(pe_op ho ha.run hb.run).imp (tOp.of hg)⟩
theorem pv_cmp {op : CmpOp} {r : R2} {g : T → T → Option T} (ho : OpR X (compareOp op) r) (hg : OpG X G r g) (ha : PVs X G E a fa) (hb : PVs X G E b fb) (hm : behindInMarks op b = false) : PV X G E (.Compare a [op] [b] pos) (f2 g fa fb) :=
  ⟨(pe_cmpR ho ha.run hb.run hm).imp (tOp.of hg)⟩

/-! ### arithmetic -/
def addT : T → T → Option T
  | .int i, .int j => some (.int (i + j))
  | .str x, .str y => if x.length + y.length ≤ sizeLine then some (.str (x ++ y)) else none
  | .tup xs, .tup ys => if xs.length + ys.length ≤ sizeLine then some (.tup (xs ++ ys)) else none
  | .lst xs, .lst ys => if xs.length + ys.length ≤ sizeLine then some (.lst (xs ++ ys)) else none
  | _, _ => none
def rAddA (K : PySem.W.Frag) : R2 := fun x y H Q => ((rI0 fun i j => .int (i + j)) x y H Q ∨ (∃ i j, x = .str i ∧ y = .str j ∧ i.length + j.length ≤ sizeLine ∧ Q (.str (i ++ j)) H)) ∨ (rCatA K x y H Q ∨ rCat x y H Q)
theorem addG : OpG X G (rAddA X.K) addT := by
  intro ρ w σ H F x y t u z Q S hx hy hz k
  unfold addT at hz
  split at hz
  · cases hz
    exact .inl (.inl ⟨_, _, hx.int, hy.int, k _ H F S .refl (.int _)⟩)
  · split at hz
    · rename_i hl
      cases hz
      exact .inl (.inr ⟨_, _, hx.str, hy.str, hl, k _ H F S .refl (.str _)⟩)
    · cases hz
  · rename_i xs ys
    split at hz
    · rename_i hl
      cases hz
      obtain ⟨a, vs, rfl, hF, hH, r1⟩ := hx.tup S
      obtain ⟨b, us, rfl, hF2, hH2, r2⟩ := hy.tup S
      refine .inr (.inl ⟨a, b, vs, us, rfl, rfl, hH, hH2, by rw [r1.length, r2.length]; exact hl, fun e => ?_, fun _ e => ?_, fun _ _ p hp => ?_⟩)
      · subst e; cases r1
        exact k _ H F S .refl (.tup hF2 r2)
      · subst e; cases r2
        rw [List.append_nil] at k
        exact k _ H F S .refl (.tup hF r1)
      · exact k _ _ _ (S.laidF hp) (.laidF S hp) (.tup (.of upd_same) ((r1.append r2).mono (Same.updN (S.sub.free hp))))
    · cases hz
  · rename_i xs ys
    split at hz
    · rename_i hl
      cases hz
      obtain ⟨a, vs, rfl, hH, r1⟩ := hx.lst S
      obtain ⟨b, us, rfl, hH2, r2⟩ := hy.lst S
      exact .inr (.inr ⟨a, b, vs, us, rfl, rfl, hH, hH2, by rw [r1.length, r2.length]; exact hl, fun p hp => k _ _ _ (S.laidF hp) (.laidF S hp) (.lst upd_same ((r1.append r2).mono (Same.updN (S.sub.free hp))))⟩)
    · cases hz
  · cases hz
theorem pv_add (ha : PVs X G E a fa) (hb : PVs X G E b fb) : PV X G E (.BinOp a .Add b pos) (f2 addT fa fb) :=
  pv_op (OpR.or (OpR.or op_add op_add_str) (OpR.or op_catA op_cat)) addG ha hb
def intT (C : Int → Int → Bool) (g : Int → Int → Int) : T → T → Option T
  | .int i, .int j => if C i j = true then some (.int (g i j)) else none
  | _, _ => none
theorem intG {P : Int → Int → Prop} {C : Int → Int → Bool} {g : Int → Int → Int} (h : ∀ i j, C i j = true → P i j) : OpG X G (rI P fun i j => .int (g i j)) (intT C g) := by
  intro ρ w σ H F x y t u z Q S hx hy hz k
  unfold intT at hz
  split at hz
  · split at hz
    · rename_i hc
      cases hz
      exact ⟨_, _, hx.int, hy.int, h _ _ hc, k _ H F S .refl (.int _)⟩
    · cases hz
  · cases hz
def subT : T → T → Option T := intT (fun _ _ => true) fun i j => i - j
instance (i j : Int) : Decidable (CMul i j) := inferInstanceAs (Decidable ((-(2 ^ 64) < i ∧ i < 2 ^ 64) ∨ (-(2 ^ 64) < j ∧ j < 2 ^ 64)))
instance (i j : Int) : Decidable (CDiv i j) := inferInstanceAs (Decidable (0 < j ∧ j < 1073741824))
instance (i j : Int) : Decidable (CPow i j) := inferInstanceAs (Decidable (0 ≤ j ∧ j ≤ 1000000 ∧ i.natAbs < 2 ^ 64))
def mulT : T → T → Option T := intT (fun i j => decide (CMul i j)) fun i j => i * j
def modT : T → T → Option T := intT (fun _ j => decide (0 < j)) fun i j => i % j
def fdivT : T → T → Option T := intT (fun i j => decide (CDiv i j)) fun i j => i / j
def powT : T → T → Option T := intT (fun i j => decide (CPow i j)) fun i j => i ^ j.toNat
theorem pv_sub (ha : PVs X G E a fa) (hb : PVs X G E b fb) : PV X G E (.BinOp a .Sub b pos) (f2 subT fa fb) :=
  pv_op op_sub (r := rI0 fun i j => .int (i - j)) (by
    intro ρ w σ H F x y t u z Q S hx hy hz k
    have q := intG (X := X) (G := G) (P := fun _ _ => True) (C := fun _ _ => true) (g := fun i j => i - j) (fun _ _ _ => trivial) ρ w σ H F x y t u z Q S hx hy hz k
    obtain ⟨i, j, h1, h2, _, h3⟩ := q
    exact ⟨i, j, h1, h2, h3⟩) ha hb
theorem pv_mul (ha : PVs X G E a fa) (hb : PVs X G E b fb) : PV X G E (.BinOp a .Mult b pos) (f2 mulT fa fb) := pv_op op_mul (intG fun _ _ h => of_decide_eq_true h) ha hb
theorem pv_mod (ha : PVs X G E a fa) (hb : PVs X G E b fb) : PV X G E (.BinOp a .Mod b pos) (f2 modT fa fb) := pv_op op_mod (intG fun _ _ h => of_decide_eq_true h) ha hb
theorem pv_fdiv (ha : PVs X G E a fa) (hb : PVs X G E b fb) : PV X G E (.BinOp a .FloorDiv b pos) (f2 fdivT fa fb) := pv_op op_fdiv (intG fun _ _ h => of_decide_eq_true h) ha hb
theorem pv_pow (ha : PVs X G E a fa) (hb : PVs X G E b fb) : PV X G E (.BinOp a .Pow b pos) (f2 powT fa fb) := pv_op op_pow (intG fun _ _ h => of_decide_eq_true h) ha hb

/-! ### comparisons -/
def ltT (f : Int → Int → Bool) : T → T → Option T
  | .int i, .int j => some (.bl (f i j))
  | _, _ => none
theorem cmpG {f : Int → Int → Bool} : OpG X G (rI0 fun i j => .bl (f i j)) (ltT f) := by
  intro ρ w σ H F x y t u z Q S hx hy hz k
  unfold ltT at hz
  split at hz
  · cases hz
    exact ⟨_, _, hx.int, hy.int, k _ H F S .refl (.bl _)⟩
  · cases hz
def eqT (neg : Bool) (t u : T) : Option T := (dataT t).bind fun d => (dataT u).bind fun e => if min d.depth e.depth ≤ 150 then some (.bl (if neg then !PyData.eqv d e else PyData.eqv d e)) else none
def rEqP (K : PySem.W.Frag) (neg : Bool) : R2 := fun x y H Q => ∃ d e, Dp K H x d ∧ Dp K H y e ∧ d.plain = true ∧ e.plain = true ∧ min d.depth e.depth ≤ 150 ∧ Q (.bl (if neg then !PyData.eqv d e else PyData.eqv d e)) H
theorem op_eqP (hu : X.A.units + 200 < cLine) : OpR X (compareOp .Eq) (rEqP X.K false) := by
  intro pins s σ H x y v u Q I rx ry h
  obtain ⟨d, e, hd, he, sd, se, hl, q⟩ := h
  obtain ⟨as, r1⟩ := Dp.reads I d x v hd rx
  obtain ⟨bs, r2⟩ := Dp.reads I e y u he ry
  exact SeqAt.eq_plain r1 r2 sd se (by omega) ⟨.bl _, H, I, rfl, q⟩
theorem op_neP (hu : X.A.units + 200 < cLine) : OpR X (compareOp .NotEq) (rEqP X.K true) := by
  intro pins s σ H x y v u Q I rx ry h
  obtain ⟨d, e, hd, he, sd, se, hl, q⟩ := h
  obtain ⟨as, r1⟩ := Dp.reads I d x v hd rx
  obtain ⟨bs, r2⟩ := Dp.reads I e y u he ry
  exact SeqAt.ne_plain r1 r2 sd se (by omega) ⟨.bl _, H, I, rfl, q⟩
theorem eqG {neg : Bool} : OpG X G (rEqP X.K neg) (eqT neg) := by
  intro ρ w σ H F x y t u z Q S hx hy hz k
  simp only [eqT, Option.bind_eq_some_iff] at hz
  obtain ⟨d, h1, e, h2, h3⟩ := hz
  split at h3
  · rename_i hl
    cases h3
    exact ⟨d, e, hx.dp S h1, hy.dp S h2, dataT_plain _ _ h1, dataT_plain _ _ h2, hl, k _ H F S .refl (.bl _)⟩
  · cases h3
/-- in, not in -/
def inT (neg : Bool) (t u : T) : Option T := match u with
  | .str z => match t with
    | .str x => some (.bl (if neg then !(!(Builtin.Str.occurrences z x 0 z.length 1).isEmpty) else !(Builtin.Str.occurrences z x 0 z.length 1).isEmpty))
    | _ => none
  | .lst us => (dataT t).bind fun d => (dataTs us).bind fun es => if d.depth ≤ 150 then some (.bl (if neg then !es.any (fun y => PyData.eqv y d) else es.any fun y => PyData.eqv y d)) else none
  | .tup us => (dataT t).bind fun d => (dataTs us).bind fun es => if d.depth ≤ 150 then some (.bl (if neg then !es.any (fun y => PyData.eqv y d) else es.any fun y => PyData.eqv y d)) else none
  | _ => none
def rInP (K : PySem.W.Frag) (neg : Bool) : R2 := fun x y H Q => ∃ d e es, Dp K H x d ∧ Dp K H y e ∧ (e = .list es ∨ e = .tuple es) ∧ d.plain = true ∧ e.plain = true ∧ d.depth ≤ 150 ∧ Q (.bl (if neg then !es.any (fun y => PyData.eqv y d) else es.any fun y => PyData.eqv y d)) H
theorem op_inP (hu : X.A.units + 200 < cLine) : OpR X (compareOp .In) (rInP X.K false) := by
  intro pins s σ H x y v u Q I rx ry h
  obtain ⟨d, e, es, hd, he, ke, sd, se, hl, q⟩ := h
  obtain ⟨as, r1⟩ := Dp.reads I d x v hd rx
  obtain ⟨bs, r2⟩ := Dp.reads I e y u he ry
  rcases ke with rfl | rfl
  · exact SeqAt.in_list_data r2 r1 se sd (by omega) ⟨.bl _, H, I, rfl, q⟩
  · exact SeqAt.in_tuple_data r2 r1 se sd (by omega) ⟨.bl _, H, I, rfl, q⟩
theorem op_notInP (hu : X.A.units + 200 < cLine) : OpR X (compareOp .NotIn) (rInP X.K true) := by
  intro pins s σ H x y v u Q I rx ry h
  obtain ⟨d, e, es, hd, he, ke, sd, se, hl, q⟩ := h
  obtain ⟨as, r1⟩ := Dp.reads I d x v hd rx
  obtain ⟨bs, r2⟩ := Dp.reads I e y u he ry
  rcases ke with rfl | rfl
  · exact SeqAt.notIn_list_data r2 r1 se sd (by omega) ⟨.bl _, H, I, rfl, q⟩
  · exact SeqAt.notIn_tuple_data r2 r1 se sd (by omega) ⟨.bl _, H, I, rfl, q⟩
def rInA (K : PySem.W.Frag) (neg : Bool) : R2 := fun x y H Q => (∃ i j, x = .str i ∧ y = .str j ∧ Q (.bl (if neg then !(!(Builtin.Str.occurrences j i 0 j.length 1).isEmpty) else !(Builtin.Str.occurrences j i 0 j.length 1).isEmpty)) H) ∨ rInP K neg x y H Q
theorem inG {neg : Bool} : OpG X G (rInA X.K neg) (inT neg) := by
  intro ρ w σ H F x y t u z Q S hx hy hz k
  unfold inT at hz
  split at hz
  · split at hz
    · cases hz
      exact .inl ⟨_, _, hx.str, hy.str, k _ H F S .refl (.bl _)⟩
    · cases hz
  · simp only [Option.bind_eq_some_iff] at hz
    obtain ⟨d, h1, es, h2, h3⟩ := hz
    split at h3
    · rename_i hl
      cases h3
      exact .inr ⟨d, .list es, es, hx.dp S h1, hy.dp S (by simp [dataT, h2]), .inl rfl, dataT_plain _ _ h1, dataTs_plain _ _ h2, hl, k _ H F S .refl (.bl _)⟩
    · cases h3
  · simp only [Option.bind_eq_some_iff] at hz
    obtain ⟨d, h1, es, h2, h3⟩ := hz
    split at h3
    · rename_i hl
      cases h3
      exact .inr ⟨d, .tuple es, es, hx.dp S h1, hy.dp S (by simp [dataT, h2]), .inr rfl, dataT_plain _ _ h1, dataTs_plain _ _ h2, hl, k _ H F S .refl (.bl _)⟩
    · cases h3
  · cases hz
theorem op_inA (hu : X.A.units + 200 < cLine) : OpR X (compareOp .In) (rInA X.K false) := OpR.or op_in_str (op_inP hu)
theorem op_notInA (hu : X.A.units + 200 < cLine) : OpR X (compareOp .NotIn) (rInA X.K true) := OpR.or op_notin_str (op_notInP hu)
theorem pv_eq (hu : X.A.units + 200 < cLine) (ha : PVs X G E a fa) (hb : PVs X G E b fb) : PV X G E (.Compare a [.Eq] [b] pos) (f2 (eqT false) fa fb) := pv_cmp (op_eqP hu) eqG ha hb (nomark b)
theorem pv_ne (hu : X.A.units + 200 < cLine) (ha : PVs X G E a fa) (hb : PVs X G E b fb) : PV X G E (.Compare a [.NotEq] [b] pos) (f2 (eqT true) fa fb) := pv_cmp (op_neP hu) eqG ha hb (nomark b)
theorem pv_in (hu : X.A.units + 200 < cLine) (ha : PVs X G E a fa) (hb : PVs X G E b fb) (hm : behindInMarks .In b = false := by rfl) : PV X G E (.Compare a [.In] [b] pos) (f2 (inT false) fa fb) := pv_cmp (op_inA hu) inG ha hb hm
theorem pv_notIn (hu : X.A.units + 200 < cLine) (ha : PVs X G E a fa) (hb : PVs X G E b fb) (hm : behindInMarks .NotIn b = false := by rfl) : PV X G E (.Compare a [.NotIn] [b] pos) (f2 (inT true) fa fb) := pv_cmp (op_notInA hu) inG ha hb hm
theorem pv_lt (ha : PVs X G E a fa) (hb : PVs X G E b fb) : PV X G E (.Compare a [.Lt] [b] pos) (f2 (ltT fun i j => decide (i < j)) fa fb) := pv_cmp op_lt cmpG ha hb (nomark b)
theorem pv_le (ha : PVs X G E a fa) (hb : PVs X G E b fb) : PV X G E (.Compare a [.LtE] [b] pos) (f2 (ltT fun i j => decide (i ≤ j)) fa fb) := pv_cmp op_le cmpG ha hb (nomark b)
theorem pv_gt (ha : PVs X G E a fa) (hb : PVs X G E b fb) : PV X G E (.Compare a [.Gt] [b] pos) (f2 (ltT fun i j => decide (j < i)) fa fb) := pv_cmp op_gt cmpG ha hb (nomark b)
theorem pv_ge (ha : PVs X G E a fa) (hb : PVs X G E b fb) : PV X G E (.Compare a [.GtE] [b] pos) (f2 (ltT fun i j => decide (j ≤ i)) fa fb) := pv_cmp op_ge cmpG ha hb (nomark b)
/-- is None, is True -/
def isT (neg : Bool) : T → T → Option T
  | .non, .non => some (.bl (!neg))
  | .bl _, .non | .int _, .non | .str _, .non | .tup _, .non | .lst _, .non | .dct _ _, .non | .ins _ _ _, .non => some (.bl neg)
  | .bl c, .bl d => some (.bl (if neg then !decide (c = d) else decide (c = d)))
  | _, _ => none
def rIsA (neg : Bool) : R2 := fun x y H Q => (y = .non ∧ Q (.bl (if neg then !decide (x = .non) else decide (x = .non))) H) ∨ (∃ c d, x = .bl c ∧ y = .bl d ∧ Q (.bl (if neg then !decide (c = d) else decide (c = d))) H)
theorem isG {neg : Bool} : OpG X G (rIsA neg) (isT neg) := by
  intro ρ w σ H F x y t u z Q S hx hy hz k
  have ref : ∀ a, (if neg = true then !decide (V.ref a = V.non) else decide (V.ref a = V.non)) = neg := fun a => by cases neg <;> simp
  cases t with
  | non =>
    cases u <;> first | (cases hz; done) | skip
    cases hz
    obtain rfl := hx.non
    exact .inl ⟨hy.non, by have e : (if neg = true then !decide (V.non = V.non) else decide (V.non = V.non)) = !neg := by cases neg <;> simp
                           rw [e]; exact k _ H F S .refl (.bl _)⟩
  | bl c =>
    cases u <;> first | (cases hz; done) | skip
    · cases hz
      obtain rfl := hx.bl
      exact .inl ⟨hy.non, by have e : (if neg = true then !decide (V.bl c = V.non) else decide (V.bl c = V.non)) = neg := by cases neg <;> simp
                             rw [e]; exact k _ H F S .refl (.bl _)⟩
    · cases hz
      exact .inr ⟨_, _, hx.bl, hy.bl, k _ H F S .refl (.bl _)⟩
  | int c =>
    cases u <;> first | (cases hz; done) | skip
    cases hz
    obtain rfl := hx.int
    exact .inl ⟨hy.non, by have e : (if neg = true then !decide (V.int c = V.non) else decide (V.int c = V.non)) = neg := by cases neg <;> simp
                           rw [e]; exact k _ H F S .refl (.bl _)⟩
  | str c =>
    cases u <;> first | (cases hz; done) | skip
    cases hz
    obtain rfl := hx.str
    exact .inl ⟨hy.non, by have e : (if neg = true then !decide (V.str c = V.non) else decide (V.str c = V.non)) = neg := by cases neg <;> simp
                           rw [e]; exact k _ H F S .refl (.bl _)⟩
  | tup c =>
    cases u <;> first | (cases hz; done) | skip
    cases hz
    obtain ⟨a, _, rfl, _⟩ := hx.tup S
    exact .inl ⟨hy.non, by rw [ref]; exact k _ H F S .refl (.bl _)⟩
  | lst c =>
    cases u <;> first | (cases hz; done) | skip
    cases hz
    obtain ⟨a, _, rfl, _⟩ := hx.lst S
    exact .inl ⟨hy.non, by rw [ref]; exact k _ H F S .refl (.bl _)⟩
  | dct c d =>
    cases u <;> first | (cases hz; done) | skip
    cases hz
    obtain ⟨a, _, rfl, _⟩ := hx.dct S
    exact .inl ⟨hy.non, by rw [ref]; exact k _ H F S .refl (.bl _)⟩
  | ins c d e =>
    cases u <;> first | (cases hz; done) | skip
    cases hz
    cases (hx.rep (fun _ z => nomatch z) fun _ _ z => nomatch z) with
    | ins h1 h2 h3 => exact .inl ⟨hy.non, by rw [ref]; exact k _ H F S .refl (.bl _)⟩
  | raw c => cases u <;> cases hz
end
end PL

/-! PLd: and, or, not, if; tests; subscripts, slices, displays, arguments, calls of defs. -/
namespace PL
open PySem PySem.Spec PyProof.Rows L2
section
variable {W : Type} {X : Cx} {G : Gm W} {E : XK} {a b c : Expr} {rest : List Expr} {fa fb fc : Rho → M W T} {pos : Pos}

/-! ### and, or, not as values -/
def boolM {W : Type} (t : T) : M W Bool := match t with
  | .bl b => ret b
  | _ => stuck
def fAnd (fa fb : Rho → M W T) : Rho → M W T := fun ρ => bnd (fa ρ) fun t => bnd (boolM t) fun b => if b = true then fb ρ else ret (.bl false)
def fOr (fa fb : Rho → M W T) : Rho → M W T := fun ρ => bnd (fa ρ) fun t => bnd (boolM t) fun b => if b = true then ret (.bl true) else fb ρ
def fNot (fa : Rho → M W T) : Rho → M W T := fun ρ => bnd (fa ρ) fun t => bnd (boolM t) fun b => ret (.bl (!b))
theorem boolM_inv {t : T} {w w' : W} {r : R Bool} (h : boolM t w = some (r, w')) : ∃ b, t = .bl b ∧ r = .ok b ∧ w' = w := by
  cases t <;> first | (cases h; done) | skip
  obtain ⟨rfl, rfl⟩ := ret_inv h
  exact ⟨_, rfl, rfl, rfl⟩
theorem boolM_bnd {β : Type} {t : T} {k : Bool → M W β} {w w' : W} {r : R β} (h : bnd (boolM t) k w = some (r, w')) : ∃ b, t = .bl b ∧ k b w = some (r, w') := by
  rcases bnd_inv h with ⟨b, w1, h1, h2⟩ | ⟨e, h1, _⟩
  · obtain ⟨b', e, h3, rfl⟩ := boolM_inv h1
    cases h3
    exact ⟨b, e, h2⟩
  · obtain ⟨_, _, h3, _⟩ := boolM_inv h1
    cases h3
theorem pv_one {op} (ha : PV X G E a fa) : PV X G E (.BoolOp op [a] pos) fa := ⟨pe_one ha.run⟩
theorem pv_and (ha : PV X G E a fa) (hb : PV X G E (.BoolOp .And (b :: rest) pos) fb) : PV X G E (.BoolOp .And (a :: b :: rest) pos) (fAnd fa fb) := ⟨(pe_and ha.run hb.run).imp fun σ H Q => by
  rintro ⟨ρ, w, F, r, w', S, hf, acc⟩
  refine tV.bind (X := X) S hf acc.er fun t w1 x H1 F1 S1 s1 r1 hk => ?_
  obtain ⟨b, rfl, hk⟩ := boolM_bnd hk
  obtain rfl := r1.bl_inv
  refine ⟨b, rfl, ?_⟩
  cases b with
  | true => exact ⟨ρ, w1, F1, r, w', S1, hk, acc.mono s1 S1.dH⟩
  | false =>
    obtain ⟨rfl, rfl⟩ := ret_inv hk
    exact acc _ H1 F1 S1 s1 (.bl _)⟩
theorem pv_or (ha : PV X G E a fa) (hb : PV X G E (.BoolOp .Or (b :: rest) pos) fb) : PV X G E (.BoolOp .Or (a :: b :: rest) pos) (fOr fa fb) := ⟨(pe_or ha.run hb.run).imp fun σ H Q => by
  rintro ⟨ρ, w, F, r, w', S, hf, acc⟩
  refine tV.bind (X := X) S hf acc.er fun t w1 x H1 F1 S1 s1 r1 hk => ?_
  obtain ⟨b, rfl, hk⟩ := boolM_bnd hk
  obtain rfl := r1.bl_inv
  refine ⟨b, rfl, ?_⟩
  cases b with
  | false => exact ⟨ρ, w1, F1, r, w', S1, hk, acc.mono s1 S1.dH⟩
  | true =>
    obtain ⟨rfl, rfl⟩ := ret_inv hk
    exact acc _ H1 F1 S1 s1 (.bl _)⟩
theorem pv_not (ha : PV X G E a fa) : PV X G E (.UnaryOp .Not a pos) (fNot fa) := ⟨(pe_not ha.run).imp fun σ H Q => by
  rintro ⟨ρ, w, F, r, w', S, hf, acc⟩
  refine tV.bind (X := X) S hf acc.er fun t w1 x H1 F1 S1 s1 r1 hk => ?_
  obtain ⟨b, rfl, hk⟩ := boolM_bnd hk
  obtain rfl := r1.bl_inv
  obtain ⟨rfl, rfl⟩ := ret_inv hk
  exact ⟨b, rfl, acc _ H1 F1 S1 s1 (.bl _)⟩⟩

/-! ### tests -/
def fB (f : Rho → M W T) : Rho → M W Bool := fun ρ => bnd (f ρ) boolM
theorem tTest.of : ∀ {t : TE} {fa : Rho → M W T}, (∀ σ H Q, tV X.K G E fa σ H Q → t σ H Q) → ∀ σ H Q, tT X.K G E (fB fa) σ H Q → t σ H fun x H' => ∃ k, x = .bl k ∧ Q k H' := fun {t fa} h σ H Q => by
  rintro ⟨ρ, w, F, r, w', S, hf, acc⟩
  refine h σ H _ (tV.bind (X := X) S hf acc.er fun t w1 x H1 F1 S1 s1 r1 hk => ?_)
  obtain ⟨b, rfl, rfl, rfl⟩ := boolM_inv hk
  exact ⟨b, r1.bl_inv, acc H1 F1 S1 s1⟩
theorem pb_val (ha : PV X G E a fa) (he : ∀ whole, isTrue a X.env whole = (do let v ← whole; standAt a.pos; holding [v] (truthy v)) := by intro _; rfl) : PB X G E a (fB fa) :=
  ⟨(pt_val ha.run he).imp (tTest.of fun _ _ _ h => h)⟩
theorem pb_cmp {op : CmpOp} {r : R2} {g : T → T → Option T} (ho : OpR X (compareOp op) r) (hg : OpG X G r g) (ha : PVs X G E a fa) (hb : PVs X G E b fb) (hm : behindInMarks op b = false) : PB X G E (.Compare a [op] [b] pos) (fB (f2 g fa fb)) :=
  ⟨(pt_cmpR ho ha.run hb.run hm).imp (tTest.of (tOp.of hg))⟩
theorem pb_eq (hu : X.A.units + 200 < cLine) (ha : PVs X G E a fa) (hb : PVs X G E b fb) : PB X G E (.Compare a [.Eq] [b] pos) (fB (f2 (eqT false) fa fb)) := pb_cmp (op_eqP hu) eqG ha hb (nomark b)
theorem pb_ne (hu : X.A.units + 200 < cLine) (ha : PVs X G E a fa) (hb : PVs X G E b fb) : PB X G E (.Compare a [.NotEq] [b] pos) (fB (f2 (eqT true) fa fb)) := pb_cmp (op_neP hu) eqG ha hb (nomark b)
theorem pb_in (hu : X.A.units + 200 < cLine) (ha : PVs X G E a fa) (hb : PVs X G E b fb) (hm : behindInMarks .In b = false := by rfl) : PB X G E (.Compare a [.In] [b] pos) (fB (f2 (inT false) fa fb)) := pb_cmp (op_inA hu) inG ha hb hm
theorem pb_notIn (hu : X.A.units + 200 < cLine) (ha : PVs X G E a fa) (hb : PVs X G E b fb) (hm : behindInMarks .NotIn b = false := by rfl) : PB X G E (.Compare a [.NotIn] [b] pos) (fB (f2 (inT true) fa fb)) := pb_cmp (op_notInA hu) inG ha hb hm
theorem pb_lt (ha : PVs X G E a fa) (hb : PVs X G E b fb) : PB X G E (.Compare a [.Lt] [b] pos) (fB (f2 (ltT fun i j => decide (i < j)) fa fb)) := pb_cmp op_lt cmpG ha hb (nomark b)
theorem pb_le (ha : PVs X G E a fa) (hb : PVs X G E b fb) : PB X G E (.Compare a [.LtE] [b] pos) (fB (f2 (ltT fun i j => decide (i ≤ j)) fa fb)) := pb_cmp op_le cmpG ha hb (nomark b)
theorem pb_gt (ha : PVs X G E a fa) (hb : PVs X G E b fb) : PB X G E (.Compare a [.Gt] [b] pos) (fB (f2 (ltT fun i j => decide (j < i)) fa fb)) := pb_cmp op_gt cmpG ha hb (nomark b)
theorem pb_ge (ha : PVs X G E a fa) (hb : PVs X G E b fb) : PB X G E (.Compare a [.GtE] [b] pos) (fB (f2 (ltT fun i j => decide (j ≤ i)) fa fb)) := pb_cmp op_ge cmpG ha hb (nomark b)
theorem _root_.L2.OpR.imp {f : Value → Value → Sem Value} {r r' : R2} (h : OpR X f r) (i : ∀ x y H Q, r' x y H Q → r x y H Q) : OpR X f r' := fun pins s σ H x y v u Q I rx ry q => h pins s σ H x y v u Q I rx ry (i x y H Q q)
theorem op_isA : OpR X (compareOp .Is) (rIsA false) := (OpR.or op_isN op_isBl).imp fun x y H Q h => h
theorem op_isNotA : OpR X (compareOp .IsNot) (rIsA true) := (OpR.or op_notN op_notBl).imp fun x y H Q h => h
theorem pv_is (ha : PVs X G E a fa) (hb : PVs X G E b fb) : PV X G E (.Compare a [.Is] [b] pos) (f2 (isT false) fa fb) := pv_cmp op_isA isG ha hb (nomark b)
theorem pv_isNot (ha : PVs X G E a fa) (hb : PVs X G E b fb) : PV X G E (.Compare a [.IsNot] [b] pos) (f2 (isT true) fa fb) := pv_cmp op_isNotA isG ha hb (nomark b)
theorem pb_is (ha : PVs X G E a fa) (hb : PVs X G E b fb) : PB X G E (.Compare a [.Is] [b] pos) (fB (f2 (isT false) fa fb)) := pb_cmp op_isA isG ha hb (nomark b)
theorem pb_isNot (ha : PVs X G E a fa) (hb : PVs X G E b fb) : PB X G E (.Compare a [.IsNot] [b] pos) (fB (f2 (isT true) fa fb)) := pb_cmp op_isNotA isG ha hb (nomark b)

/-! ### and, or, not as tests -/
structure PBw (X : Cx) (G : Gm W) (E : XK) (e : Expr) (f : Rho → M W Bool) : Prop where
  run : PW X e (tT X.K G E f)
variable {ga gb gc : Rho → M W Bool}
def bAnd (ga gb : Rho → M W Bool) : Rho → M W Bool := fun ρ => bnd (ga ρ) fun b => if b = true then gb ρ else ret false
def bOr (ga gb : Rho → M W Bool) : Rho → M W Bool := fun ρ => bnd (ga ρ) fun b => if b = true then ret true else gb ρ
def bNot (ga : Rho → M W Bool) : Rho → M W Bool := fun ρ => bnd (ga ρ) fun b => ret (!b)
theorem PBw.pb (h : PBw X G E a ga) : PB X G E a ga := ⟨h.run.pt⟩
theorem pbw_and1 (ha : PB X G E a ga) : PBw X G E (.BoolOp .And [a] pos) ga := ⟨pw_and1 ha.run⟩
theorem pbw_or1 (ha : PB X G E a ga) : PBw X G E (.BoolOp .Or [a] pos) ga := ⟨pw_or1 ha.run⟩
theorem pbw_and (ha : PB X G E a ga) (hb : PBw X G E (.BoolOp .And (b :: rest) pos) gb) : PBw X G E (.BoolOp .And (a :: b :: rest) pos) (bAnd ga gb) := ⟨(pw_and ha.run hb.run).imp fun σ H Q => by
  rintro ⟨ρ, w, F, r, w', S, hf, acc⟩
  refine tT.bind (X := X) S hf acc.er fun t w1 H1 F1 S1 s1 hk => ?_
  cases t with
  | true => exact ⟨ρ, w1, F1, r, w', S1, hk, acc.mono s1 S1.dH⟩
  | false =>
    obtain ⟨rfl, rfl⟩ := ret_inv hk
    exact acc H1 F1 S1 s1⟩
theorem pbw_or (ha : PB X G E a ga) (hb : PBw X G E (.BoolOp .Or (b :: rest) pos) gb) : PBw X G E (.BoolOp .Or (a :: b :: rest) pos) (bOr ga gb) := ⟨(pw_or ha.run hb.run).imp fun σ H Q => by
  rintro ⟨ρ, w, F, r, w', S, hf, acc⟩
  refine tT.bind (X := X) S hf acc.er fun t w1 H1 F1 S1 s1 hk => ?_
  cases t with
  | false => exact ⟨ρ, w1, F1, r, w', S1, hk, acc.mono s1 S1.dH⟩
  | true =>
    obtain ⟨rfl, rfl⟩ := ret_inv hk
    exact acc H1 F1 S1 s1⟩
theorem pb_not (ha : PB X G E a ga) : PB X G E (.UnaryOp .Not a pos) (bNot ga) := ⟨(pt_not ha.run).imp fun σ H Q => by
  rintro ⟨ρ, w, F, r, w', S, hf, acc⟩
  refine tT.bind (X := X) S hf acc.er fun t w1 H1 F1 S1 s1 hk => ?_
  obtain ⟨rfl, rfl⟩ := ret_inv hk
  exact acc H1 F1 S1 s1⟩
def fIf (gc : Rho → M W Bool) (fa fb : Rho → M W T) : Rho → M W T := fun ρ => bnd (gc ρ) fun b => if b = true then fa ρ else fb ρ
theorem pv_if (hc : PB X G E c gc) (ha : PV X G E a fa) (hb : PV X G E b fb) : PV X G E (.IfExp c a b pos) (fIf gc fa fb) := ⟨(pe_ifExp hc.run ha.run hb.run).imp fun σ H Q => by
  rintro ⟨ρ, w, F, r, w', S, hf, acc⟩
  refine tT.bind (X := X) S hf acc.er fun t w1 H1 F1 S1 s1 hk => ?_
  cases t with
  | true => exact ⟨ρ, w1, F1, r, w', S1, hk, acc.mono s1 S1.dH⟩
  | false => exact ⟨ρ, w1, F1, r, w', S1, hk, acc.mono s1 S1.dH⟩⟩
theorem pvs_if (hc : PB X G E c gc) (ha : PVs X G E a fa) (hb : PVs X G E b fb) : PVs X G E (.IfExp c a b pos) (fIf gc fa fb) := ⟨(pe_ifExp hc.run ha.run hb.run).imp fun σ H Q => by
  rintro ⟨ρ, w, F, r, w', S, hf, acc⟩
  refine tT.bind (X := X) S hf acc.er fun t w1 H1 F1 S1 s1 hk => ?_
  cases t with
  | true => exact ⟨ρ, w1, F1, r, w', S1, hk, acc.mono s1 S1.dH⟩
  | false => exact ⟨ρ, w1, F1, r, w', S1, hk, acc.mono s1 S1.dH⟩⟩
/-- a < b < c -/
def fChain (g g' : T → T → Option T) (fa fb fc : Rho → M W T) : Rho → M W T := fun ρ => bnd (fa ρ) fun t => bnd (fb ρ) fun u => bnd (lift (g t u)) fun z => bnd (boolM z) fun k => if k = true then bnd (fc ρ) fun v => lift (g' u v) else ret (.bl false)
theorem tChain.of {r r' : R2} {g g' : T → T → Option T} (hg : OpG X G r g) (hg' : OpG X G r' g') : ∀ σ H Q, tV X.K G E (fChain g g' fa fb fc) σ H Q → tChain r r' (tVs X.K G E fa) (tVs X.K G E fb) (tVs X.K G E fc) σ H Q := fun σ H Q => by
  rintro ⟨ρ, w, F, q, w', S, hf, acc⟩
  refine tVs.bind (X := X) S hf acc.er fun t w1 x H1 F1 S1 s1 r1 hk => ?_
  refine tVs.bind (X := X) S1 hk (acc.mono s1 S1.dH).er fun u w2 y H2 F2 S2 s2 r2 hk2 => ?_
  rcases bnd_inv hk2 with ⟨z, w3, h1, h2⟩ | ⟨e, h1, h2⟩
  · obtain ⟨z', hz, e1, rfl⟩ := lift_inv h1
    cases e1
    obtain ⟨k, rfl, h3⟩ := boolM_bnd h2
    refine hg ρ _ σ H2 F2 x y t u _ _ S2 (r1.mono s2.same) r2 hz fun v H3 F3 S3 s3 rv => ?_
    refine ⟨k, rv.bl_inv, ?_⟩
    cases k with
    | false =>
      obtain ⟨rfl, rfl⟩ := ret_inv h3
      exact acc _ H3 F3 S3 ((s1.trans s2 S1.dH).trans s3 S2.dH) (.bl _)
    | true =>
      rw [if_pos rfl] at h3 ⊢
      refine tVs.bind (X := X) S3 h3 (acc.mono ((s1.trans s2 S1.dH).trans s3 S2.dH) S3.dH).er fun c w4 yc H4 F4 S4 s4 r4 hk4 => ?_
      obtain ⟨z2, hz2, rfl, rfl⟩ := lift_inv hk4
      exact hg' ρ _ σ H4 F4 y yc u c z2 Q S4 ((r2.mono s3.same).mono s4.same) r4 hz2 fun v' H' F' S' s' rv' => acc v' H' F' S' ((((s1.trans s2 S1.dH).trans s3 S2.dH).trans s4 S3.dH).trans s' S4.dH) rv'
  · obtain ⟨_, _, h3, _⟩ := lift_inv h1
    cases h3
theorem pv_chain {op op' : CmpOp} {r r' : R2} {g g' : T → T → Option T} (ho : OpR X (compareOp op) r) (ho' : OpR X (compareOp op') r') (hg : OpG X G r g) (hg' : OpG X G r' g') (ha : PVs X G E a fa) (hb : PVs X G E b fb) (hc : PVs X G E c fc)
    (hm : lastMarks [op, op'] [b, c] = false := by with_unfolding_all rfl) : PV X G E (.Compare a [op, op'] [b, c] pos) (fChain g g' fa fb fc) := ⟨(pe_chain ho ho' ha.run hb.run hc.run hm).imp (tChain.of hg hg')⟩
theorem pb_chain {op op' : CmpOp} {r r' : R2} {g g' : T → T → Option T} (ho : OpR X (compareOp op) r) (ho' : OpR X (compareOp op') r') (hg : OpG X G r g) (hg' : OpG X G r' g') (ha : PVs X G E a fa) (hb : PVs X G E b fb) (hc : PVs X G E c fc)
    (hm : lastMarks [op, op'] [b, c] = false := by with_unfolding_all rfl) : PB X G E (.Compare a [op, op'] [b, c] pos) (fB (fChain g g' fa fb fc)) := ⟨(pt_chain ho ho' ha.run hb.run hc.run hm).imp (tTest.of (tChain.of hg hg'))⟩
theorem pb_chain_le_le (ha : PVs X G E a fa) (hb : PVs X G E b fb) (hc : PVs X G E c fc) (hm : lastMarks [.LtE, .LtE] [b, c] = false := by with_unfolding_all rfl) : PB X G E (.Compare a [.LtE, .LtE] [b, c] pos) (fB (fChain (ltT fun i j => decide (i ≤ j)) (ltT fun i j => decide (i ≤ j)) fa fb fc)) := pb_chain op_le op_le cmpG cmpG ha hb hc hm

/-! ### subscripts and slices -/
def ixT : T → T → Option T
  | .lst ts, .int i => atI ts i
  | .tup ts, .int i => atI ts i
  | .str z, .int i => if z.length ≤ sizeLine then (atI z.cps.toList i).map fun c => .str ⟨#[c]⟩ else none
  | _, _ => none
theorem Reps.atI {K : PySem.W.Frag} {F : Hp} {vs : List V} {ts : List T} {i : Int} {t : T} (r : Reps K F vs ts) (h : L2.atI ts i = some t) : ∃ v, L2.atI vs i = some v ∧ Rep K F v t := by
  unfold L2.atI at h ⊢
  rw [r.length]
  cases e : ixN ts.length i with
  | none => rw [e] at h; cases h
  | some j =>
    rw [e] at h
    exact r.get h
theorem Reps.rep_at {K : PySem.W.Frag} {F : Hp} {vs : List V} {ts : List T} {i : Nat} {v : V} {t : T} (r : Reps K F vs ts) (h1 : vs[i]? = some v) (h2 : ts[i]? = some t) : Rep K F v t := by
  obtain ⟨u, e, q⟩ := r.get h2
  rw [h1] at e; cases e; exact q
theorem ixG : OpG X G (rIx X.K) ixT := by
  intro ρ w σ H F x y t u z Q S hx hy hz k
  unfold ixT at hz
  split at hz
  · obtain ⟨a, vs, rfl, hH, r1⟩ := hx.lst S
    obtain ⟨v, h1, h2⟩ := r1.atI hz
    exact .inl ⟨a, vs, _, v, rfl, hy.int, .of hH, h1, k v H F S .refl h2⟩
  · obtain ⟨a, vs, rfl, hF, hH, r1⟩ := hx.tup S
    obtain ⟨v, h1, h2⟩ := r1.atI hz
    exact .inr (.inl ⟨a, vs, _, v, rfl, hy.int, hH, h1, k v H F S .refl h2⟩)
  · split at hz
    · rename_i hl
      simp only [Option.map_eq_some_iff] at hz
      obtain ⟨c, h1, rfl⟩ := hz
      exact .inr (.inr ⟨_, _, c, hx.str, hy.int, hl, h1, k _ H F S .refl (.str _)⟩)
    · cases hz
  · cases hz
theorem pv_ix (ha : PVs X G E a fa) (hb : PVs X G E b fb) (hs : PlainIx b := by intro _ _; rfl) : PV X G E (.Subscript a b pos) (f2 ixT fa fb) := ⟨(pe_ix ix_seq ha.run hb.run hs).imp (tOp.of ixG)⟩
/-- a dict's value -/
def dgetT : T → T → Option T
  | .dct ks ts, .str x => (ks.zip ts |>.find? fun kv => decide (kv.1 = Sum.inr x)).map (·.2)
  | .dct ks ts, .int x => (ks.zip ts |>.find? fun kv => decide (kv.1 = Sum.inl x)).map (·.2)
  | _, _ => none
theorem Reps.valV {K : PySem.W.Frag} {F : Hp} {k : Key} : ∀ {ks : List Key} {vs : List V} {ts : List T}, Reps K F vs ts → ks.length = vs.length →
    ((((ks.zip ts).find? fun kv => decide (kv.1 = k)).map (·.2) = none ∧ L2.valV (ks.zip vs) k = none) ∨ ∃ v t, ((ks.zip ts).find? fun kv => decide (kv.1 = k)).map (·.2) = some t ∧ L2.valV (ks.zip vs) k = some v ∧ Rep K F v t)
  | [], _, _, _, _ => .inl ⟨rfl, rfl⟩
  | _ :: _, _, _, .nil, e => by cases e
  | k' :: ks, _, _, .cons (v := v) (t := t) (vs := vs) (ts := ts) h r, e => by
    unfold L2.valV
    simp only [List.zip_cons_cons, List.find?_cons]
    by_cases hk : k' = k
    · simp only [hk, decide_true]
      exact .inr ⟨v, t, rfl, rfl, h⟩
    · simp only [hk, decide_false]
      have := Reps.valV (k := k) (ks := ks) r (by simpa using e)
      unfold L2.valV at this
      exact this
theorem pv_dget (hu : X.A.units + 1 < cLine) (ha : PVs X G E a fa) (hb : PVs X G E b fb) (hs : NoSl b := by intro _ _; rfl) : PV X G E (.Subscript a b pos) (f2 dgetT fa fb) := ⟨(pe_dget hu ha.run hb.run hs).imp fun σ H Q => by
  rintro ⟨ρ, w, F, q, w', S, hf, acc⟩
  refine tVs.bind (X := X) S hf acc.er fun t w1 x H1 F1 S1 s1 r1 hk => ?_
  refine tVs.bind (X := X) S1 hk (acc.mono s1 S1.dH).er fun u w2 y H2 F2 S2 s2 r2 hk2 => ?_
  obtain ⟨z, hz, rfl, rfl⟩ := lift_inv hk2
  have r1' := r1.mono s2.same
  unfold dgetT at hz
  split at hz
  · rename_i ks ts z'
    obtain ⟨d, vs, rfl, hH, hl, rr⟩ := r1'.dct S2
    obtain rfl := r2.str
    rcases rr.valV (k := Sum.inr z') hl with ⟨e1, e2⟩ | ⟨v, t', e1, e2, rv⟩
    · rw [e1] at hz; cases hz
    · rw [e1] at hz; cases hz
      exact ⟨d, v, rfl, by have : DGet H2 d (kV (Sum.inr z')) (L2.valV (ks.zip vs) (Sum.inr z')) := .inl ⟨_, _, hH, rfl, rfl⟩; rw [e2] at this; exact this, acc v H2 F2 S2 (s1.trans s2 S1.dH) rv⟩
  · rename_i ks ts z'
    obtain ⟨d, vs, rfl, hH, hl, rr⟩ := r1'.dct S2
    obtain rfl := r2.int
    rcases rr.valV (k := Sum.inl z') hl with ⟨e1, e2⟩ | ⟨v, t', e1, e2, rv⟩
    · rw [e1] at hz; cases hz
    · rw [e1] at hz; cases hz
      exact ⟨d, v, rfl, by have : DGet H2 d (kV (Sum.inl z')) (L2.valV (ks.zip vs) (Sum.inl z')) := .inl ⟨_, _, hH, rfl, rfl⟩; rw [e2] at this; exact this, acc v H2 F2 S2 (s1.trans s2 S1.dH) rv⟩
  · cases hz⟩
/-- a part of a slice -/
structure PP (X : Cx) (G : Gm W) (E : XK) (e : Option Expr) (f : Rho → M W (Option Int)) : Prop where
  run : PO X e fun σ H Q => ∃ ρ w F r w', Sd X.K G ρ w σ H F ∧ f ρ w = some (r, w') ∧ match r with
    | .ok o => ∀ H' F', Sd X.K G ρ w' σ H' F' → Gr G H F H' F' → Q o H'
    | .er e => AccE X.K G E F e w'
def fNoPart : Rho → M W (Option Int) := fun _ => ret none
def intM (t : T) : M W Int := match t with
  | .int i => ret i
  | _ => stuck
theorem intM_inv {t : T} {w w' : W} {r : R Int} (h : intM t w = some (r, w')) : ∃ b, t = .int b ∧ r = .ok b ∧ w' = w := by
  cases t <;> first | (cases h; done) | skip
  obtain ⟨rfl, rfl⟩ := ret_inv h
  exact ⟨_, rfl, rfl, rfl⟩
def fPart (f : Rho → M W T) : Rho → M W (Option Int) := fun ρ => bnd (f ρ) fun t => bnd (intM t) fun i => ret (some i)
theorem _root_.L2.PO.imp {e : Option Expr} {t t' : TO} (h : PO X e t) (i : ∀ σ H Q, t' σ H Q → t σ H Q) : PO X e t' := ⟨fun pins s σ H Q I q => h.run pins s σ H Q I (i σ H Q q)⟩
theorem pp_none : PP X G E none fNoPart := ⟨po_none.imp fun σ H Q => by
  rintro ⟨ρ, w, F, r, w', S, hf, acc⟩
  obtain ⟨rfl, rfl⟩ := ret_inv hf
  exact acc H F S .refl⟩
theorem pp_some (ha : PV X G E a fa) : PP X G E (some a) (fPart fa) := ⟨(po_some ha.run).imp fun σ H Q => by
  rintro ⟨ρ, w, F, r, w', S, hf, acc⟩
  refine tV.bind (X := X) S hf (fun e q => by subst q; exact acc) fun t w1 x H1 F1 S1 s1 r1 hk => ?_
  rcases bnd_inv hk with ⟨i, w2, h1, h2⟩ | ⟨e, h1, _⟩
  · obtain ⟨j, rfl, h3, rfl⟩ := intM_inv h1
    cases h3
    obtain ⟨rfl, rfl⟩ := ret_inv h2
    exact ⟨i, r1.int_inv, acc H1 F1 S1 s1⟩
  · obtain ⟨_, _, h3, _⟩ := intM_inv h1
    cases h3⟩
def cutA {α : Type} (xs : List α) (lo hi : Option Int) : List α := (xs.drop (HT.sIx xs.length 0 lo)).take (HT.sIx xs.length xs.length hi - HT.sIx xs.length 0 lo)
def sliceT (lo hi : Option Int) : T → Option T
  | .lst ts => some (.lst (cutA ts lo hi))
  | .tup ts => some (.tup (cutA ts lo hi))
  | .str z => if z.length ≤ sizeLine then some (.str (cutS z lo hi)) else none
  | _ => none
def fSlice (fa : Rho → M W T) (l h : Rho → M W (Option Int)) : Rho → M W T := fun ρ => bnd (fa ρ) fun t => bnd (l ρ) fun lo => bnd (h ρ) fun hi => lift (sliceT lo hi t)
theorem Reps.cut {K : PySem.W.Frag} {F : Hp} {vs : List V} {ts : List T} (r : Reps K F vs ts) (lo hi : Option Int) : Reps K F (cutV vs lo hi) (cutA ts lo hi) := by
  unfold cutV cutA
  rw [r.length]
  exact (r.drop _).take _
theorem cut_whole {α : Type} {xs : List α} {lo hi : Option Int} (h : HT.sIx xs.length 0 lo = 0 ∧ HT.sIx xs.length xs.length hi = xs.length) : cutA xs lo hi = xs := by
  unfold cutA
  rw [h.1, h.2]
  simp
theorem pv_slice {l h : Option Expr} {p2 : Pos} {fl fh : Rho → M W (Option Int)} (ha : PVs X G E a fa) (hl : PP X G E l fl) (hh : PP X G E h fh) : PV X G E (.Subscript a (.Slice l h none p2) pos) (fSlice fa fl fh) :=
  ⟨(pe_slice (SlR.or sl_list (SlR.or sl_tupA sl_str)) ha.run hl.run hh.run).imp fun σ H Q => by
  rintro ⟨ρ, w, F, r, w', S, hf, acc⟩
  refine tVs.bind (X := X) S hf acc.er fun t w1 x H1 F1 S1 s1 r1 hk => ?_
  rcases bnd_inv hk with ⟨lo, w2, h1, hk⟩ | ⟨e, h1, rfl⟩
  case inr => exact ⟨ρ, w1, F1, .er e, w', S1, h1, AccE.mono (X := X) acc s1.same⟩
  refine ⟨ρ, w1, F1, .ok lo, w2, S1, h1, fun H2 F2 S2 s2 => ?_⟩
  rcases bnd_inv hk with ⟨hi, w3, h1, hk⟩ | ⟨e, h1, rfl⟩
  case inr => exact ⟨ρ, w2, F2, .er e, w', S2, h1, AccE.mono (X := X) acc (s1.same.trans s2.same)⟩
  refine ⟨ρ, w2, F2, .ok hi, w3, S2, h1, fun H3 F3 S3 s3 => ?_⟩
  obtain ⟨z, hz, rfl, rfl⟩ := lift_inv hk
  have rr := (r1.mono s2.same).mono s3.same
  have sF := (s1.trans s2 S1.dH).trans s3 S2.dH
  unfold sliceT at hz
  split at hz
  · cases hz
    obtain ⟨d, vs, rfl, hH, rv⟩ := rr.lst S3
    exact .inl ⟨d, vs, rfl, .of hH, fun p hp => acc _ _ _ (S3.laidF hp) (sF.trans (.laidF S3 hp) S3.dH) (.lst upd_same ((rv.cut lo hi).mono (Same.updN (S3.sub.free hp))))⟩
  · cases hz
    obtain ⟨d, vs, rfl, hF, hH, rv⟩ := rr.tup S3
    refine .inr (.inl ⟨d, vs, rfl, hH, fun e => ?_, fun _ p hp => acc _ _ _ (S3.laidF hp) (sF.trans (.laidF S3 hp) S3.dH) (.tup (.of upd_same) ((rv.cut lo hi).mono (Same.updN (S3.sub.free hp))))⟩)
    rw [rv.length] at e
    rw [cut_whole e] at acc
    exact acc _ H3 F3 S3 sF (.tup hF rv)
  · split at hz
    · rename_i hl
      cases hz
      exact .inr (.inr ⟨_, rr.str, hl, acc _ H3 F3 S3 sF (.str _)⟩)
    · cases hz
  · cases hz⟩

/-! ### arguments, displays -/
def aNil : Rho → M W (List T) := fun _ => ret []
def aCons (fa : Rho → M W T) (fr : Rho → M W (List T)) : Rho → M W (List T) := fun ρ => bnd (fa ρ) fun t => bnd (fr ρ) fun ts => ret (t :: ts)
variable {es : List Expr} {fr : Rho → M W (List T)}
theorem pas_nil : PAs X G E [] aNil := ⟨pa_nil.imp fun σ H Q => by
  rintro ⟨ρ, w, F, r, w', S, hf, acc⟩
  obtain ⟨rfl, rfl⟩ := ret_inv hf
  exact acc [] H F S .refl .nil⟩
theorem pas_cons (ha : PV X G E a fa) (hr : PAs X G E es fr) (hs : starEach (a :: es) X.env = (false, eval a X.env) :: starEach es X.env := by rfl) : PAs X G E (a :: es) (aCons fa fr) := ⟨(pa_cons ha.run hr.run hs).imp fun σ H Q => by
  rintro ⟨ρ, w, F, r, w', S, hf, acc⟩
  refine tV.bind (X := X) S hf acc.er fun t w1 x H1 F1 S1 s1 r1 hk => ?_
  refine tA.bind (X := X) S1 hk (acc.mono s1 S1.dH).er fun ts w2 vs H2 F2 S2 s2 r2 hk => ?_
  obtain ⟨rfl, rfl⟩ := ret_inv hk
  exact acc (x :: vs) H2 F2 S2 (s1.trans s2 S1.dH) (.cons (r1.mono s2.same) r2)⟩
def fTup (f : Rho → M W (List T)) : Rho → M W T := fun ρ => bnd (f ρ) fun ts => if ts.length ≤ sizeLine then ret (.tup ts) else stuck
def fLst (f : Rho → M W (List T)) : Rho → M W (List T) := fun ρ => bnd (f ρ) fun ts => if ts.length ≤ sizeLine then ret ts else stuck
theorem pv_tup {x1} (h : PAs X G E es fr) : PV X G E (.Tuple es x1 pos) (fTup fr) := ⟨(pe_tup h.run).imp fun σ H Q => by
  rintro ⟨ρ, w, F, r, w', S, hf, acc⟩
  refine tA.bind (X := X) S hf acc.er fun ts w1 vs H1 F1 S1 s1 r1 hk => ?_
  split at hk
  · rename_i hl
    obtain ⟨rfl, rfl⟩ := ret_inv hk
    exact ⟨by rw [r1.length]; exact hl, fun p hp => acc _ _ _ (S1.laidF hp) (s1.trans (.laidF S1 hp) S1.dH) (.tup (.of upd_same) (r1.mono (Same.updN (S1.sub.free hp))))⟩
  · cases hk⟩
/-- a new list in no slot -/
theorem Sd.noSlot {K : PySem.W.Frag} {ρ : Rho} {w : W} {σ : L2.St} {H F : Hp} {p : Addr} (S : Sd K G ρ w σ H F) (hp : H p = none) : ∀ (i : Nat) (s : Sl), ρ[i]? = some s → s.owns = true → σ[i]? ≠ some (some (V.ref p)) := by
  intro i s hs ho e
  have q := S.slots i s hs
  cases s with
  | un => cases ho
  | fz t => cases ho
  | ow ts => obtain ⟨p', vs, e', h1, _⟩ := q; rw [e] at e'; cases e'; rw [hp] at h1; cases h1
  | od ks ts => obtain ⟨p', vs, e', h1, _⟩ := q; rw [e] at e'; cases e'; rw [hp] at h1; cases h1
theorem pf_lst (h : PAs X G E es fr) : PF X G E (.List es pos) (fLst fr) := ⟨(pe_lst h.run).imp fun σ H Q => by
  rintro ⟨ρ, w, F, r, w', S, hf, acc⟩
  refine tA.bind (X := X) S hf acc.er fun ts w1 vs H1 F1 S1 s1 r1 hk => ?_
  split at hk
  · rename_i hl
    obtain ⟨rfl, rfl⟩ := ret_inv hk
    exact ⟨by rw [r1.length]; exact hl, fun p hp => acc p vs _ F1 (S1.laid hp) (s1.trans (.laid hp) S1.dH) (s1.free0 S1.dH hp) upd_same (S1.sub.free hp) (S1.fresh hp).2.1 (S1.noSlot hp) r1⟩
  · cases hk⟩
end
end PL

/-! PLe: what a def promises, its call; statements; loops. -/
namespace PL
open PySem PySem.Spec PyProof.Rows L2
section
variable {W : Type}

/-! ### a def's promise -/
/-- how a call's result is taken -/
structure Out (O : Wd W) (H F : Hp) (w' : W) (H' F' : Hp) : Prop where
  sub : Same F' H'
  same : Same F F'
  nof : ∀ b, H b ≠ none → F' b = F b
  keep : ∀ b o, H b = some o → ¬ O.D b → H' b = some o
  wok : O.ok H' w'
  dF : ∀ b, O.D b → F' b = none
def AccC (K : PySem.W.Frag) (O : Wd W) (E : XK) (H F : Hp) (Q : VK) (r : R T) (w' : W) : Prop := match r with
  | .ok t => ∀ v H' F', Out O H F w' H' F' → Rep K F' v t → Q v H'
  | .er e => ∀ d H' F', Out O H F w' H' F' → ErAt K H' F' e d → E (.ref e.C) d H'
def spF (K : PySem.W.Frag) (n : Nat) (Fn : List T → M W T) : Sp := fun vs H Q E => ∃ (O : Wd W) (F : Hp) (ts : List T) (w : W) (r : R T) (w' : W), vs.length = n ∧ Same F H ∧ O.ok H w ∧ (∀ b, O.D b → F b = none) ∧ Reps K F vs ts ∧ Fn ts w = some (r, w') ∧ AccC K O E H F Q r w'
theorem spF.len {K : PySem.W.Frag} {n : Nat} {Fn : List T → M W T} : ∀ vs H Q E, spF K n Fn vs H Q E → vs.length = n := fun _ _ _ _ ⟨_, _, _, _, _, _, h, _⟩ => h

/-- as FnOk, where no repr is under way -/
structure FnG (P : Program) (w : World) (K : PySem.W.Frag) (mg : Str → Option Value) (base : Heap) (CX : CXT) (k : Nat) (f : Addr) (fd : FuncData) (ps : List Str) (sp : Sp) : Prop where
  len : ∀ vs H Q E, sp vs H Q E → vs.length = ps.length
  run : ∀ (A : Around) (outer : List PySem.Env) (s : Shared) (H : Hp) (args : Args) (us : List Value) (vs : List V) (Q : VK) (E : XK), Room k A → A.guards = some [] → Env0 P w K mg base A outer s H → BindsTo s fd args (ps.zip us) → Vals vs us → sp vs H Q E →
    codeAny (model P w) A (.call (.ref f) args) (CR CX outer P w H s Q E) s
theorem FnG.of {P : Program} {w : World} {K : PySem.W.Frag} {mg : Str → Option Value} {base : Heap} {CX : CXT} {k : Nat} {f : Addr} {fd : FuncData} {ps : List Str} {sp : Sp} (F : FnOk P w K mg base CX k f fd ps sp) : FnG P w K mg base CX k f fd ps sp :=
  ⟨F.len, fun A outer s H args us vs Q E hr _ => F.run A outer s H args us vs Q E hr⟩
theorem FnG.mono {P : Program} {w : World} {K : PySem.W.Frag} {mg : Str → Option Value} {base : Heap} {CX : CXT} {j k : Nat} {f : Addr} {fd : FuncData} {ps : List Str} {sp : Sp} (F : FnG P w K mg base CX j f fd ps sp) (h : j ≤ k) : FnG P w K mg base CX k f fd ps sp :=
  ⟨F.len, fun A outer s H args us vs Q E hr => F.run A outer s H args us vs Q E (hr.mono h)⟩
/-- a def of the module, by name -/
structure DefOk (CX : CXT) (P : Program) (w : World) (K : PySem.W.Frag) (mg : Str → Option Value) (base : Heap) (k : Nat) (x : Str) (n : Nat) (Fn : List T → M W T) : Prop where
  ex : ∃ f fd ps, FnG P w K mg base CX k f fd ps (spF K n Fn) ∧ mg x = some (.ref f) ∧ PySem.W.keepIn K (.ref f) = true ∧ Binds K fd ps []
/-- behind a call's code -/
theorem FnG.out {X : Cx} {CX : CXT} {pins : List (Addr × Obj)} {σ : L2.St} {H : Hp} {s : Shared} {Q : VK} {E : XK} {A : Around} {c : Code} (hx : Passes CX X E) (I : Inv X pins σ H s) (h : codeAny (model X.prog X.w) A c (CR CX X.stack X.prog X.w H s Q E) s) :
    codeAny (model X.prog X.w) A c (wants (EP X pins σ Q) X.xe) s := codeAny_mono h fun r s' hq => by
  cases r with
  | error e => exact hx pins σ H s e s' I hq
  | ok fl =>
    cases fl with
    | ret u => exact I.after hq
    | next => exact False.elim hq
    | brk => exact False.elim hq
    | cont => exact False.elim hq
theorem run_fnG {X : Cx} {CX : CXT} {k : Nat} {f : Addr} {fd : FuncData} {ps : List Str} {sp : Sp} {E : XK} {pins : List (Addr × Obj)} {σ : L2.St} {H : Hp} {s : Shared} {Q : VK} {us : List Value} {vs : List V} {A : Around} (F : FnG X.prog X.w X.K X.mg X.base CX k f fd ps sp) (hr : Room k A) (hgd : A.guards = some []) (hf : A.frames = X.A.frames)
    (hb : Binds X.K fd ps []) (hx : Passes CX X E) (I : Inv X pins σ H s) (r : Vals vs us) (h : sp vs H Q E) : wpAny (model X.prog X.w) A (call (.ref f) us) (EP X pins σ Q) X.xe s := by
  have hl : us.length = ps.length := by rw [← r.length]; exact F.len _ _ _ _ h
  have hb' := hb s us I.kIn (by simpa using hl)
  rw [List.append_nil] at hb'
  have e := I.env0
  exact wpAny_call (FnG.out hx I (F.run A X.stack s H ⟨us, []⟩ us vs Q E hr hgd ⟨by rw [hf]; exact e.frames, e.mod, e.bs, e.bsz, e.funs, e.frf, e.hok, e.bare⟩ hb' r h))
theorem pe_callG {X : Cx} {CX : CXT} {k : Nat} {f : Addr} {fd : FuncData} {ps : List Str} {sp : Sp} {E : XK} {x : Str} {p pos : Pos} {e : Expr} {es : List Expr} {t : TA} (F : FnG X.prog X.w X.K X.mg X.base CX k f fd ps sp) (hr : Room k X.A) (hgd : X.A.guards = some []) (hg : Gl X x) (hm : X.mg x = some (.ref f)) (hk : PySem.W.keepIn X.K (.ref f) = true) (hb : Binds X.K fd ps []) (hx : Passes CX X E)
    (ha : PA X (e :: es) t) (hdb : (x == ("__debug__" : Str)) = false := by decide) (he : starEach (e :: es) X.env = (false, eval e X.env) :: starEach es X.env := by rfl) (hpl : (backTo pos (starEach es X.env)).any (·.1) = false := by rfl) :
    PE X (.Call (.Name x p) (e :: es) [] pos) (tCall sp [] E t) := by
  refine ⟨fun pins s σ H Q I h => ?_⟩
  refine wpAny_Call_Name_kw (ld_glob I hg hm ?_ hdb)
  refine PySem.W.callWith_K (h₀ := X.base) I.ok.mod.kin hk (thn (ha.run pos pins s σ H _ I h) fun us s1 ⟨vs, H1, I1, r, q⟩ => ⟨I1.kIn, ?_⟩) he hpl
  exact run_fnG F hr hgd rfl hb hx I1 r (by simpa using q)
theorem pe_callG0 {X : Cx} {CX : CXT} {k : Nat} {f : Addr} {fd : FuncData} {ps : List Str} {sp : Sp} {E : XK} {x : Str} {p pos : Pos} (F : FnG X.prog X.w X.K X.mg X.base CX k f fd ps sp) (hr : Room k X.A) (hgd : X.A.guards = some []) (hg : Gl X x) (hm : X.mg x = some (.ref f)) (hk : PySem.W.keepIn X.K (.ref f) = true) (hb : Binds X.K fd ps []) (hx : Passes CX X E)
    (hdb : (x == ("__debug__" : Str)) = false := by decide) : PE X (.Call (.Name x p) [] [] pos) (tCall sp [] E tNil) := by
  refine ⟨fun pins s σ H Q I h => ?_⟩
  refine wpAny_Call_Name_kw (ld_glob I hg hm ?_ hdb)
  exact PySem.W.callWith_K0 I.kIn hk (run_fnG (us := []) F hr hgd rfl hb hx I .nil h)

variable {X : Cx} {G : Gm W} {E : XK} {CX : CXT} {ρ : Rho} {w w' : W} {σ : L2.St} {H F : Hp}
/-- behind a call -/
theorem Out.gr {H' F' : Hp} (o : Out G.O H F w' H' F') : Gr G H F H' F' := ⟨o.same, o.keep, o.nof⟩
theorem Out.sd {H' F' : Hp} (S : Sd X.K G ρ w σ H F) (o : Out G.O H F w' H' F') : Sd X.K G ρ w' σ H' F' := S.grown o.gr o.sub o.wok o.dF
theorem spF.of {n : Nat} {Fn : List T → M W T} {vs : List V} {ts : List T} {r : R T} {Q : VK} (S : Sd X.K G ρ w σ H F) (rs : Reps X.K F vs ts) (hn : ts.length = n) (e : Fn ts w = some (r, w'))
    (ok : ∀ t, r = .ok t → ∀ v H' F', Sd X.K G ρ w' σ H' F' → Gr G H F H' F' → Rep X.K F' v t → Q v H') (er : ∀ e, r = .er e → AccE X.K G E F e w') : spF X.K n Fn vs H Q E := by
  refine ⟨G.O, F, ts, w, r, w', by rw [rs.length]; exact hn, S.sub, S.wok, S.dF, rs, e, ?_⟩
  cases r with
  | ok t => exact fun v H' F' o rv => ok t rfl v H' F' (o.sd S) o.gr rv
  | er e' => exact fun d H' F' o ea => er e' rfl d H' F' ρ σ (o.sd S) o.same ea
def fCall (n : Nat) (fa : Rho → M W (List T)) (Fn : List T → M W T) : Rho → M W T := fun ρ => bnd (fa ρ) fun ts => if ts.length = n then Fn ts else stuck
section
variable {k j n : Nat} {x : Str} {e : Expr} {es : List Expr} {fa : Rho → M W (List T)} {Fn : List T → M W T} {p pos : Pos}
theorem pv_call (D : DefOk CX X.prog X.w X.K X.mg X.base k x n Fn) (hr : Room j X.A) (hgd : X.A.guards = some []) (hk : k ≤ j) (hg : Gl X x) (hx : Passes CX X E) (ha : PAs X G E (e :: es) fa)
    (hdb : (x == ("__debug__" : Str)) = false := by decide) (he : starEach (e :: es) X.env = (false, eval e X.env) :: starEach es X.env := by rfl) (hpl : (backTo pos (starEach es X.env)).any (·.1) = false := by rfl) :
    PV X G E (.Call (.Name x p) (e :: es) [] pos) (fCall n fa Fn) := by
  obtain ⟨f, fd, ps, hF, hm, hkp, hb⟩ := D.ex
  refine ⟨(pe_callG hF (hr.mono hk) hgd hg hm hkp hb hx ha.run hdb he hpl).imp fun σ H Q => ?_⟩
  rintro ⟨ρ, w, F, r, w', S, hf, acc⟩
  refine tA.bind (X := X) S hf acc.er fun ts w1 vs H1 F1 S1 s1 r1 hk => ?_
  split at hk
  · rename_i hl
    rw [List.append_nil]
    exact spF.of S1 r1 hl hk (fun t ht v H' F' S' s' rv => by subst ht; exact acc v H' F' S' (s1.trans s' S1.dH) rv) (acc.mono s1 S1.dH).er
  · cases hk
theorem pv_call0 (D : DefOk CX X.prog X.w X.K X.mg X.base k x 0 Fn) (hr : Room j X.A) (hgd : X.A.guards = some []) (hk : k ≤ j) (hg : Gl X x) (hx : Passes CX X E) (hdb : (x == ("__debug__" : Str)) = false := by decide) :
    PV X G E (.Call (.Name x p) [] [] pos) (fCall 0 aNil Fn) := by
  obtain ⟨f, fd, ps, hF, hm, hkp, hb⟩ := D.ex
  refine ⟨(pe_callG0 hF (hr.mono hk) hgd hg hm hkp hb hx hdb).imp fun σ H Q => ?_⟩
  rintro ⟨ρ, w, F, r, w', S, hf, acc⟩
  exact spF.of S .nil rfl hf (fun t ht v H' F' S' s' rv => by subst ht; exact acc v H' F' S' s' rv) acc.er
end

/-! ### a body -/
/-- what a body gives for its arguments; m: how many names it has besides -/
def run (m : Nat) (g : Rho → M W Fl) : List T → M W T := fun ts => bnd (g (ts.map Sl.fz ++ List.replicate m Sl.un)) fun fl => match fl with
  | .nx _ => ret .non
  | .rt t => ret t
  | _ => stuck
theorem Sd.start {K : PySem.W.Frag} {O : Wd W} {vs : List V} {ts : List T} {N : List Str} (sub : Same F H) (wok : O.ok H w) (dF : ∀ b, O.D b → F b = none) (r : Reps K F vs ts) (hN : ts.length ≤ N.length) :
    Sd K ⟨O, H, F⟩ (ts.map Sl.fz ++ List.replicate (N.length - ts.length) Sl.un) w (L2.start N vs) H F := by
  have slot : ∀ (i : Nat) (s : Sl), (ts.map Sl.fz ++ List.replicate (N.length - ts.length) Sl.un)[i]? = some s → (∃ t, s = .fz t ∧ ts[i]? = some t) ∨ s = .un := by
    intro i s hs
    by_cases hi : i < ts.length
    · rw [List.getElem?_append_left (by simpa using hi), List.getElem?_map] at hs
      cases e : ts[i]? with
      | none => rw [e] at hs; cases hs
      | some t => rw [e] at hs; cases hs; exact .inl ⟨t, rfl, rfl⟩
    · rw [List.getElem?_append_right (by simpa using hi), List.getElem?_replicate] at hs
      split at hs
      · cases hs; exact .inr rfl
      · cases hs
  refine ⟨sub, wok, dF, fun b d => O.live wok d, fun b o e _ => e, Same.refl F, fun _ _ => rfl, fun i s hs => ?_, fun i j s t hs _ ho => ?_, ?_⟩
  · rcases slot i s hs with ⟨t, rfl, ht⟩ | rfl
    · obtain ⟨v, hv, rv⟩ := r.get ht
      refine ⟨v, ?_, rv⟩
      unfold L2.start
      have hi : i < vs.length := (List.getElem?_eq_some_iff.mp hv).1
      rw [List.getElem?_append_left (by simpa using hi), List.getElem?_map, hv]
      rfl
    · trivial
  · rcases slot i s hs with ⟨t, rfl, _⟩ | rfl <;> cases ho
  · unfold L2.start
    simp only [List.length_append, List.length_map, List.length_replicate]
    have := r.length
    omega
/-- the def's body read at its entry -/
theorem spF.body {n m : Nat} {N : List Str} {g : Rho → M W Fl} {vs : List V} {Q : VK} (h : spF X.K n (run m g) vs H Q E) (hN : N.length = n + m) :
    ∃ (G : Gm W), tS X.K G E g { nx := fun _ H' => Q .non H', rt := Q } (L2.start N vs) H := by
  obtain ⟨O, F, ts, w, r, w', hl, sub, wok, dF, rs, e, acc⟩ := h
  have hts : ts.length = n := by rw [← rs.length]; exact hl
  have S := Sd.start (K := X.K) (N := N) sub wok dF rs (by omega)
  have hm : N.length - ts.length = m := by omega
  rw [hm] at S
  refine ⟨⟨O, H, F⟩, ts.map Sl.fz ++ List.replicate m Sl.un, w, F, ?_⟩
  have out : ∀ {ρ' : Rho} {σ' : L2.St} {H' F' : Hp} {w' : W}, Sd X.K ⟨O, H, F⟩ ρ' w' σ' H' F' → Same F F' → Out O H F w' H' F' := fun S' s' => ⟨S'.sub, s', S'.old, S'.keep, S'.wok, S'.dF⟩
  rcases bnd_inv e with ⟨fl, w1, h1, h2⟩ | ⟨er, h1, rfl⟩
  · refine ⟨.ok fl, w1, S, h1, ?_⟩
    cases fl with
    | nx ρ' =>
      obtain ⟨rfl, rfl⟩ := ret_inv h2
      exact fun σ' H' F' S' s' => acc _ H' F' (out S' s') .non
    | rt t =>
      obtain ⟨rfl, rfl⟩ := ret_inv h2
      exact fun v ρ' σ' H' F' S' s' rv => acc v H' F' (out S' s') rv
    | bk ρ' => cases h2
    | ct ρ' => cases h2
  · exact ⟨.er er, w', S, h1, fun d H' F' ρ' σ' S' s' ea => acc d H' F' (out S' s') ea⟩

/-! ### statements -/
def seqD (g h : Rho → M W Fl) : Rho → M W Fl := fun ρ => bnd (g ρ) fun fl => match fl with
  | .nx ρ' => h ρ'
  | o => ret o
variable {st : Stmt} {sts : List Stmt} {g h : Rho → M W Fl} {pos : Pos}
theorem pds_nil : PDs X G E [] fun ρ => ret (.nx ρ) := ⟨pss_nil.imp fun D σ H => by
  rintro ⟨ρ, w, F, r, w', S, hf, acc⟩
  obtain ⟨rfl, rfl⟩ := ret_inv hf
  exact acc σ H F S (Same.refl F)⟩
theorem pds_one (h1 : PD X G E st g) : PDs X G E [st] g := ⟨pss_one h1.run⟩
theorem tS.seq {D : Ends} : tS X.K G E (seqD g h) D σ H → tS X.K G E g { D with nx := tS X.K G E h D } σ H := by
  rintro ⟨ρ, w, F, r, w', S, hf, acc⟩
  rcases bnd_inv hf with ⟨fl, w1, h1, h2⟩ | ⟨er, h1, rfl⟩
  · refine ⟨ρ, w, F, .ok fl, w1, S, h1, ?_⟩
    cases fl with
    | nx ρ' => exact fun σ' H' F' S' s' => ⟨ρ', w1, F', r, w', S', h2, AccD.mono (X := X) acc s'⟩
    | rt t => obtain ⟨rfl, rfl⟩ := ret_inv h2; exact acc
    | bk ρ' => obtain ⟨rfl, rfl⟩ := ret_inv h2; exact acc
    | ct ρ' => obtain ⟨rfl, rfl⟩ := ret_inv h2; exact acc
  · exact ⟨ρ, w, F, .er er, w', S, h1, acc⟩
theorem pds_cons (h1 : PD X G E st g) (h2 : PDs X G E sts h) : PDs X G E (st :: sts) (seqD g h) := ⟨(pss_cons h1.run h2.run).imp fun D σ H q => tS.seq q⟩
/-- code that is not come to -/
theorem pd_never : PD X G E st fun _ => stuck := ⟨ps_never.imp fun D σ H => by
  rintro ⟨ρ, w, F, r, w', S, hf, acc⟩
  cases hf⟩
theorem pds_never : PDs X G E sts fun _ => stuck := ⟨pss_never.imp fun D σ H => by
  rintro ⟨ρ, w, F, r, w', S, hf, acc⟩
  cases hf⟩
theorem pd_pass : PD X G E (.Pass pos) fun ρ => ret (.nx ρ) := ⟨ps_pass.imp fun D σ H => by
  rintro ⟨ρ, w, F, r, w', S, hf, acc⟩
  obtain ⟨rfl, rfl⟩ := ret_inv hf
  exact acc σ H F S (Same.refl F)⟩
theorem pd_break : PD X G E (.Break pos) fun ρ => ret (.bk ρ) := ⟨ps_break.imp fun D σ H => by
  rintro ⟨ρ, w, F, r, w', S, hf, acc⟩
  obtain ⟨rfl, rfl⟩ := ret_inv hf
  exact acc σ H F S (Same.refl F)⟩
theorem pd_continue : PD X G E (.Continue pos) fun ρ => ret (.ct ρ) := ⟨ps_continue.imp fun D σ H => by
  rintro ⟨ρ, w, F, r, w', S, hf, acc⟩
  obtain ⟨rfl, rfl⟩ := ret_inv hf
  exact acc σ H F S (Same.refl F)⟩
section
variable {e c : Expr} {fa : Rho → M W T} {gc : Rho → M W Bool} {sa sb : List Stmt}
def dRet (fa : Rho → M W T) : Rho → M W Fl := fun ρ => bnd (fa ρ) fun t => ret (.rt t)
theorem pd_ret (ha : PV X G E e fa) : PD X G E (.Return (some e) pos) (dRet fa) := ⟨(ps_ret ha.run).imp fun D σ H => by
  rintro ⟨ρ, w, F, r, w', S, hf, acc⟩
  refine tV.bind (X := X) S hf acc.er fun t w1 x H1 F1 S1 s1 r1 hk => ?_
  obtain ⟨rfl, rfl⟩ := ret_inv hk
  exact acc x ρ σ H1 F1 S1 s1.same r1⟩
theorem pd_retN : PD X G E (.Return none pos) fun _ => ret (.rt .non) := ⟨ps_retN.imp fun D σ H => by
  rintro ⟨ρ, w, F, r, w', S, hf, acc⟩
  obtain ⟨rfl, rfl⟩ := ret_inv hf
  exact acc .non ρ σ H F S (Same.refl F) .non⟩
def dExpr (fa : Rho → M W T) : Rho → M W Fl := fun ρ => bnd (fa ρ) fun _ => ret (.nx ρ)
theorem pd_expr (ha : PV X G E e fa) (hs : swapsWith e none pos.line X.env = pure false := by rfl) : PD X G E (.Expr e pos) (dExpr fa) := ⟨(ps_expr ha.run hs).imp fun D σ H => by
  rintro ⟨ρ, w, F, r, w', S, hf, acc⟩
  refine tV.bind (X := X) S hf acc.er fun t w1 x H1 F1 S1 s1 r1 hk => ?_
  obtain ⟨rfl, rfl⟩ := ret_inv hk
  exact acc σ H1 F1 S1 s1.same⟩
def dIf (gc : Rho → M W Bool) (g h : Rho → M W Fl) : Rho → M W Fl := fun ρ => bnd (gc ρ) fun b => if b = true then g ρ else h ρ
theorem pd_if (hc : PB X G E c gc) (ha : PDs X G E sa g) (hb : PDs X G E sb h) : PD X G E (.If c sa sb pos) (dIf gc g h) := ⟨(ps_if hc.run ha.run hb.run).imp fun D σ H => by
  rintro ⟨ρ, w, F, r, w', S, hf, acc⟩
  refine tT.bind (X := X) S hf acc.er fun b w1 H1 F1 S1 s1 hk => ?_
  cases b with
  | true => exact ⟨ρ, w1, F1, r, w', S1, hk, AccD.mono (X := X) acc s1.same⟩
  | false => exact ⟨ρ, w1, F1, r, w', S1, hk, AccD.mono (X := X) acc s1.same⟩⟩
end
end
end PL

/-! PLf: stores, lists of the body's own, loops, comprehensions. -/
namespace PL
open PySem PySem.Spec PyProof.Rows L2
section
variable {W : Type} {X : Cx} {G : Gm W} {E : XK} {ρ : Rho} {w w' : W} {σ : L2.St} {H F : Hp}

/-- what can be stored in a slot -/
def Rdy (K : PySem.W.Frag) (G : Gm W) (ρ : Rho) (σ : L2.St) (H F : Hp) (v : V) : Sl → Prop
  | .un => False
  | .fz t => Rep K F v t
  | .ow ts => ∃ p vs, v = .ref p ∧ H p = some (.lst vs) ∧ F p = none ∧ G.B p = none ∧ (∀ (i : Nat) (s : Sl), ρ[i]? = some s → s.owns = true → σ[i]? ≠ some (some (V.ref p))) ∧ Reps K F vs ts
  | .od ks ts => ∃ p vs, v = .ref p ∧ H p = some (.dK (ks.zip vs)) ∧ ks.length = vs.length ∧ F p = none ∧ G.B p = none ∧ (∀ (i : Nat) (s : Sl), ρ[i]? = some s → s.owns = true → σ[i]? ≠ some (some (V.ref p))) ∧ Reps K F vs ts
theorem Sd.ndB {K : PySem.W.Frag} (S : Sd K G ρ w σ H F) {p : Addr} (h : G.B p = none) : ¬ G.O.D p := fun d => S.dB p d h
theorem Rdy.later {K : PySem.W.Frag} {v : V} {s : Sl} {H' F' : Hp} (S : Sd K G ρ w σ H F) (g : Gr G H F H' F') (h : Rdy K G ρ σ H F v s) : Rdy K G ρ σ H' F' v s := by
  cases s with
  | un => exact h
  | fz t => exact Rep.mono g.same h
  | ow ts =>
    obtain ⟨p, vs, e, h1, h2, h3, h4, r⟩ := h
    exact ⟨p, vs, e, g.keep p _ h1 (S.ndB h3), by rw [g.nof p (by rw [h1]; simp)]; exact h2, h3, h4, r.mono g.same⟩
  | od ks ts =>
    obtain ⟨p, vs, e, h1, hl, h2, h3, h4, r⟩ := h
    exact ⟨p, vs, e, g.keep p _ h1 (S.ndB h3), hl, by rw [g.nof p (by rw [h1]; simp)]; exact h2, h3, h4, r.mono g.same⟩
theorem getElem?_set' {α : Type} {l : List α} {i j : Nat} {x y : α} (h : (l.set i x)[j]? = some y) : (i = j ∧ y = x) ∨ (i ≠ j ∧ l[j]? = some y) := by
  by_cases e : i = j
  · subst e
    by_cases hi : i < l.length
    · rw [List.getElem?_set_self hi] at h; cases h; exact .inl ⟨rfl, rfl⟩
    · rw [List.getElem?_eq_none (by simpa using hi)] at h; cases h
  · rw [List.getElem?_set_ne e] at h; exact .inr ⟨e, h⟩
theorem Sd.set {K : PySem.W.Frag} {v : V} {s : Sl} (S : Sd K G ρ w σ H F) (h : Rdy K G ρ σ H F v s) (i : Nat) : Sd K G (ρ.set i s) w (σ.set i (some v)) H F := by
  have own : ∀ (p : Addr), s.owns = true → v = .ref p → ∀ (j : Nat) (t : Sl), ρ[j]? = some t → t.owns = true → σ[j]? ≠ some (some (V.ref p)) := by
    intro p ho e j t hj hto
    cases s with
    | un => cases ho
    | fz t => cases ho
    | ow ts => obtain ⟨q, vs, e2, _, _, _, h4, _⟩ := h; rw [e] at e2; cases e2; exact h4 j t hj hto
    | od ks ts => obtain ⟨q, vs, e2, _, _, _, _, h4, _⟩ := h; rw [e] at e2; cases e2; exact h4 j t hj hto
  have isref : s.owns = true → ∃ p, v = .ref p := by
    intro ho
    cases s with
    | un => cases ho
    | fz t => cases ho
    | ow ts => obtain ⟨q, _, e2, _⟩ := h; exact ⟨q, e2⟩
    | od ks ts => obtain ⟨q, _, e2, _⟩ := h; exact ⟨q, e2⟩
  refine ⟨S.sub, S.wok, S.dF, S.dB, S.keep, S.grow, S.old, fun j t hj => ?_, fun j k t u hj hk ht hu e => ?_, by simp [S.len]⟩
  · rcases getElem?_set' hj with ⟨rfl, rfl⟩ | ⟨ne, hj⟩
    · have hi : i < σ.length := by
        rw [S.len]
        have := (List.getElem?_eq_some_iff.mp hj).1
        simpa using this
      have hs : (σ.set i (some v))[i]? = some (some v) := List.getElem?_set_self hi
      cases t with
      | un => trivial
      | fz t => exact ⟨v, hs, h⟩
      | ow ts => obtain ⟨p, vs, rfl, h1, h2, h3, _, r⟩ := h; exact ⟨p, vs, hs, h1, h2, h3, r⟩
      | od ks ts => obtain ⟨p, vs, rfl, h1, hl, h2, h3, _, r⟩ := h; exact ⟨p, vs, hs, h1, hl, h2, h3, r⟩
    · have q := S.slots j t hj
      have hs : (σ.set i (some v))[j]? = σ[j]? := List.getElem?_set_ne ne
      cases t with
      | un => trivial
      | fz t => obtain ⟨v', e, r⟩ := q; exact ⟨v', by rw [hs]; exact e, r⟩
      | ow ts => obtain ⟨p, vs, e, r⟩ := q; exact ⟨p, vs, by rw [hs]; exact e, r⟩
      | od ks ts => obtain ⟨p, vs, e, r⟩ := q; exact ⟨p, vs, by rw [hs]; exact e, r⟩
  · have hlen : ∀ {k : Nat} {u : Sl}, ρ[k]? = some u → k < σ.length := fun {k u} z => by rw [S.len]; exact (List.getElem?_eq_some_iff.mp z).1
    rcases getElem?_set' hj with ⟨rfl, rfl⟩ | ⟨nj, hj2⟩ <;> rcases getElem?_set' hk with ⟨rfl, rfl⟩ | ⟨nk, hk2⟩
    · rfl
    · exfalso
      have hi : i < σ.length := by
        rw [S.len]
        have := (List.getElem?_eq_some_iff.mp ‹(ρ.set i t)[i]? = some t›).1
        simpa using this
      rw [List.getElem?_set_self hi, List.getElem?_set_ne nk] at e
      obtain ⟨p, rfl⟩ := isref ht
      exact own p ht rfl k u hk2 hu e.symm
    · exfalso
      have hi : i < σ.length := by
        rw [S.len]
        have := (List.getElem?_eq_some_iff.mp ‹(ρ.set i u)[i]? = some u›).1
        simpa using this
      rw [List.getElem?_set_self hi, List.getElem?_set_ne nj] at e
      obtain ⟨p, rfl⟩ := isref hu
      exact own p hu rfl j t hj2 ht e
    · rw [List.getElem?_set_ne nj, List.getElem?_set_ne nk] at e
      exact S.apart j k t u hj2 hk2 ht hu e

/-! ### what is stored -/
def AccX (K : PySem.W.Frag) (G : Gm W) (E : XK) (ρ : Rho) (σ : L2.St) (H F : Hp) (Q : VK) (r : R Sl) (w' : W) : Prop := match r with
  | .ok s => ∀ v H' F', Sd K G ρ w' σ H' F' → Gr G H F H' F' → (∀ p, s.owns = true → v = .ref p → H p = none) → Rdy K G ρ σ H' F' v s → Q v H'
  | .er e => AccE K G E F e w'
def tX (K : PySem.W.Frag) (G : Gm W) (E : XK) (f : Rho → M W Sl) : TE := fun σ H Q => ∃ ρ w F r w', Sd K G ρ w σ H F ∧ f ρ w = some (r, w') ∧ AccX K G E ρ σ H F Q r w'
structure PX (X : Cx) (G : Gm W) (E : XK) (e : Expr) (f : Rho → M W Sl) : Prop where
  run : PE X e (tX X.K G E f)
theorem AccX.er {Q : VK} {r : R Sl} (h : AccX X.K G E ρ σ H F Q r w') : ∀ e, r = .er e → AccE X.K G E F e w' := fun e q => by subst q; exact h
theorem tX.bind {β : Type} {f : Rho → M W Sl} {k : Sl → M W β} {r : R β} {Q : VK} (S : Sd X.K G ρ w σ H F) (e : bnd (f ρ) k w = some (r, w'))
    (er : ∀ e, r = .er e → AccE X.K G E F e w')
    (kk : ∀ s w1 v H1 F1, Sd X.K G ρ w1 σ H1 F1 → Gr G H F H1 F1 → (∀ p, s.owns = true → v = .ref p → H p = none) → Rdy X.K G ρ σ H1 F1 v s → k s w1 = some (r, w') → Q v H1) : tX X.K G E f σ H Q := by
  rcases bnd_inv e with ⟨a, w1, h1, h2⟩ | ⟨e', h1, rfl⟩
  · exact ⟨ρ, w, F, .ok a, w1, S, h1, fun v H1 F1 S1 s1 r1 r2 => kk a w1 v H1 F1 S1 s1 r1 r2 h2⟩
  · exact ⟨ρ, w, F, .er e', w', S, h1, er e' rfl⟩
section
variable {e : Expr} {fa : Rho → M W T} {fl : Rho → M W (List T)} {fx fy fz' : Rho → M W Sl} {pos : Pos}
def xFz (fa : Rho → M W T) : Rho → M W Sl := fun ρ => bnd (fa ρ) fun t => ret (.fz t)
def xOw (fl : Rho → M W (List T)) : Rho → M W Sl := fun ρ => bnd (fl ρ) fun ts => ret (.ow ts)
def xOd : Rho → M W Sl := fun _ => ret (.od [] [])
theorem px_fz (h : PV X G E e fa) : PX X G E e (xFz fa) := ⟨h.run.imp fun σ H Q => by
  rintro ⟨ρ, w, F, r, w', S, hf, acc⟩
  refine tV.bind (X := X) S hf acc.er fun t w1 x H1 F1 S1 s1 r1 hk => ?_
  obtain ⟨rfl, rfl⟩ := ret_inv hk
  exact acc x H1 F1 S1 s1 (fun _ z => nomatch z) r1⟩
theorem px_ow (h : PF X G E e fl) : PX X G E e (xOw fl) := ⟨h.run.imp fun σ H Q => by
  rintro ⟨ρ, w, F, r, w', S, hf, acc⟩
  refine tF.bind (X := X) S hf acc.er fun ts w1 p vs H1 F1 S1 s1 h0 h1 h2 h3 h4 h5 hk => ?_
  obtain ⟨rfl, rfl⟩ := ret_inv hk
  exact acc (.ref p) H1 F1 S1 s1 (fun q _ z => by cases z; exact h0) ⟨p, vs, rfl, h1, h2, h3, h4, h5⟩⟩
theorem px_od : PX X G E (.Dict [] [] pos) xOd := ⟨pe_dnewK.imp fun σ H Q => by
  rintro ⟨ρ, w, F, r, w', S, hf, acc⟩
  obtain ⟨rfl, rfl⟩ := ret_inv hf
  intro p hp
  refine acc (.ref p) _ F (S.laid hp) (.laid hp) (fun q _ z => by cases z; exact hp) ⟨p, [], rfl, upd_same, rfl, S.sub.free hp, (S.fresh hp).2.1, S.noSlot hp, .nil⟩⟩
def dSet (i : Nat) (fx : Rho → M W Sl) : Rho → M W Fl := fun ρ => bnd (fx ρ) fun s => ret (.nx (ρ.set i s))
theorem pd_set (i : Nat) {x : Str} {pos' : Pos} (he : PX X G E e fx) (hN : X.N.Nodup) (hi : X.N[i]? = some x) (hx : Loc X.env.scope x) (hs : swapsWith e (some (.Name x pos')) pos.line X.env = pure false := by rfl)
    (hf : X.fn x = true ∨ X.env.scope.names.lookup x = some .local := by first | exact .inl rfl | exact .inr rfl | assumption) : PD X G E (.Assign [.Name x pos'] e pos) (dSet i fx) := ⟨(ps_set hN hi hx he.run hs hf).imp fun D σ H => by
  rintro ⟨ρ, w, F, r, w', S, hf, acc⟩
  refine tX.bind (X := X) S hf acc.er fun s w1 v H1 F1 S1 s1 r0 r1 hk => ?_
  obtain ⟨rfl, rfl⟩ := ret_inv hk
  exact acc _ H1 F1 (S1.set r1 i) s1.same⟩
/-- a, b = x, y -/
def dPar (i j : Nat) (fx fy : Rho → M W Sl) : Rho → M W Fl := fun ρ => bnd (fx ρ) fun s => bnd (fy ρ) fun t => ret (.nx ((ρ.set i s).set j t))
theorem Rdy.behind {K : PySem.W.Frag} {v u : V} {s t : Sl} {i : Nat} (S : Sd K G ρ w σ H F) (h : Rdy K G ρ σ H F u t) (apart : ∀ p, t.owns = true → s.owns = true → u = .ref p → v ≠ .ref p) : Rdy K G (ρ.set i s) (σ.set i (some v)) H F u t := by
  have key : ∀ p, t.owns = true → u = .ref p → (∀ (k : Nat) (z : Sl), ρ[k]? = some z → z.owns = true → σ[k]? ≠ some (some (V.ref p))) → ∀ (k : Nat) (z : Sl), (ρ.set i s)[k]? = some z → z.owns = true → (σ.set i (some v))[k]? ≠ some (some (V.ref p)) := by
    intro p ht hu old k z hk hz e
    rcases getElem?_set' hk with ⟨rfl, rfl⟩ | ⟨ne, hk⟩
    · have hi : i < σ.length := by
        rw [S.len]
        have := (List.getElem?_eq_some_iff.mp hk).1
        simpa using this
      rw [List.getElem?_set_self hi] at e
      cases e
      exact apart p ht hz hu rfl
    · rw [List.getElem?_set_ne ne] at e
      exact old k z hk hz e
  cases t with
  | un => exact h
  | fz t => exact h
  | ow ts =>
    obtain ⟨p, vs, e, h1, h2, h3, h4, r⟩ := h
    exact ⟨p, vs, e, h1, h2, h3, key p rfl e h4, r⟩
  | od ks ts =>
    obtain ⟨p, vs, e, h1, hl, h2, h3, h4, r⟩ := h
    exact ⟨p, vs, e, h1, hl, h2, h3, key p rfl e h4, r⟩
theorem Rdy.there {K : PySem.W.Frag} {v : V} {s : Sl} {p : Addr} (h : Rdy K G ρ σ H F v s) (ho : s.owns = true) (e : v = .ref p) : H p ≠ none := by
  cases s with
  | un => cases ho
  | fz t => cases ho
  | ow ts => obtain ⟨q, vs, e2, h1, _⟩ := h; rw [e] at e2; cases e2; rw [h1]; simp
  | od ks ts => obtain ⟨q, vs, e2, h1, _⟩ := h; rw [e] at e2; cases e2; rw [h1]; simp
theorem pd_par (i j : Nat) {x y : Str} {a b : Expr} {px py pt : Pos} {kt k2 pt2} (ha : PX X G E a fx) (hb : PX X G E b fy) (hc : X.calm = true) (hN : X.N.Nodup) (hi : X.N[i]? = some x) (hj : X.N[j]? = some y) (hij : i ≠ j)
    (hx : X.env.scope.names.lookup x = some .local) (hy : X.env.scope.names.lookup y = some .local)
    (hw : swappedStores [.Tuple [.Name x px, .Name y py] kt pt] (.Tuple [a, b] k2 pt2) X.env = pure (some [x, y]))
    (hs : swapsWithSole [.Tuple [.Name x px, .Name y py] kt pt] (.Tuple [a, b] k2 pt2) pos.line X.env = pure false := by rfl)
    (h1 : starEach [a, b] X.env = (false, eval a X.env) :: starEach [b] X.env := by rfl) (h2 : starEach [b] X.env = (false, eval b X.env) :: starEach [] X.env := by rfl) :
    PD X G E (.Assign [.Tuple [.Name x px, .Name y py] kt pt] (.Tuple [a, b] k2 pt2) pos) (dPar i j fx fy) := ⟨(ps_par hc hN hi hj hij hx hy (pa_cons ha.run (pa_cons hb.run pa_nil h2) h1) hw hs).imp fun D σ H => by
  rintro ⟨ρ, w, F, r, w', S, hf, acc⟩
  refine tX.bind (X := X) S hf acc.er fun s w1 v H1 F1 S1 s1 n1 r1 hk => ?_
  refine tX.bind (X := X) S1 hk (AccD.mono (X := X) acc s1.same).er fun t w2 u H2 F2 S2 s2 n2 r2 hk2 => ?_
  obtain ⟨rfl, rfl⟩ := ret_inv hk2
  refine ⟨v, u, rfl, acc _ H2 F2 ?_ (s1.same.trans s2.same)⟩
  have r1' := r1.later S1 s2
  refine (S2.set r1' i).set (Rdy.behind S2 r2 fun p ht hso hu hv => ?_) j
  exact r1.there hso hv (n2 p ht hu)⟩
end

/-! ### a list of the body's own, changed -/
theorem Sd.putL {K : PySem.W.Frag} {i : Nat} {ts us : List T} {p : Addr} {vs zs : List V} (S : Sd K G ρ w σ H F) (hi : ρ[i]? = some (.ow ts)) (hv : σ[i]? = some (some (.ref p))) (hp : H p = some (.lst vs)) (r : Reps K F zs us) :
    Sd K G (ρ.set i (.ow us)) w σ (upd H p (.lst zs)) F := by
  obtain ⟨p', vs', e', h1, h2, h3, _⟩ := S.slots i _ hi
  rw [hv] at e'; cases e'
  have nd := S.ndB h3
  have ne : ∀ b o, F b = some o → b ≠ p := fun b o e z => by subst z; rw [h2] at e; cases e
  have hil : i < ρ.length := (List.getElem?_eq_some_iff.mp hi).1
  refine ⟨fun b o e => by rw [upd_ne (ne b o e)]; exact S.sub b o e, G.O.stay S.wok fun b db => upd_ne (neq_of nd db), S.dF, S.dB, fun b o e d => ?_, S.grow, S.old, fun j s hj => ?_, fun j k s t hj hk hs ht e => ?_, by simp [S.len]⟩
  · rw [upd_ne (fun z => by subst z; rw [h3] at e; cases e)]; exact S.keep b o e d
  · rcases getElem?_set' hj with ⟨rfl, rfl⟩ | ⟨nj, hj⟩
    · exact ⟨p, zs, hv, upd_same, h2, h3, r⟩
    · have q := S.slots j s hj
      have np : ∀ p', s.owns = true → σ[j]? = some (some (.ref p')) → p' ≠ p := fun p' ho e z => by
        subst z
        exact nj (S.apart i j _ s hi hj rfl ho (by rw [hv, e]))
      cases s with
      | un => trivial
      | fz t => exact q
      | ow ts' =>
        obtain ⟨p', vs', e, q1, q2⟩ := q
        exact ⟨p', vs', e, by rw [upd_ne (np p' rfl e)]; exact q1, q2⟩
      | od ks' ts' =>
        obtain ⟨p', vs', e, q1, q2⟩ := q
        exact ⟨p', vs', e, by rw [upd_ne (np p' rfl e)]; exact q1, q2⟩
  · have old : ∀ {j : Nat} {s : Sl}, (ρ.set i (.ow us))[j]? = some s → s.owns = true → ∃ s', ρ[j]? = some s' ∧ s'.owns = true := fun {j s} hj hs => by
      rcases getElem?_set' hj with ⟨rfl, rfl⟩ | ⟨_, hj⟩
      · exact ⟨_, hi, rfl⟩
      · exact ⟨s, hj, hs⟩
    obtain ⟨s', a1, a2⟩ := old hj hs
    obtain ⟨t', b1, b2⟩ := old hk ht
    exact S.apart j k s' t' a1 b1 a2 b2 e
def owM {β : Type} (i : Nat) (ρ : Rho) (k : List T → M W β) : M W β := match ρ[i]? with
  | some (.ow ts) => k ts
  | _ => stuck
theorem owM_inv {β : Type} {i : Nat} {k : List T → M W β} {r : R β} (h : owM i ρ k w = some (r, w')) : ∃ ts, ρ[i]? = some (.ow ts) ∧ k ts w = some (r, w') := by
  unfold owM at h
  cases e : ρ[i]? with
  | none => rw [e] at h; cases h
  | some s =>
    rw [e] at h
    cases s with
    | ow ts => exact ⟨ts, rfl, h⟩
    | un => cases h
    | fz t => cases h
    | od ks ts => cases h
theorem Sd.own {K : PySem.W.Frag} {i : Nat} {ts : List T} (S : Sd K G ρ w σ H F) (h : ρ[i]? = some (.ow ts)) : ∃ p vs, σ[i]? = some (some (.ref p)) ∧ H p = some (.lst vs) ∧ F p = none ∧ G.B p = none ∧ Reps K F vs ts := S.slots i _ h
section
variable {e : Expr} {fa : Rho → M W T} {pos : Pos}
/-- x.append(e) -/
def dAppend (i : Nat) (fa : Rho → M W T) : Rho → M W Fl := fun ρ => owM i ρ fun ts => bnd (fa ρ) fun t => if ts.length < sizeLine then ret (.nx (ρ.set i (.ow (ts ++ [t])))) else stuck
theorem pd_append (i : Nat) {x : Str} {px ap cp : Pos} (ha : PV X G E e fa) (hN : X.N[i]? = some x) (hv : Vis X.env.scope x)
    (hs : swapsWith (.Call (.Attribute (.Name x px) "append" ap) [e] [] cp) none pos.line X.env = pure false := by rfl) (hst : starEach [e] X.env = (false, eval e X.env) :: starEach [] X.env := by rfl)
    (hpe : ∀ {te : TE}, PE X e te → PE X (.Call (.Attribute (.Name x px) "append" ap) [e] [] cp) (tBM X.K "list" rAppend (tVar i) (tCons te tNil))) :
    PD X G E (.Expr (.Call (.Attribute (.Name x px) "append" ap) [e] [] cp) pos) (dAppend i fa) := ⟨(ps_expr (hpe ha.run) hs).imp fun D σ H => by
  rintro ⟨ρ, w, F, r, w', S, hf, acc⟩
  obtain ⟨ts, hi, hf⟩ := owM_inv hf
  obtain ⟨p, vs, h0, h1, h2, h3, rv⟩ := S.own hi
  refine ⟨.ref p, h0, .inl ⟨rfl, vs, .of h1⟩, ?_⟩
  refine tV.bind (X := X) S hf acc.er fun t w1 y H1 F1 S1 s1 r1 hk => ?_
  split at hk
  · rename_i hl
    obtain ⟨rfl, rfl⟩ := ret_inv hk
    have h1' : H1 p = some (.lst vs) := s1.keep p _ h1 (S.ndB h3)
    exact ⟨p, vs, y, rfl, rfl, h1', by rw [rv.length]; exact hl, acc _ _ F1 (S1.putL hi h0 h1' ((rv.mono s1.same).append (.one r1))) s1.same⟩
  · cases hk⟩
/-- x.extend(e) -/
def lstM (t : T) : M W (List T) := match t with
  | .lst ts => ret ts
  | _ => stuck
theorem lstM_bnd {β : Type} {t : T} {k : List T → M W β} {r : R β} (h : bnd (lstM t) k w = some (r, w')) : ∃ ts, t = .lst ts ∧ k ts w = some (r, w') := by
  cases t with
  | lst ts => exact ⟨ts, rfl, h⟩
  | _ => cases h
def dExtend (i : Nat) (fa : Rho → M W T) : Rho → M W Fl := fun ρ => owM i ρ fun ts => bnd (fa ρ) fun t => bnd (lstM t) fun us => if ts.length + us.length ≤ sizeLine then ret (.nx (ρ.set i (.ow (ts ++ us)))) else stuck
theorem pd_extend (i : Nat) {x : Str} {px ap cp : Pos} (ha : PVs X G E e fa) (hN : X.N[i]? = some x) (hv : Vis X.env.scope x)
    (hs : swapsWith (.Call (.Attribute (.Name x px) "extend" ap) [e] [] cp) none pos.line X.env = pure false := by rfl) (hst : starEach [e] X.env = (false, eval e X.env) :: starEach [] X.env := by rfl)
    (hpe : ∀ {te : TE}, PE X e te → PE X (.Call (.Attribute (.Name x px) "extend" ap) [e] [] cp) (tBM X.K "list" rExtend (tVar i) (tCons te tNil))) :
    PD X G E (.Expr (.Call (.Attribute (.Name x px) "extend" ap) [e] [] cp) pos) (dExtend i fa) := ⟨(ps_expr (hpe ha.run) hs).imp fun D σ H => by
  rintro ⟨ρ, w, F, r, w', S, hf, acc⟩
  obtain ⟨ts, hi, hf⟩ := owM_inv hf
  obtain ⟨p, vs, h0, h1, h2, h3, rv⟩ := S.own hi
  refine ⟨.ref p, h0, .inl ⟨rfl, vs, .of h1⟩, ?_⟩
  refine tVs.bind (X := X) S hf acc.er fun t w1 y H1 F1 S1 s1 r1 hk => ?_
  obtain ⟨us, rfl, hk2⟩ := lstM_bnd hk
  clear hk
  split at hk2
  · rename_i hl
    obtain ⟨rfl, rfl⟩ := ret_inv hk2
    obtain ⟨b, zs, rfl, hb, rz⟩ := r1.lst S1
    have h1' : H1 p = some (.lst vs) := s1.keep p _ h1 (S.ndB h3)
    exact ⟨p, b, vs, zs, rfl, rfl, h1', hb, by rw [rv.length, rz.length]; exact hl, acc _ _ F1 (S1.putL hi h0 h1' ((rv.mono s1.same).append rz)) s1.same⟩
  · cases hk2⟩
end
end
end PL

/-! PLg: what is walked; targets; for, while; comprehensions. -/
namespace PL
open PySem PySem.Spec PyProof.Rows L2
section
variable {W : Type} {X : Cx} {G : Gm W} {E : XK} {ρ : Rho} {w w' : W} {σ : L2.St} {H F : Hp}

/-- the walk J yields what ts tells, whatever is laid meanwhile -/
structure Walks (K : PySem.W.Frag) (G : Gm W) (J : It) (F : Hp) (ts : List T) : Prop where
  go : ∀ (i : Nat) (ρ : Rho) (w : W) (σ : L2.St) (H F' : Hp), Same F F' → Sd K G ρ w σ H F' → ∀ t, ts[i]? = some t → J.go i H ∧ ∀ x H', J.yld i H x H' → ∃ F'', Gr G H F' H' F'' ∧ Sd K G ρ w σ H' F'' ∧ Rep K F'' x t
  stop : ∀ (i : Nat) (ρ : Rho) (w : W) (σ : L2.St) (H F' : Hp), Same F F' → Sd K G ρ w σ H F' → ts.length ≤ i → J.stop i H
theorem Walks.mono {K : PySem.W.Frag} {J : It} {F' : Hp} {ts : List T} (h : Walks K G J F ts) (s : Same F F') : Walks K G J F' ts :=
  ⟨fun i ρ w σ H F2 s2 S t ht => h.go i ρ w σ H F2 (s.trans s2) S t ht, fun i ρ w σ H F2 s2 S hl => h.stop i ρ w σ H F2 (s.trans s2) S hl⟩
def tW (K : PySem.W.Frag) (G : Gm W) (E : XK) (f : Rho → M W (List T)) : TI := fun σ H R => ∃ ρ w F r w', Sd K G ρ w σ H F ∧ f ρ w = some (r, w') ∧ match r with
  | .ok ts => ∀ J H' F', Sd K G ρ w' σ H' F' → Gr G H F H' F' → Walks K G J F' ts → R J H'
  | .er e => AccE K G E F e w'
structure PIt (X : Cx) (G : Gm W) (E : XK) (tg iter : Expr) (f : Rho → M W (List T)) : Prop where
  run : PI X tg iter (tW X.K G E f)
theorem _root_.L2.PI.imp {tg iter : Expr} {t t' : TI} (h : PI X tg iter t) (i : ∀ σ H Q, t' σ H Q → t σ H Q) : PI X tg iter t' := ⟨fun pins s σ H Q I q => h.run pins s σ H Q I (i σ H Q q)⟩
theorem _root_.L2.PI.or {tg iter : Expr} {t t' : TI} (h : PI X tg iter t) (h' : PI X tg iter t') : PI X tg iter (fun σ H Q => t σ H Q ∨ t' σ H Q) := ⟨fun pins s σ H Q I q => by
  rcases q with q | q
  · exact h.run pins s σ H Q I q
  · exact h'.run pins s σ H Q I q⟩
theorem walks_list {K : PySem.W.Frag} {a : Addr} {vs : List V} {ts : List T} (h : F a = some (.lst vs)) (r : Reps K F vs ts) : Walks K G (Itl K a) F ts := by
  refine ⟨fun i ρ w σ H F' s S t ht => ?_, fun i ρ w σ H F' s S hl => ?_⟩
  · obtain ⟨v, hv, rv⟩ := r.get ht
    have hH : SqL K H a vs := .of (S.sub _ _ (s _ _ h))
    refine ⟨⟨vs, v, hH, hv⟩, fun x H' hy => ?_⟩
    obtain ⟨rfl, hx⟩ := hy
    have := hx vs hH
    rw [hv] at this; cases this
    exact ⟨F', .refl, S, rv.mono s⟩
  · exact ⟨vs, .of (S.sub _ _ (s _ _ h)), by rw [r.length]; exact hl⟩
theorem walks_tup {K : PySem.W.Frag} {a : Addr} {vs : List V} {ts : List T} (h : SqT K F a vs) (r : Reps K F vs ts) : Walks K G (Itt K a) F ts := by
  refine ⟨fun i ρ w σ H F' s S t ht => ?_, fun i ρ w σ H F' s S hl => ?_⟩
  · obtain ⟨v, hv, rv⟩ := r.get ht
    have hH : SqT K H a vs := Same.seqT S.sub (Same.seqT s h)
    refine ⟨⟨vs, v, hH, hv⟩, fun x H' hy => ?_⟩
    obtain ⟨rfl, hx⟩ := hy
    have := hx vs hH
    rw [hv] at this; cases this
    exact ⟨F', .refl, S, rv.mono s⟩
  · exact ⟨vs, Same.seqT S.sub (Same.seqT s h), by rw [r.length]; exact hl⟩
def signs (z : Str) : List T := z.cps.toList.map fun c => .str ⟨#[c]⟩
theorem walks_str {K : PySem.W.Frag} {z : Str} : Walks K G (Its z) F (signs z) := by
  refine ⟨fun i ρ w σ H F' s S t ht => ?_, fun i ρ w σ H F' s S hl => ?_⟩
  · unfold signs at ht
    rw [List.getElem?_map] at ht
    cases e : z.cps.toList[i]? with
    | none => rw [e] at ht; cases ht
    | some c =>
      rw [e] at ht
      cases ht
      refine ⟨by have := (List.getElem?_eq_some_iff.mp e).1; show i < z.cps.size; simpa using this, fun x H' hy => ?_⟩
      obtain ⟨rfl, c', hc, rfl⟩ := hy
      have : c' = c := by
        rw [← Array.getElem?_toList] at hc
        rw [e] at hc; cases hc; rfl
      subst this
      exact ⟨F', .refl, S, .str _⟩
  · show z.cps.size ≤ i
    simpa [signs] using hl
def intsT (lo : Int) (n : Nat) : List T := (List.range n).map fun i => .int (lo + (i : Nat))
theorem walks_range {K : PySem.W.Frag} {lo : Int} {n : Nat} : Walks K G (Itr lo n) F (intsT lo n) := by
  refine ⟨fun i ρ w σ H F' s S t ht => ?_, fun i ρ w σ H F' s S hl => ?_⟩
  · unfold intsT at ht
    rw [List.getElem?_map] at ht
    by_cases hi : i < n
    · rw [List.getElem?_range hi] at ht
      cases ht
      refine ⟨hi, fun x H' hy => ?_⟩
      obtain ⟨rfl, rfl⟩ := hy
      exact ⟨F', .refl, S, .int _⟩
    · rw [List.getElem?_eq_none (by simpa using hi)] at ht; cases ht
  · show n ≤ i
    simpa [intsT] using hl
section
variable {tg l : Expr} {fa : Rho → M W T} {pos : Pos}
/-- the items of a list, of a tuple, the signs of a text -/
def seqM (t : T) : M W (List T) := match t with
  | .lst ts => ret ts
  | .tup ts => ret ts
  | .str z => ret (signs z)
  | _ => stuck
def fItems (fa : Rho → M W T) : Rho → M W (List T) := fun ρ => bnd (fa ρ) seqM
theorem tW.bind {f : Rho → M W T} {k : T → M W (List T)} {r : R (List T)} {Q : VK} (S : Sd X.K G ρ w σ H F) (e : bnd (f ρ) k w = some (r, w')) (er : ∀ e, r = .er e → AccE X.K G E F e w')
    (kk : ∀ t w1 v H1 F1, Sd X.K G ρ w1 σ H1 F1 → Gr G H F H1 F1 → Rep X.K F1 v t → k t w1 = some (r, w') → Q v H1) : tV X.K G E f σ H Q := tV.bind (X := X) S e er kk
theorem pit_seq (ha : PV X G E l fa) : PIt X G E tg l (fItems fa) := ⟨(PI.or (pi_list ha.run) (PI.or (pi_tup ha.run) (pi_str ha.run))).imp fun σ H R => by
  rintro ⟨ρ, w, F, r, w', S, hf, acc⟩
  have er : ∀ e, r = .er e → AccE X.K G E F e w' := fun e q => by subst q; exact acc
  rcases bnd_inv hf with ⟨t, w1, h1, h2⟩ | ⟨e, h1, rfl⟩
  · cases t with
    | lst ts =>
      obtain ⟨rfl, rfl⟩ := ret_inv h2
      refine .inl ⟨ρ, w, F, .ok _, w', S, h1, fun v H1 F1 S1 s1 rv => ?_⟩
      obtain ⟨a, vs, rfl, hF, rs⟩ := rv.lst_inv
      exact ⟨a, rfl, ⟨vs, .of (S1.sub _ _ hF)⟩, acc _ H1 F1 S1 s1 (walks_list hF rs)⟩
    | tup ts =>
      obtain ⟨rfl, rfl⟩ := ret_inv h2
      refine .inr (.inl ⟨ρ, w, F, .ok _, w', S, h1, fun v H1 F1 S1 s1 rv => ?_⟩)
      obtain ⟨a, vs, rfl, hF, rs⟩ := rv.tup_inv
      exact ⟨a, rfl, ⟨vs, Same.seqT S1.sub hF⟩, acc _ H1 F1 S1 s1 (walks_tup hF rs)⟩
    | str z =>
      obtain ⟨rfl, rfl⟩ := ret_inv h2
      refine .inr (.inr ⟨ρ, w, F, .ok _, w', S, h1, fun v H1 F1 S1 s1 rv => ?_⟩)
      exact ⟨z, rv.str_inv, acc _ H1 F1 S1 s1 walks_str⟩
    | _ => cases h2
  · exact .inl ⟨ρ, w, F, .er e, w', S, h1, er e rfl⟩⟩
def fRange1 (fa : Rho → M W T) : Rho → M W (List T) := fun ρ => bnd (fa ρ) fun t => bnd (intM t) fun j => if -(2 ^ 62) ≤ j ∧ j < 2 ^ 62 then ret (intsT 0 j.toNat) else stuck
theorem intM_bnd {β : Type} {t : T} {k : Int → M W β} {r : R β} (h : bnd (intM t) k w = some (r, w')) : ∃ i, t = .int i ∧ k i w = some (r, w') := by
  cases t with
  | int i => exact ⟨i, rfl, h⟩
  | _ => cases h
theorem pit_range1 {p : Pos} (hg : Gl X "range") (hm : X.mg "range" = none) (ha : PV X G E l fa) (hs : starEach [l] X.env = [(false, eval l X.env)] := by rfl) (hs1 : starEach [l] X.env = (false, eval l X.env) :: starEach [] X.env := by rfl) :
    PIt X G E tg (.Call (.Name "range" p) [l] [] pos) (fRange1 fa) := ⟨(pi_range1 hg hm (pa_cons ha.run pa_nil hs1) hs).imp fun σ H R => by
  rintro ⟨ρ, w, F, r, w', S, hf, acc⟩
  have er : ∀ e, r = .er e → AccE X.K G E F e w' := fun e q => by subst q; exact acc
  refine tV.bind (X := X) S hf er fun t w1 v H1 F1 S1 s1 r1 hk => ?_
  obtain ⟨j, rfl, hk2⟩ := intM_bnd hk
  clear hk
  split at hk2
  · rename_i hl
    obtain ⟨rfl, rfl⟩ := ret_inv hk2
    obtain rfl := r1.int_inv
    exact ⟨j, rfl, hl.1, hl.2, acc _ H1 F1 S1 s1 walks_range⟩
  · cases hk2⟩
end

/-! ### targets -/
/-- a target's store, told by a function; is: the slots that it fills -/
def tG (K : PySem.W.Frag) (G : Gm W) (is : List Nat) (h : T → Rho → Option Rho) : TG := fun v σ H Q => ∃ ρ w F t ρ', Sd K G ρ w σ H F ∧ Rep K F v t ∧ h t ρ = some ρ' ∧ ∀ σ', Sd K G ρ' w σ' H F → (∀ j, j ∉ is → σ'[j]? = σ[j]?) → σ'.length = σ.length → Q σ' H
structure PGt (X : Cx) (G : Gm W) (tg : Expr) (is : List Nat) (h : T → Rho → Option Rho) : Prop where
  run : PG X tg (tG X.K G is h)
theorem _root_.L2.PG.imp {tg : Expr} {t t' : TG} (h : PG X tg t) (i : ∀ v σ H Q, t' v σ H Q → t v σ H Q) : PG X tg t' := ⟨fun pins s σ H v u Q I r q => h.run pins s σ H v u Q I r (i v σ H Q q)⟩
theorem Sd.setF {K : PySem.W.Frag} {v : V} {t : T} (S : Sd K G ρ w σ H F) (h : Rep K F v t) (i : Nat) : Sd K G (ρ.set i (.fz t)) w (σ.set i (some v)) H F := S.set (s := .fz t) h i
def gN (i : Nat) : T → Rho → Option Rho := fun t ρ => some (ρ.set i (.fz t))
theorem pgt_name (i : Nat) {x : Str} {pos : Pos} (hN : X.N.Nodup) (hi : X.N[i]? = some x) (hx : Loc X.env.scope x) (hf : X.fn x = true ∨ X.env.scope.names.lookup x = some .local := by first | exact .inl rfl | exact .inr rfl | assumption) : PGt X G (.Name x pos) [i] (gN i) :=
  ⟨(pg_name hN hi hx hf).imp fun v σ H Q => by
    rintro ⟨ρ, w, F, t, ρ', S, r, e, k⟩
    cases e
    exact k _ (S.setF r i) (fun j hj => List.getElem?_set_ne (by simpa using (fun z : i = j => hj (by simp [z])))) (by simp)⟩
def gT2 (i j : Nat) : T → Rho → Option Rho := fun t ρ => match t with
  | .tup [a, b] => some ((ρ.set i (.fz a)).set j (.fz b))
  | _ => none
theorem pgt_tup2 (i j : Nat) {x y : Str} {px py pos : Pos} {k : Nat} (hc : X.calm = true) (hN : X.N.Nodup) (hi : X.N[i]? = some x) (hj : X.N[j]? = some y) (hx : Loc X.env.scope x) (hy : Loc X.env.scope y)
    (hfx : X.fn x = true ∨ X.env.scope.names.lookup x = some .local := by first | exact .inl rfl | exact .inr rfl | assumption) (hfy : X.fn y = true ∨ X.env.scope.names.lookup y = some .local := by first | exact .inl rfl | exact .inr rfl | assumption)
    (hn : (assignEach [.Name x px, .Name y py] X.env).length = 2 := by rfl) (hst : (assignEach [.Name x px, .Name y py] X.env).findIdx? (·.1) = none := by rfl)
    (hs1 : (assignEach [.Name x px, .Name y py] X.env).map (·.2) = assign (.Name x px) X.env :: (assignEach [.Name y py] X.env).map (·.2) := by rfl) (hs2 : (assignEach [.Name y py] X.env).map (·.2) = assign (.Name y py) X.env :: (assignEach [] X.env).map (·.2) := by rfl) :
    PGt X G (.Tuple [.Name x px, .Name y py] k pos) [i, j] (gT2 i j) :=
  ⟨(pg_tup hc (pgs_cons (pg_name hN hi hx hfx) (pgs_cons (pg_name hN hj hy hfy) pgs_nil hs2) hs1) hn hst).imp fun v σ H Q => by
    rintro ⟨ρ, w, F, t, ρ', S, r, e, kk⟩
    unfold gT2 at e
    split at e
    · cases e
      obtain ⟨a, vs, rfl, hF, rs⟩ := r.tup_inv
      cases rs with
      | cons r1 rs =>
        cases rs with
        | cons r2 rs =>
          cases rs
          refine ⟨a, _, rfl, Same.seqT S.sub hF, rfl, _, _, rfl, _, _, rfl, rfl, ?_⟩
          refine kk _ ((S.setF r1 i).setF r2 j) (fun l hl => ?_) (by simp)
          rw [List.getElem?_set_ne (fun z => hl (by simp [z])), List.getElem?_set_ne (fun z => hl (by simp [z]))]
    · cases e⟩

/-! ### for, while -/
def loopD (h : T → Rho → Option Rho) (g : Rho → M W Fl) : List T → Rho → M W Fl
  | [], ρ => ret (.nx ρ)
  | t :: ts, ρ => bnd (lift (h t ρ)) fun ρ1 => bnd (g ρ1) fun fl => match fl with
    | .nx ρ2 => loopD h g ts ρ2
    | .ct ρ2 => loopD h g ts ρ2
    | .bk ρ2 => ret (.nx ρ2)
    | .rt t => ret (.rt t)
def dFor (fi : Rho → M W (List T)) (h : T → Rho → Option Rho) (g : Rho → M W Fl) : Rho → M W Fl := fun ρ => bnd (fi ρ) fun ts => loopD h g ts ρ
theorem lift_bnd {α β : Type} {o : Option α} {k : α → M W β} {r : R β} (h : bnd (lift o) k w = some (r, w')) : ∃ a, o = some a ∧ k a w = some (r, w') := by
  cases o with
  | none => cases h
  | some a => exact ⟨a, rfl, h⟩
theorem pd_for {tg iter : Expr} {body : List Stmt} {is : List Nat} {fi : Rho → M W (List T)} {h : T → Rho → Option Rho} {g : Rho → M W Fl} {pos : Pos} (hp : PassesOwn (model X.prog X.w) X.A X.env X.xe) (hc : X.calm = true) (hi : PIt X G E tg iter fi) (hg : PGt X G tg is h) (hb : PDs X G E body g)
    (hs : ∀ x, foldedSetIterable iter X.env x = pure x := by intro _; rfl) : PD X G E (.For tg iter body [] pos) (dFor fi h g) := ⟨(ps_for hp hc hi.run hg.run hb.run hs).imp fun D σ H => by
  rintro ⟨ρ, w, F, r, w', S, hf, acc⟩
  rcases bnd_inv hf with ⟨ts, w1, h1, h2⟩ | ⟨e, h1, rfl⟩
  case inr => exact ⟨ρ, w, F, .er e, w', S, h1, acc⟩
  refine ⟨ρ, w, F, .ok ts, w1, S, h1, fun J H1 F1 S1 s1 wk => ?_⟩
  refine ⟨fun i m σ H => m = ts.length - i ∧ i ≤ ts.length ∧ ∃ ρ w F, Sd X.K G ρ w σ H F ∧ Same F1 F ∧ loopD h g (ts.drop i) ρ w = some (r, w'), ⟨ts.length, by simp, Nat.zero_le _, ρ, w1, F1, S1, Same.refl _, by simpa using h2⟩, ?_⟩
  rintro i m σ2 H2 ⟨rfl, hil, ρ2, w2, F2, S2, s2, e2⟩
  by_cases hlt : i < ts.length
  · rw [List.drop_eq_getElem_cons hlt] at e2
    obtain ⟨go, yl⟩ := wk.go i ρ2 w2 σ2 H2 F2 s2 S2 ts[i] (List.getElem?_eq_getElem hlt)
    refine .inr ⟨go, fun σ' H' => ∃ ρ w F, Sd X.K G ρ w σ' H' F ∧ Same F1 F ∧ loopD h g (ts.drop (i + 1)) ρ w = some (r, w'), fun σ' H' q => ⟨ts.length - (i + 1), by omega, rfl, hlt, q⟩, fun x H3 hy => ?_⟩
    obtain ⟨F3, g3, S3, r3⟩ := yl x H3 hy
    obtain ⟨ρ3, hh, e3⟩ := lift_bnd e2
    refine ⟨ρ2, w2, F3, ts[i], ρ3, S3, r3, hh, fun σ4 S4 _ _ => ?_⟩
    rcases bnd_inv e3 with ⟨fl, w5, h5, h6⟩ | ⟨e, h5, rfl⟩
    · refine ⟨ρ3, w2, F3, .ok fl, w5, S4, h5, ?_⟩
      have sF : Same F1 F3 := s2.trans g3.same
      cases fl with
      | nx ρ5 => exact fun σ' H' F' S' s' => ⟨ρ5, w5, F', S', sF.trans s', h6⟩
      | ct ρ5 => exact fun σ' H' F' S' s' => ⟨ρ5, w5, F', S', sF.trans s', h6⟩
      | bk ρ5 =>
        obtain ⟨rfl, rfl⟩ := ret_inv h6
        exact fun σ' H' F' S' s' => acc σ' H' F' S' ((s1.same.trans sF).trans s')
      | rt t =>
        obtain ⟨rfl, rfl⟩ := ret_inv h6
        exact fun v ρ' σ' H' F' S' s' rv => acc v ρ' σ' H' F' S' ((s1.same.trans sF).trans s') rv
    · exact ⟨ρ3, w2, F3, .er e, w', S4, h5, AccE.mono (X := X) acc ((s1.same.trans s2).trans g3.same)⟩
  · have hi : i = ts.length := by omega
    subst hi
    rw [List.drop_length] at e2
    obtain ⟨rfl, rfl⟩ := ret_inv e2
    exact .inl ⟨wk.stop _ ρ2 _ σ2 H2 F2 s2 S2 (Nat.le_refl _), acc σ2 H2 F2 S2 (s1.same.trans s2)⟩⟩
def whileN (c : Rho → M W Bool) (b : Rho → M W Fl) : Nat → Rho → M W Fl
  | 0, _ => stuck
  | n + 1, ρ => bnd (c ρ) fun t => if t = true then bnd (b ρ) fun fl => match fl with
      | .nx ρ' => whileN c b n ρ'
      | .ct ρ' => whileN c b n ρ'
      | .bk ρ' => ret (.nx ρ')
      | .rt t => ret (.rt t)
    else ret (.nx ρ)
theorem bnd_mono {α β : Type} {m : M W α} {k k' : α → M W β} {r : R β} (h : bnd m k w = some (r, w')) (i : ∀ a w1, k a w1 = some (r, w') → k' a w1 = some (r, w')) : bnd m k' w = some (r, w') := by
  rcases bnd_inv h with ⟨a, w1, h1, h2⟩ | ⟨e, h1, rfl⟩
  · unfold bnd; rw [h1]; exact i a w1 h2
  · unfold bnd; rw [h1]
theorem whileN_succ {c : Rho → M W Bool} {b : Rho → M W Fl} : ∀ (n : Nat) (ρ : Rho) (w w' : W) (r : R Fl), whileN c b n ρ w = some (r, w') → whileN c b (n + 1) ρ w = some (r, w')
  | 0, _, _, _, _, h => by cases h
  | n + 1, ρ, w, w', r, h => by
    unfold whileN at h ⊢
    refine bnd_mono h fun t w1 h1 => ?_
    split
    · rw [if_pos ‹_›] at h1
      refine bnd_mono h1 fun fl w2 h2 => ?_
      cases fl with
      | nx ρ' => exact whileN_succ n ρ' w2 w' r h2
      | ct ρ' => exact whileN_succ n ρ' w2 w' r h2
      | bk ρ' => exact h2
      | rt t => exact h2
    · rw [if_neg ‹_›] at h1; exact h1
theorem whileN_le {c : Rho → M W Bool} {b : Rho → M W Fl} {n m : Nat} (h : n ≤ m) {r : R Fl} (e : whileN c b n ρ w = some (r, w')) : whileN c b m ρ w = some (r, w') := by
  induction h with
  | refl => exact e
  | step _ ih => exact whileN_succ _ _ _ _ _ ih
open Classical in
noncomputable def dWhile (c : Rho → M W Bool) (b : Rho → M W Fl) : Rho → M W Fl := fun ρ w => if h : ∃ n, (whileN c b n ρ w).isSome = true then whileN c b h.choose ρ w else none
theorem dWhile_iff {c : Rho → M W Bool} {b : Rho → M W Fl} {r : R Fl} : dWhile c b ρ w = some (r, w') ↔ ∃ n, whileN c b n ρ w = some (r, w') := by
  constructor
  · intro h
    unfold dWhile at h
    split at h
    · exact ⟨_, h⟩
    · cases h
  · rintro ⟨n, h⟩
    have ex : ∃ n, (whileN c b n ρ w).isSome = true := ⟨n, by rw [h]; rfl⟩
    unfold dWhile
    rw [dif_pos ex]
    have hs := ex.choose_spec
    cases e : whileN c b ex.choose ρ w with
    | none => rw [e] at hs; cases hs
    | some p =>
      obtain ⟨r2, w2⟩ := p
      have h1 := whileN_le (Nat.le_max_left n ex.choose) h
      have h2 := whileN_le (Nat.le_max_right n ex.choose) e
      rw [h1] at h2
      exact h2.symm
/-- one turn -/
theorem dWhile_eq (c : Rho → M W Bool) (b : Rho → M W Fl) (ρ : Rho) : dWhile c b ρ = bnd (c ρ) fun t => if t = true then bnd (b ρ) fun fl => match fl with
      | .nx ρ' => dWhile c b ρ'
      | .ct ρ' => dWhile c b ρ'
      | .bk ρ' => ret (.nx ρ')
      | .rt t => ret (.rt t)
    else ret (.nx ρ) := by
  have half : ∀ w r w', (bnd (c ρ) fun t => if t = true then bnd (b ρ) fun fl => match fl with
      | .nx ρ' => dWhile c b ρ'
      | .ct ρ' => dWhile c b ρ'
      | .bk ρ' => ret (.nx ρ')
      | .rt t => ret (.rt t)
    else ret (.nx ρ)) w = some (r, w') → dWhile c b ρ w = some (r, w') := by
    intro w r w' h
    rw [dWhile_iff]
    rcases bnd_inv h with ⟨t, w1, h1, h2⟩ | ⟨e, h1, rfl⟩
    · by_cases ht : t = true
      · simp only [if_pos ht] at h2
        rcases bnd_inv h2 with ⟨fl, w2, h3, h4⟩ | ⟨e, h3, rfl⟩
        · cases fl with
          | nx ρ' =>
            obtain ⟨n, hn⟩ := dWhile_iff.mp h4
            exact ⟨n + 1, by unfold whileN bnd; rw [h1]; simp only [if_pos ht]; rw [h3]; exact hn⟩
          | ct ρ' =>
            obtain ⟨n, hn⟩ := dWhile_iff.mp h4
            exact ⟨n + 1, by unfold whileN bnd; rw [h1]; simp only [if_pos ht]; rw [h3]; exact hn⟩
          | bk ρ' => exact ⟨1, by unfold whileN bnd; rw [h1]; simp only [if_pos ht]; rw [h3]; exact h4⟩
          | rt t => exact ⟨1, by unfold whileN bnd; rw [h1]; simp only [if_pos ht]; rw [h3]; exact h4⟩
        · exact ⟨1, by unfold whileN bnd; rw [h1]; simp only [if_pos ht]; rw [h3]⟩
      · simp only [if_neg ht] at h2
        exact ⟨1, by unfold whileN bnd; rw [h1]; simp only [if_neg ht]; exact h2⟩
    · exact ⟨1, by unfold whileN bnd; rw [h1]⟩
  have other : ∀ w r w', dWhile c b ρ w = some (r, w') → (bnd (c ρ) fun t => if t = true then bnd (b ρ) fun fl => match fl with
      | .nx ρ' => dWhile c b ρ'
      | .ct ρ' => dWhile c b ρ'
      | .bk ρ' => ret (.nx ρ')
      | .rt t => ret (.rt t)
    else ret (.nx ρ)) w = some (r, w') := by
    intro w r w' h
    obtain ⟨n, hn⟩ := dWhile_iff.mp h
    cases n with
    | zero => cases hn
    | succ n =>
      unfold whileN at hn
      refine bnd_mono hn fun t w1 h1 => ?_
      by_cases ht : t = true
      · simp only [if_pos ht] at h1 ⊢
        refine bnd_mono h1 fun fl w2 h2 => ?_
        cases fl with
        | nx ρ' => exact dWhile_iff.mpr ⟨n, h2⟩
        | ct ρ' => exact dWhile_iff.mpr ⟨n, h2⟩
        | bk ρ' => exact h2
        | rt t => exact h2
      · simp only [if_neg ht] at h1 ⊢
        exact h1
  funext w
  cases e : dWhile c b ρ w with
  | some p => obtain ⟨r, w'⟩ := p; exact (other w r w' e).symm
  | none =>
    cases e2 : (bnd (c ρ) fun t => if t = true then bnd (b ρ) fun fl => match fl with
      | .nx ρ' => dWhile c b ρ'
      | .ct ρ' => dWhile c b ρ'
      | .bk ρ' => ret (.nx ρ')
      | .rt t => ret (.rt t)
    else ret (.nx ρ)) w with
    | none => rfl
    | some p => obtain ⟨r, w'⟩ := p; rw [half w r w' e2] at e; cases e
theorem pd_while {c : Expr} {body : List Stmt} {gc : Rho → M W Bool} {g : Rho → M W Fl} {pos : Pos} (hp : PassesOwn (model X.prog X.w) X.A X.env X.xe) (hc : PB X G E c gc) (hb : PDs X G E body g) : PD X G E (.While c body [] pos) (dWhile gc g) := ⟨(ps_while hp hc.run hb.run).imp fun D σ H => by
  rintro ⟨ρ, w, F, r, w', S, hf, acc⟩
  obtain ⟨n, hn⟩ := dWhile_iff.mp hf
  refine ⟨fun m σ H => ∃ ρ w F', Sd X.K G ρ w σ H F' ∧ Same F F' ∧ whileN gc g m ρ w = some (r, w'), ⟨n, ρ, w, F, S, Same.refl _, hn⟩, ?_⟩
  rintro m σ1 H1 ⟨ρ1, w1, F1, S1, s1, e1⟩
  cases m with
  | zero => cases e1
  | succ m =>
    unfold whileN at e1
    refine tT.bind (X := X) S1 e1 (AccD.mono (X := X) acc s1).er fun t w2 H2 F2 S2 s2 hk => ?_
    by_cases ht : t = true
    · subst ht
      rw [if_pos rfl] at hk ⊢
      refine ⟨fun σ' H' => ∃ ρ w F', Sd X.K G ρ w σ' H' F' ∧ Same F F' ∧ whileN gc g m ρ w = some (r, w'), fun σ' H' q => ⟨m, Nat.lt_succ_self m, q⟩, ?_⟩
      have sF := s1.trans s2.same
      rcases bnd_inv hk with ⟨fl, w3, h3, h4⟩ | ⟨e, h3, rfl⟩
      · refine ⟨ρ1, w2, F2, .ok fl, w3, S2, h3, ?_⟩
        cases fl with
        | nx ρ5 => exact fun σ' H' F' S' s' => ⟨ρ5, w3, F', S', sF.trans s', h4⟩
        | ct ρ5 => exact fun σ' H' F' S' s' => ⟨ρ5, w3, F', S', sF.trans s', h4⟩
        | bk ρ5 =>
          obtain ⟨rfl, rfl⟩ := ret_inv h4
          exact fun σ' H' F' S' s' => acc σ' H' F' S' (sF.trans s')
        | rt t =>
          obtain ⟨rfl, rfl⟩ := ret_inv h4
          exact fun v ρ' σ' H' F' S' s' rv => acc v ρ' σ' H' F' S' (sF.trans s') rv
      · exact ⟨ρ1, w2, F2, .er e, w', S2, h3, AccE.mono (X := X) acc sF⟩
    · rw [if_neg ht] at hk ⊢
      obtain ⟨rfl, rfl⟩ := ret_inv hk
      exact acc σ1 H2 F2 S2 (s1.trans s2.same)⟩
end
end PL

/-! PLh: list comprehensions. -/
namespace PL
open PySem PySem.Spec PyProof.Rows L2
section
variable {W : Type} {X : Cx} {G : Gm W} {E : XK} {ρ : Rho} {w w' : W} {σ : L2.St} {H F : Hp}

def wipeR (ρ : Rho) : List Nat → Rho
  | [] => ρ
  | v :: vs => (wipeR ρ vs).set v .un
theorem wipeR_length (ρ : Rho) : ∀ vs : List Nat, (wipeR ρ vs).length = ρ.length
  | [] => rfl
  | v :: vs => by unfold wipeR; rw [List.length_set, wipeR_length ρ vs]
theorem wipe_get (σ : L2.St) : ∀ (vs : List Nat) (j : Nat), (wipe σ vs)[j]? = if j ∈ vs then (if j < σ.length then some none else none) else σ[j]?
  | [], j => by simp [wipe]
  | v :: vs, j => by
    unfold wipe
    by_cases h : v = j
    · subst h
      by_cases hl : v < σ.length
      · rw [List.getElem?_set_self (by rw [wipe_length]; exact hl)]; simp [hl]
      · rw [List.getElem?_eq_none (by rw [List.length_set, wipe_length]; omega)]; simp [hl]
    · rw [List.getElem?_set_ne h, wipe_get σ vs j]
      have : (j ∈ v :: vs) ↔ j ∈ vs := by simp [Ne.symm h]
      simp [this]
theorem wipe_same {σ τ : L2.St} {vs : List Nat} (h : ∀ j, j ∉ vs → τ[j]? = σ[j]?) (hl : τ.length = σ.length) : wipe τ vs = wipe σ vs := by
  apply List.ext_getElem?
  intro j
  rw [wipe_get, wipe_get, hl]
  split
  · rfl
  · exact h j ‹_›
theorem Sd.un {K : PySem.W.Frag} (S : Sd K G ρ w σ H F) (i : Nat) : Sd K G (ρ.set i .un) w (σ.set i none) H F := by
  refine ⟨S.sub, S.wok, S.dF, S.dB, S.keep, S.grow, S.old, fun j s hj => ?_, fun j k s t hj hk hs ht e => ?_, by simp [S.len]⟩
  · rcases getElem?_set' hj with ⟨rfl, rfl⟩ | ⟨nj, hj⟩
    · trivial
    · have q := S.slots j s hj
      have es : (σ.set i none)[j]? = σ[j]? := List.getElem?_set_ne nj
      cases s with
      | un => trivial
      | fz t => obtain ⟨v', e, r⟩ := q; exact ⟨v', by rw [es]; exact e, r⟩
      | ow ts => obtain ⟨p, vs, e, r⟩ := q; exact ⟨p, vs, by rw [es]; exact e, r⟩
      | od ks ts => obtain ⟨p, vs, e, r⟩ := q; exact ⟨p, vs, by rw [es]; exact e, r⟩
  · rcases getElem?_set' hj with ⟨rfl, rfl⟩ | ⟨nj, hj⟩
    · cases hs
    · rcases getElem?_set' hk with ⟨rfl, rfl⟩ | ⟨nk, hk⟩
      · cases ht
      · rw [List.getElem?_set_ne nj, List.getElem?_set_ne nk] at e
        exact S.apart j k s t hj hk hs ht e
theorem Sd.wipe {K : PySem.W.Frag} (S : Sd K G ρ w σ H F) : ∀ vs : List Nat, Sd K G (wipeR ρ vs) w (L2.wipe σ vs) H F
  | [] => S
  | v :: vs => (Sd.wipe S vs).un v
/-- an object that nothing knows is written -/
theorem Sd.write {K : PySem.W.Frag} {p : Addr} {o o' : HO} (S : Sd K G ρ w σ H F) (hp : H p = some o) (hf : F p = none) (hB : G.B p = none) (hs : ∀ (i : Nat) (s : Sl), ρ[i]? = some s → s.owns = true → σ[i]? ≠ some (some (V.ref p))) : Sd K G ρ w σ (upd H p o') F := by
  have nd := S.ndB hB
  refine ⟨fun b o e => by rw [upd_ne (fun z => by subst z; rw [hf] at e; cases e)]; exact S.sub b o e, G.O.stay S.wok fun b db => upd_ne (neq_of nd db), S.dF, S.dB, fun b o e d => by rw [upd_ne (fun z => by subst z; rw [hB] at e; cases e)]; exact S.keep b o e d, S.grow, S.old, fun j s hj => ?_, S.apart, S.len⟩
  have q := S.slots j s hj
  cases s with
  | un => trivial
  | fz t => exact q
  | ow ts => obtain ⟨p', vs, e, q1, q2⟩ := q; exact ⟨p', vs, e, by rw [upd_ne (fun (z : p' = p) => hs j _ hj rfl (by rw [e, z]))]; exact q1, q2⟩
  | od ks ts => obtain ⟨p', vs, e, q1, q2⟩ := q; exact ⟨p', vs, e, by rw [upd_ne (fun (z : p' = p) => hs j _ hj rfl (by rw [e, z]))]; exact q1, q2⟩
theorem Gr.upd {H' F' : Hp} (g : Gr G H F H' F') {p : Addr} {o : HO} (hp : H p = none) : Gr G H F (L2.upd H' p o) F' :=
  ⟨g.same, fun b u e d => by rw [upd_ne (ne_of_none e hp)]; exact g.keep b u e d, g.nof⟩

/-- no exception here -/
def noEr {α : Type} (m : M W α) : M W α := fun w => match m w with
  | some (.ok a, w') => some (.ok a, w')
  | _ => none
theorem noEr_inv {α : Type} {m : M W α} {r : R α} (h : noEr m w = some (r, w')) : ∃ a, r = .ok a ∧ m w = some (.ok a, w') := by
  unfold noEr at h
  split at h
  · cases h; exact ⟨_, rfl, ‹_›⟩
  · cases h
theorem noEr_bnd {α β : Type} {m : M W α} {k : α → M W β} {r : R β} (h : bnd (noEr m) k w = some (r, w')) : ∃ a w1, m w = some (.ok a, w1) ∧ k a w1 = some (r, w') := by
  rcases bnd_inv h with ⟨a, w1, h1, h2⟩ | ⟨e, h1, rfl⟩
  · obtain ⟨a', e, h3⟩ := noEr_inv h1
    cases e
    exact ⟨a, w1, h3, h2⟩
  · obtain ⟨_, e, _⟩ := noEr_inv h1
    cases e
def compD (vs : List Nat) (h : T → Rho → Option Rho) (gt : Rho → M W Bool) (ge : Rho → M W T) (ρ : Rho) : List T → M W (List T)
  | [] => ret []
  | t :: ts => bnd (lift (h t (wipeR ρ vs))) fun ρ1 => bnd (noEr (gt ρ1)) fun b =>
    if b = true then bnd (noEr (ge ρ1)) fun u => bnd (compD vs h gt ge ρ ts) fun us => ret (u :: us) else compD vs h gt ge ρ ts
def fLc (fi : Rho → M W (List T)) (vs : List Nat) (h : T → Rho → Option Rho) (gt : Rho → M W Bool) (ge : Rho → M W T) : Rho → M W (List T) :=
  fun ρ => bnd (fi ρ) fun ts => if ts.length ≤ sizeLine then compD vs h gt ge ρ ts else stuck
theorem compD_ok {vs : List Nat} {h : T → Rho → Option Rho} {gt : Rho → M W Bool} {ge : Rho → M W T} : ∀ {ts : List T} {w w' : W} {r : R (List T)}, compD vs h gt ge ρ ts w = some (r, w') → ∃ us, r = .ok us
  | [], w, w', r, e => ⟨[], (ret_inv e).1⟩
  | t :: ts, w, w', r, e => by
    unfold compD at e
    obtain ⟨ρ1, _, e⟩ := lift_bnd e
    obtain ⟨b, w1, _, e⟩ := noEr_bnd e
    by_cases hb : b = true
    · rw [if_pos hb] at e
      obtain ⟨u, w2, _, e⟩ := noEr_bnd e
      rcases bnd_inv e with ⟨us, w3, h3, h4⟩ | ⟨er, h3, rfl⟩
      · exact ⟨_, (ret_inv h4).1⟩
      · obtain ⟨us, z⟩ := compD_ok h3
        cases z
    · rw [if_neg hb] at e
      exact compD_ok e
section
variable {fi : Rho → M W (List T)} {vs is : List Nat} {h : T → Rho → Option Rho} {gt : Rho → M W Bool} {ge : Rho → M W T}
theorem tLc.of (his : ∀ i ∈ is, i ∈ vs) : ∀ σ H Q, tF X.K G E (fLc fi vs h gt ge) σ H Q → tLc (tW X.K G E fi) (tG X.K G is h) (tT X.K G E0 gt) (tV X.K G E0 ge) vs σ H Q := fun σ H Q => by
  rintro ⟨ρ, w, F, r, w', S, hf, acc⟩
  rcases bnd_inv hf with ⟨ts, w1, h1, h2⟩ | ⟨e, h1, rfl⟩
  case inr => exact ⟨ρ, w, F, .er e, w', S, h1, acc⟩
  split at h2
  case isFalse => cases h2
  rename_i hsz
  obtain ⟨us, rfl⟩ := compD_ok h2
  refine ⟨ρ, w, F, .ok ts, w1, S, h1, fun J H1 F1 S1 s1 wk D hD => ?_⟩
  have hD0 : H D = none := s1.free0 S1.dH hD
  have hDF := (S1.fresh hD).2.2
  have hDB := (S1.fresh hD).2.1
  have hDs := S1.noSlot hD
  refine ⟨fun i m Hc => m = ts.length - i ∧ i ≤ ts.length ∧ ∃ wi Fi acc accT rest, Sd X.K G ρ wi σ Hc Fi ∧ Gr G H1 F1 Hc Fi ∧ Hc D = some (.lst acc) ∧ Fi D = none ∧ Reps X.K Fi acc accT ∧ acc.length ≤ i ∧
    compD vs h gt ge ρ (ts.drop i) wi = some (.ok rest, w') ∧ accT ++ rest = us, ⟨ts.length, by simp, Nat.zero_le _, w1, F1, [], [], us, S1.laid hD, .laid hD, upd_same, hDF, .nil, Nat.zero_le _, by simpa using h2, rfl⟩, ?_⟩
  rintro i m H2 ⟨rfl, hil, w2, F2, acc2, accT, rest, S2, g2, hD2, hF2, r2, hl2, e2, hu⟩
  by_cases hlt : i < ts.length
  · rw [List.drop_eq_getElem_cons hlt] at e2
    obtain ⟨go, yl⟩ := wk.go i ρ w2 σ H2 F2 g2.same S2 ts[i] (List.getElem?_eq_getElem hlt)
    refine .inr ⟨go, fun H' => ∃ wi Fi acc accT rest, Sd X.K G ρ wi σ H' Fi ∧ Gr G H1 F1 H' Fi ∧ H' D = some (.lst acc) ∧ Fi D = none ∧ Reps X.K Fi acc accT ∧ acc.length ≤ i + 1 ∧
      compD vs h gt ge ρ (ts.drop (i + 1)) wi = some (.ok rest, w') ∧ accT ++ rest = us, fun H' q => ⟨ts.length - (i + 1), by omega, rfl, hlt, q⟩, fun x H3 hy => ?_⟩
    obtain ⟨F3, g3, S3, r3⟩ := yl x H3 hy
    unfold compD at e2
    obtain ⟨ρ1, hh, e3⟩ := lift_bnd e2
    obtain ⟨b, w4, hb, e4⟩ := noEr_bnd e3
    refine ⟨wipeR ρ vs, w2, F3, ts[i], ρ1, S3.wipe vs, r3, hh, fun σ4 S4 ag hlen => ⟨wipe_same (fun j hj => ?_) (by rw [hlen, wipe_length]), ?_⟩⟩
    · rw [ag j fun z => hj (his j z), wipe_get, if_neg hj]
    refine ⟨ρ1, w2, F3, .ok b, w4, S4, hb, fun H5 F5 S5 g5 => ?_⟩
    have nd := S2.ndB hDB
    have ne : ∀ {Ha : Hp}, Ha D = some (.lst acc2) → Ha D ≠ none := fun e z => by rw [e] at z; cases z
    have g23 : Gr G H2 F2 H5 F5 := g3.trans g5 S4.dH
    have hD5 : H5 D = some (.lst acc2) := g23.keep D _ hD2 nd
    have hF5 : F5 D = none := by rw [g23.nof D (ne hD2)]; exact hF2
    by_cases hbt : b = true
    · simp only [if_pos hbt] at e4 ⊢
      obtain ⟨u, w6, hu6, e6⟩ := noEr_bnd e4
      rcases bnd_inv e6 with ⟨us7, w7, h7, h8⟩ | ⟨er, h7, z⟩
      case inr => cases z
      obtain ⟨q8, rfl⟩ := ret_inv h8
      cases q8
      refine ⟨ρ1, w4, F5, .ok u, w6, S5, hu6, fun y H6 F6 S6 g6 r6 => ⟨acc2, ?_, by omega, ?_⟩⟩
      · exact g6.keep D _ hD5 nd
      have g26 : Gr G H2 F2 H6 F6 := g23.trans g6 S5.dH
      have S6' : Sd X.K G ρ w6 σ H6 F6 := S2.grown g26 S6.sub S6.wok S6.dF
      have hD6 : H6 D = some (.lst acc2) := g26.keep D _ hD2 nd
      have hF6 : F6 D = none := by rw [g26.nof D (ne hD2)]; exact hF2
      exact ⟨w6, F6, acc2 ++ [y], accT ++ [u], us7, S6'.write hD6 hF6 hDB hDs, (g2.trans g26 S2.dH).upd hD, upd_same, hF6, (r2.mono g26.same).append (.one r6), by simp; omega, h7, by rw [List.append_assoc]; exact hu⟩
    · simp only [if_neg hbt] at e4 ⊢
      have S5' : Sd X.K G ρ w4 σ H5 F5 := S2.grown g23 S5.sub S5.wok S5.dF
      exact ⟨w4, F5, acc2, accT, rest, S5', g2.trans g23 S2.dH, hD5, hF5, r2.mono g23.same, by omega, e4, hu⟩
  · have hi : i = ts.length := by omega
    subst hi
    rw [List.drop_length] at e2
    obtain ⟨q, rfl⟩ := ret_inv e2
    cases q
    rw [List.append_nil] at hu
    subst hu
    exact .inl ⟨wk.stop _ ρ _ σ H2 F2 g2.same S2 (Nat.le_refl _), acc D acc2 H2 F2 S2 (s1.trans g2 S1.dH) hD0 hD2 hF2 hDB hDs r2⟩
/-- one clause -/
structure Blk (X : Cx) (G : Gm W) (scope : Scope) (tg : Expr) (ifs : List Expr) (elt : Expr) (is : List Nat) (h : T → Rho → Option Rho) (gt : Rho → M W Bool) (ge : Rho → M W T) : Prop where
  tg : ∀ (s : Shared) (H : Hp) (C : Addr) (cl : List (Str × Addr)) (fp : List Addr), PGt (X.blk s H scope (compEnvC scope cl C X.env) fp) G tg is h
  ts : ∀ (s : Shared) (H : Hp) (C : Addr) (cl : List (Str × Addr)) (fp : List Addr), PTs (X.blk s H scope (compEnvC scope cl C X.env) fp) ifs (tT X.K G E0 gt)
  el : ∀ (s : Shared) (H : Hp) (C : Addr) (cl : List (Str × Addr)) (fp : List Addr), PV (X.blk s H scope (compEnvC scope cl C X.env) fp) G E0 elt ge
variable {elt tg iter : Expr} {ifs : List Expr} {scope : Scope} {own : List (Str × Nat)} {pos : Pos}
theorem pf_lc (hc : X.calm = true) (hN : X.N.Nodup) (hi : PIt X G E tg iter fi) (ok : BlkOk X.N X.env.scope scope own) (B : Blk X G scope tg ifs elt is h gt ge) (his : ∀ i ∈ is, i ∈ own.map (·.2)) (hs : ∀ x, foldedSetIterable iter X.env x = pure x := by intro _; rfl) :
    PF X G E (.ListComp elt [⟨tg, iter, ifs, 0⟩] scope pos) (fLc fi (own.map (·.2)) h gt ge) :=
  ⟨(pe_lc hc hN hi.run ok (fun s H C cl fp => (B.tg s H C cl fp).run) B.ts (fun s H C cl fp => (B.el s H C cl fp).run) hs).imp (tLc.of his)⟩
def tYesM : Rho → M W Bool := fun _ => ret true
theorem pts_nilM {Y : Cx} : PTs Y [] (tT Y.K G E0 (tYesM (W := W))) := ⟨fun pins s σ H Q I q => by
  obtain ⟨ρ, w, F, r, w', S, hf, acc⟩ := q
  obtain ⟨rfl, rfl⟩ := ret_inv hf
  exact pts_nil.run pins s σ H Q I (acc H F S .refl)⟩
theorem pts_oneM {Y : Cx} {c : Expr} (hc : PB Y G E0 c gt) : PTs Y [c] (tT Y.K G E0 gt) := pts_one hc.run
/-- name = [..] on one line -/
theorem pd_setLc {i : Nat} {y : Str} {py spos : Pos} (hc : X.calm = true) (hN : X.N.Nodup) (hy : X.N[i]? = some y) (hyl : X.env.scope.names.lookup y = some .local) (hsw : swapsWith (.ListComp elt [⟨tg, iter, ifs, 0⟩] scope pos) (some (.Name y py)) spos.line X.env = pure true)
    (hi : PIt X G E tg iter fi) (ok : BlkOk X.N X.env.scope scope own) (B : Blk X G scope tg ifs elt is h gt ge) (his : ∀ i ∈ is, i ∈ own.map (·.2)) (hs : ∀ x, foldedSetIterable iter X.env x = pure x := by intro _; rfl) :
    PD X G E (.Assign [.Name y py] (.ListComp elt [⟨tg, iter, ifs, 0⟩] scope pos) spos) (dSet i (xOw (fLc fi (own.map (·.2)) h gt ge))) :=
  ⟨(ps_setLc hc hN hy hyl hsw hi.run ok (fun s H C cl fp => (B.tg s H C cl fp).run) B.ts (fun s H C cl fp => (B.el s H C cl fp).run) hs).imp fun D σ H => by
    rintro ⟨ρ, w, F, r, w', S, hf, acc⟩
    refine tLc.of (E := E) (h := h) (gt := gt) (ge := ge) his σ H _ ?_
    rcases bnd_inv hf with ⟨s, w1, h1, h2⟩ | ⟨e, h1, rfl⟩
    · rcases bnd_inv h1 with ⟨ts, w2, h3, h4⟩ | ⟨e, h3, z⟩
      · obtain ⟨q, rfl⟩ := ret_inv h4
        cases q
        obtain ⟨rfl, rfl⟩ := ret_inv h2
        exact ⟨ρ, w, F, .ok ts, _, S, h3, fun p vs H' F' S' g' h0 h1 h2 h3 h4 h5 => acc _ H' F' (S'.set (s := .ow ts) ⟨p, vs, rfl, h1, h2, h3, h4, h5⟩ i) g'.same⟩
      · cases z
    · rcases bnd_inv h1 with ⟨ts, w2, h3, h4⟩ | ⟨e', h3, z⟩
      · obtain ⟨q, _⟩ := ret_inv h4
        cases q
      · cases z
        exact ⟨ρ, w, F, .er e, w', S, h3, acc⟩⟩
/-- .. as a frozen value -/
theorem pd_setLcF {i : Nat} {y : Str} {py spos : Pos} (hc : X.calm = true) (hN : X.N.Nodup) (hy : X.N[i]? = some y) (hyl : X.env.scope.names.lookup y = some .local) (hsw : swapsWith (.ListComp elt [⟨tg, iter, ifs, 0⟩] scope pos) (some (.Name y py)) spos.line X.env = pure true)
    (hi : PIt X G E tg iter fi) (ok : BlkOk X.N X.env.scope scope own) (B : Blk X G scope tg ifs elt is h gt ge) (his : ∀ i ∈ is, i ∈ own.map (·.2)) (hs : ∀ x, foldedSetIterable iter X.env x = pure x := by intro _; rfl) :
    PD X G E (.Assign [.Name y py] (.ListComp elt [⟨tg, iter, ifs, 0⟩] scope pos) spos) (dSet i (xFz (asL (fLc fi (own.map (·.2)) h gt ge)))) :=
  ⟨(ps_setLc hc hN hy hyl hsw hi.run ok (fun s H C cl fp => (B.tg s H C cl fp).run) B.ts (fun s H C cl fp => (B.el s H C cl fp).run) hs).imp fun D σ H => by
    rintro ⟨ρ, w, F, r, w', S, hf, acc⟩
    refine tLc.of (E := E) (h := h) (gt := gt) (ge := ge) his σ H _ ?_
    rcases bnd_inv hf with ⟨s, w1, h1, h2⟩ | ⟨e, h1, rfl⟩
    · rcases bnd_inv h1 with ⟨t, w2, h3, h4⟩ | ⟨e, h3, z⟩
      · obtain ⟨q, rfl⟩ := ret_inv h4
        cases q
        obtain ⟨rfl, rfl⟩ := ret_inv h2
        rcases bnd_inv h3 with ⟨ts, w5, h5, h6⟩ | ⟨e, h5, z⟩
        · obtain ⟨q, rfl⟩ := ret_inv h6
          cases q
          exact ⟨ρ, w, F, .ok ts, _, S, h5, fun p vs H' F' S' g' h0 h1 h2 h3 h4 h5 => acc _ H' _ ((S'.freeze h1 h2 h3 h4).setF (.lst upd_same (h5.mono (Same.updN h2))) i) (g'.same.trans (Same.updN h2))⟩
        · cases z
      · cases z
    · rcases bnd_inv h1 with ⟨t, w2, h3, h4⟩ | ⟨e', h3, z⟩
      · obtain ⟨q, _⟩ := ret_inv h4
        cases q
      · cases z
        rcases bnd_inv h3 with ⟨ts, w5, h5, h6⟩ | ⟨e', h5, z⟩
        · obtain ⟨q, _⟩ := ret_inv h6
          cases q
        · cases z
          exact ⟨ρ, w, F, .er e, w', S, h5, acc⟩⟩
end
end
end PL

/-! PLi: built-in functions and methods. -/
namespace PL
open PySem PySem.Spec PyProof.Rows L2
section
variable {W : Type} {X : Cx} {G : Gm W} {E : XK} {ρ : Rho} {w w' : W} {σ : L2.St} {H F : Hp}

/-- a built-in of one argument, by values -/
def CallG (X : Cx) (G : Gm W) (r : List V → Hp → VK → Prop) (g : T → Option T) : Prop :=
  ∀ (ρ : Rho) (w : W) (σ : L2.St) (H F : Hp) (x : V) (t z : T) (Q : VK), Sd X.K G ρ w σ H F → ShR X.K ρ σ F x t → g t = some z → (∀ v H' F', Sd X.K G ρ w σ H' F' → Gr G H F H' F' → Rep X.K F' v z → Q v H') → r [x] H Q
def f1 (g : T → Option T) (fa : Rho → M W T) : Rho → M W T := fun ρ => bnd (fa ρ) fun t => lift (g t)
theorem tCB.of {r : List V → Hp → VK → Prop} {g : T → Option T} {fa : Rho → M W T} (hg : CallG X G r g) : ∀ σ H Q, tV X.K G E (f1 g fa) σ H Q → tCB r (tCons (tVs X.K G E fa) tNil) σ H Q := fun σ H Q => by
  rintro ⟨ρ, w, F, q, w', S, hf, acc⟩
  refine tVs.bind (X := X) S hf acc.er fun t w1 x H1 F1 S1 s1 r1 hk => ?_
  obtain ⟨z, hz, rfl, rfl⟩ := lift_inv hk
  exact hg ρ _ σ H1 F1 x t z Q S1 r1 hz fun v H' F' S' s' rv => acc v H' F' S' (s1.trans s' S1.dH) rv
/-- .. that makes a new list -/
def CallF (X : Cx) (G : Gm W) (r : List V → Hp → VK → Prop) (g : T → Option (List T)) : Prop :=
  ∀ (ρ : Rho) (w : W) (σ : L2.St) (H F : Hp) (x : V) (t : T) (z : List T) (Q : VK), Sd X.K G ρ w σ H F → ShR X.K ρ σ F x t → g t = some z → (∀ p vs, H p = none → Reps X.K F vs z → Q (.ref p) (upd H p (.lst vs))) → r [x] H Q
def f1l (g : T → Option (List T)) (fa : Rho → M W T) : Rho → M W (List T) := fun ρ => bnd (fa ρ) fun t => lift (g t)
theorem tCB.ofF {r : List V → Hp → VK → Prop} {g : T → Option (List T)} {fa : Rho → M W T} (hg : CallF X G r g) : ∀ σ H Q, tF X.K G E (f1l g fa) σ H Q → tCB r (tCons (tVs X.K G E fa) tNil) σ H Q := fun σ H Q => by
  rintro ⟨ρ, w, F, q, w', S, hf, acc⟩
  refine tVs.bind (X := X) S hf acc.er fun t w1 x H1 F1 S1 s1 r1 hk => ?_
  obtain ⟨z, hz, rfl, rfl⟩ := lift_inv hk
  exact hg ρ _ σ H1 F1 x t z Q S1 r1 hz fun p vs hp rs => acc p vs _ F1 (S1.laid hp) (s1.trans (.laid hp) S1.dH) (s1.free0 S1.dH hp) upd_same (S1.sub.free hp) (S1.fresh hp).2.1 (S1.noSlot hp) rs
section
variable {x : Str} {id Ty : String} {r : List V → Hp → VK → Prop} {g : T → Option T} {gl : T → Option (List T)} {e : Expr} {fa : Rho → M W T} {p pos : Pos}
theorem pv_b1 (hc : CallR X (.builtin id) r) (hr : CallG X G r g) (hg : Gl X x) (hm : X.mg x = none) (hv : bootBuiltins x = some (.builtin id)) (ha : PVs X G E e fa) (hn : x ≠ "__name__" := by decide) (hdb : (x == ("__debug__" : Str)) = false := by decide)
    (he : starEach [e] X.env = (false, eval e X.env) :: starEach [] X.env := by rfl) (hpl : (backTo pos (starEach [] X.env)).any (·.1) = false := by rfl) : PV X G E (.Call (.Name x p) [e] [] pos) (f1 g fa) :=
  ⟨(pe_callB hc hg hm hv (pa_cons ha.run pa_nil he) hn hdb he hpl).imp (tCB.of hr)⟩
theorem pv_t1 (hc : CallR X (.type Ty) r) (hr : CallG X G r g) (hg : Gl X x) (hm : X.mg x = none) (hv : bootBuiltins x = some (.type Ty)) (ha : PVs X G E e fa) (hn : x ≠ "__name__" := by decide) (hdb : (x == ("__debug__" : Str)) = false := by decide)
    (he : starEach [e] X.env = (false, eval e X.env) :: starEach [] X.env := by rfl) (hpl : (backTo pos (starEach [] X.env)).any (·.1) = false := by rfl) : PV X G E (.Call (.Name x p) [e] [] pos) (f1 g fa) :=
  ⟨(pe_callTy hc hg hm hv (pa_cons ha.run pa_nil he) hn hdb he hpl).imp (tCB.of hr)⟩
theorem pf_b1 (hc : CallR X (.builtin id) r) (hr : CallF X G r gl) (hg : Gl X x) (hm : X.mg x = none) (hv : bootBuiltins x = some (.builtin id)) (ha : PVs X G E e fa) (hn : x ≠ "__name__" := by decide) (hdb : (x == ("__debug__" : Str)) = false := by decide)
    (he : starEach [e] X.env = (false, eval e X.env) :: starEach [] X.env := by rfl) (hpl : (backTo pos (starEach [] X.env)).any (·.1) = false := by rfl) : PF X G E (.Call (.Name x p) [e] [] pos) (f1l gl fa) :=
  ⟨(pe_callB hc hg hm hv (pa_cons ha.run pa_nil he) hn hdb he hpl).imp (tCB.ofF hr)⟩
theorem pf_t1 (hc : CallR X (.type Ty) r) (hr : CallF X G r gl) (hg : Gl X x) (hm : X.mg x = none) (hv : bootBuiltins x = some (.type Ty)) (ha : PVs X G E e fa) (hn : x ≠ "__name__" := by decide) (hdb : (x == ("__debug__" : Str)) = false := by decide)
    (he : starEach [e] X.env = (false, eval e X.env) :: starEach [] X.env := by rfl) (hpl : (backTo pos (starEach [] X.env)).any (·.1) = false := by rfl) : PF X G E (.Call (.Name x p) [e] [] pos) (f1l gl fa) :=
  ⟨(pe_callTy hc hg hm hv (pa_cons ha.run pa_nil he) hn hdb he hpl).imp (tCB.ofF hr)⟩
end

/-! ### len -/
def lenT : T → Option T
  | .str y => if y.length ≤ sizeLine then some (.int (y.length : Nat)) else none
  | .lst ts => some (.int (ts.length : Nat))
  | .tup ts => some (.int (ts.length : Nat))
  | .dct ks _ => some (.int (ks.length : Nat))
  | _ => none
def rLenA (K : PySem.W.Frag) : List V → Hp → VK → Prop := fun xs H Q => (∃ x n, xs = [x] ∧ LenV K x H n ∧ Q (.int n) H) ∨ ∃ a kvs, xs = [V.ref a] ∧ Rd H a (.dK kvs) ∧ Q (.int kvs.length) H
theorem lenG : CallG X G (rLenA X.K) lenT := by
  intro ρ w σ H F x t z Q S hx hz k
  unfold lenT at hz
  split at hz
  · split at hz
    · rename_i hl
      cases hz
      obtain rfl := hx.str
      exact .inl ⟨_, _, rfl, ⟨hl, rfl⟩, k _ H F S .refl (.int _)⟩
    · cases hz
  · cases hz
    obtain ⟨a, vs, rfl, hH, r⟩ := hx.lst S
    exact .inl ⟨_, vs.length, rfl, .inl ⟨vs, .of hH, rfl⟩, by rw [r.length]; exact k _ H F S .refl (.int _)⟩
  · cases hz
    obtain ⟨a, vs, rfl, _, hH, r⟩ := hx.tup S
    exact .inl ⟨_, vs.length, rfl, .inr ⟨vs, hH, rfl⟩, by rw [r.length]; exact k _ H F S .refl (.int _)⟩
  · rename_i ks ts
    cases hz
    obtain ⟨a, vs, rfl, hH, hl, r⟩ := hx.dct S
    have e : (ks.zip vs).length = ks.length := by rw [List.length_zip]; omega
    exact .inr ⟨_, _, rfl, hH, by rw [e]; exact k _ H F S .refl (.int _)⟩
  · cases hz
theorem call_lenRd : CallR X (.builtin "len") (fun xs H Q => ∃ a kvs, xs = [V.ref a] ∧ Rd H a (.dK kvs) ∧ Q (.int kvs.length) H) := by
  intro pins s σ H xs us Q I r h
  obtain ⟨a, kvs, rfl, ha, q⟩ := h
  obtain ⟨u, rfl, ru⟩ := vals1 r
  cases ru
  exact d_len I ha fun t s' I' => ⟨.int kvs.length, H, I', ⟨t, rfl⟩, q⟩
theorem call_lenA : CallR X (.builtin "len") (rLenA X.K) := CallR.or call_len call_lenRd
/-! ### tuple, list, int, abs -/
def tupT : T → Option T
  | .lst ts => some (.tup ts)
  | .tup ts => some (.tup ts)
  | _ => none
theorem tupG : CallG X G (fun xs H Q => ∃ p ys, xs = [.ref p] ∧ ((SqL X.K H p ys ∧ ∀ l, H l = none → Q (.ref l) (upd H l (.tup ys))) ∨ (SqT X.K H p ys ∧ Q (.ref p) H))) tupT := by
  intro ρ w σ H F x t z Q S hx hz k
  unfold tupT at hz
  split at hz
  · cases hz
    obtain ⟨a, vs, rfl, hH, r⟩ := hx.lst S
    exact ⟨a, vs, rfl, .inl ⟨.of hH, fun p hp => k _ _ _ (S.laidF hp) (.laidF S hp) (.tup (.of upd_same) (r.mono (Same.updN (S.sub.free hp))))⟩⟩
  · cases hz
    obtain ⟨a, vs, rfl, hF, hH, r⟩ := hx.tup S
    exact ⟨a, vs, rfl, .inr ⟨hH, k _ H F S .refl (.tup hF r)⟩⟩
  · cases hz
def itemsT : T → Option (List T)
  | .lst ts => some ts
  | .tup ts => some ts
  | _ => none
theorem lstG : CallF X G (fun xs H Q => ∃ p ys, xs = [.ref p] ∧ (SqL X.K H p ys ∨ SqT X.K H p ys) ∧ ∀ l, H l = none → Q (.ref l) (upd H l (.lst ys))) itemsT := by
  intro ρ w σ H F x t z Q S hx hz k
  unfold itemsT at hz
  split at hz
  · cases hz
    obtain ⟨a, vs, rfl, hH, r⟩ := hx.lst S
    exact ⟨a, vs, rfl, .inl (.of hH), fun p hp => k p vs hp r⟩
  · cases hz
    obtain ⟨a, vs, rfl, hF, hH, r⟩ := hx.tup S
    exact ⟨a, vs, rfl, .inr hH, fun p hp => k p vs hp r⟩
  · cases hz
def toInt : T → Option T
  | .int i => some (.int i)
  | .bl b => some (.int (if b then 1 else 0))
  | _ => none
theorem intCG : CallG X G (fun xs H Q => (∃ i, xs = [.int i] ∧ Q (.int i) H) ∨ ∃ k, xs = [.bl k] ∧ Q (.int (if k then 1 else 0)) H) toInt := by
  intro ρ w σ H F x t z Q S hx hz k
  unfold toInt at hz
  split at hz
  · cases hz
    exact .inl ⟨_, by rw [hx.int], k _ H F S .refl (.int _)⟩
  · cases hz
    exact .inr ⟨_, by rw [hx.bl], k _ H F S .refl (.int _)⟩
  · cases hz
def absT : T → Option T
  | .int i => some (.int (if i < 0 then -i else i))
  | _ => none
theorem absG : CallG X G (fun xs H Q => ∃ i, xs = [.int i] ∧ Q (.int (if i < 0 then -i else i)) H) absT := by
  intro ρ w σ H F x t z Q S hx hz k
  unfold absT at hz
  split at hz
  · cases hz
    exact ⟨_, by rw [hx.int], k _ H F S .refl (.int _)⟩
  · cases hz
/-! ### all, any of lists of bools -/
def boolsT : List T → Option (List Bool)
  | [] => some []
  | .bl b :: ts => (boolsT ts).map (b :: ·)
  | _ :: _ => none
theorem Reps.bools {K : PySem.W.Frag} : ∀ {vs : List V} {ts : List T} {bs : List Bool}, Reps K F vs ts → boolsT ts = some bs → vs = bs.map V.bl
  | _, _, _, .nil, e => by cases e; rfl
  | _, _, _, .cons (t := t) h r, e => by
    cases t with
    | bl b =>
      simp only [boolsT, Option.map_eq_some_iff] at e
      obtain ⟨bs, h1, rfl⟩ := e
      rw [h.bl_inv, r.bools h1]
      rfl
    | _ => cases e
def allT : T → Option T
  | .lst ts => (boolsT ts).map fun bs => .bl (bs.all id)
  | _ => none
def anyT : T → Option T
  | .lst ts => (boolsT ts).map fun bs => .bl (bs.any id)
  | _ => none
theorem allG : CallG X G (rAll X.K) allT := by
  intro ρ w σ H F x t z Q S hx hz k
  unfold allT at hz
  split at hz
  · simp only [Option.map_eq_some_iff] at hz
    obtain ⟨bs, h1, rfl⟩ := hz
    obtain ⟨a, vs, rfl, hH, r⟩ := hx.lst S
    have := r.bools h1
    subst this
    exact ⟨a, bs, rfl, .of hH, k _ H F S .refl (.bl _)⟩
  · cases hz
theorem anyG : CallG X G (rAny X.K) anyT := by
  intro ρ w σ H F x t z Q S hx hz k
  unfold anyT at hz
  split at hz
  · simp only [Option.map_eq_some_iff] at hz
    obtain ⟨bs, h1, rfl⟩ := hz
    obtain ⟨a, vs, rfl, hH, r⟩ := hx.lst S
    have := r.bools h1
    subst this
    exact ⟨a, bs, rfl, .of hH, k _ H F S .refl (.bl _)⟩
  · cases hz

/-! ### sorted, min of data -/
def dat (t : T) : PyData := (dataT t).getD .none
theorem dataTs_map : ∀ {ts : List T} {ds : List PyData}, dataTs ts = some ds → ds = ts.map dat
  | [], _, e => by cases e; rfl
  | t :: ts, ds, e => by
    simp only [dataTs, Option.bind_eq_some_iff, Option.map_eq_some_iff] at e
    obtain ⟨d, h1, es, h2, rfl⟩ := e
    simp [dat, h1, dataTs_map h2]
/-- strings alone, or tuples with an item that are all of one kind, or ints -/
def sortableB (ds : List PyData) : Bool := (ds.all fun d => ds.all fun e => PySem.W.alike d e) && ((ds.all fun d => match d with | .tuple (_ :: _) => true | _ => false) || (ds.all fun d => match d with | .none => false | .tuple _ => false | _ => true)) && ds.all fun d => decide (d.depth ≤ 100)
def lstOf : T → Option (List T)
  | .lst ts => some ts
  | _ => none
def sortT (t : T) : Option (List T) := (lstOf t).bind fun ts => (dataTs ts).bind fun ds => if sortableB ds = true ∧ ts.length ≤ sizeLine then some (ts.mergeSort (PySem.W.dataLe false dat)) else none
theorem eachIs_of {K : PySem.W.Frag} : ∀ {vs : List V} {ts : List T} {us : List Value}, Reps K F vs ts → Vals vs us → PySem.W.EachIs (fun u t => ∃ v, RelV v u ∧ Rep K F v t) us ts
  | _, _, _, .nil, .nil => .nil
  | _, _, _, .cons h r, .cons q s => .cons ⟨_, q, h⟩ (eachIs_of r s)
theorem of_eachIs {K : PySem.W.Frag} : ∀ {us : List Value} {ts : List T}, PySem.W.EachIs (fun u t => ∃ v, RelV v u ∧ Rep K F v t) us ts → ∃ vs, Vals vs us ∧ Reps K F vs ts
  | _, _, .nil => ⟨[], .nil, .nil⟩
  | _, _, .cons ⟨v, q, h⟩ t => by
    obtain ⟨vs, h1, h2⟩ := of_eachIs t
    exact ⟨v :: vs, .cons q h1, .cons h h2⟩
def rSortA (K : PySem.W.Frag) : List V → Hp → VK → Prop := fun xs H Q => ∃ a vs ts ds F, xs = [V.ref a] ∧ SqL K H a vs ∧ Same F H ∧ Reps K F vs ts ∧ dataTs ts = some ds ∧ sortableB ds = true ∧ ts.length ≤ sizeLine ∧
  ∀ p ys, H p = none → Reps K F ys (ts.mergeSort (PySem.W.dataLe false dat)) → Q (.ref p) (upd H p (.lst ys))
theorem call_sortA (hu : X.A.units + 200 < cLine) : CallR X (.builtin "sorted") (rSortA X.K) := by
  intro pins s σ H xs us Q I r h
  obtain ⟨a, vs, ts, ds, F, rfl, hs, sub, rs, hd, hb, hl, q⟩ := h
  obtain ⟨its, rv, pl, _⟩ := I.list hs
  rw [Vals.ref1 r]
  have hds := dataTs_map hd
  subst hds
  unfold sortableB at hb
  simp only [Bool.and_eq_true, List.all_eq_true, decide_eq_true_eq, Bool.or_eq_true] at hb
  obtain ⟨⟨hal, hk⟩, hdp⟩ := hb
  have eR := eachIs_of rs rv
  have hreads : ∀ t ∈ ts, ∃ d, dataT t = some d := by
    have : ∀ (ts : List T) (ds : List PyData), dataTs ts = some ds → ∀ t ∈ ts, ∃ d, dataT t = some d := by
      intro ts
      induction ts with
      | nil => intro _ _ _ z; cases z
      | cons t ts ih =>
        intro ds e t' ht
        simp only [dataTs, Option.bind_eq_some_iff, Option.map_eq_some_iff] at e
        obtain ⟨d, h1, es, h2, rfl⟩ := e
        rcases List.mem_cons.mp ht with rfl | ht
        · exact ⟨d, h1⟩
        · exact ih es h2 t' ht
    exact this ts _ hd
  have eReads : PySem.W.EachIs (fun v b => ∃ as, Reads s.heap v (dat b) as) its ts := by
    have : ∀ {us : List Value} {ts : List T}, PySem.W.EachIs (fun u t => ∃ v, RelV v u ∧ Rep X.K F v t) us ts → (∀ t ∈ ts, ∃ d, dataT t = some d) → PySem.W.EachIs (fun v b => ∃ as, Reads s.heap v (dat b) as) us ts := by
      intro us ts e
      induction e with
      | nil => intro _; exact .nil
      | @cons u t us ts h _ ih =>
        intro hh
        obtain ⟨v, q1, q2⟩ := h
        refine .cons ?_ (ih fun t' ht => hh t' (List.mem_cons_of_mem _ ht))
        obtain ⟨d, hd⟩ := hh t List.mem_cons_self
        have e : dat t = d := by unfold dat; rw [hd]; rfl
        rw [e]
        exact Dp.reads I d v _ (Rep.dp sub _ _ _ q2 hd) q1
    exact this eR hreads
  refine PySem.W.sorted_data (enc := dat) pl.isList eR eReads (fun d hd' e he => hal d hd' e he) ?_ (by omega) (fun b hb => ?_) fun out ho eo => ?_
  · rcases hk with hk | hk
    · refine .inl fun d hd' => ?_
      have := hk d hd'
      split at this
      · exact ⟨_, _, rfl⟩
      · cases this
    · refine .inr fun d hd' => ?_
      have := hk d hd'
      refine ⟨fun z => ?_, fun xs z => ?_⟩ <;> (subst z; cases this)
  · have := hdp (dat b) (List.mem_map_of_mem hb)
    omega
  · obtain ⟨ys, hv, hr⟩ := of_eachIs eo
    obtain ⟨ep, he'⟩ := PyProof.Rows.sortedAll_at s.heap its (List.toArray out)
    have hlen : ys.length ≤ sizeLine := by rw [hv.length, ho]; exact hl
    exact ⟨.ref _, upd H (s.heap.objs.size + 1) (.lst ys), I.laid (t' := s.toks) (fun _ _ => PyProof.Rows.sortedAll_old) (Nat.le_succ _) ⟨hlen, out, ep, hv, by simpa [PyProof.Rows.seqObj] using he'⟩, rfl, q _ ys (I.hok.fresh (Nat.le_succ _)) hr⟩
theorem sortG : CallF X G (rSortA X.K) sortT := by
  intro ρ w σ H F x t z Q S hx hz k
  simp only [sortT, Option.bind_eq_some_iff] at hz
  obtain ⟨ts, h1, ds, h2, h3⟩ := hz
  split at h3
  · rename_i hl
    cases h3
    cases t with
    | lst us =>
      cases h1
      obtain ⟨a, vs, rfl, hH, r⟩ := hx.lst S
      exact ⟨a, vs, _, ds, F, rfl, .of hH, S.sub, r, h2, hl.1, hl.2, fun p ys hp rs => k p ys hp rs⟩
    | _ => cases h1
  · cases h3
end
end PL

/-! PLj: min; join, split; isinstance; pop. -/
namespace PL
open PySem PySem.Spec PyProof.Rows L2
section
variable {W : Type} {X : Cx} {G : Gm W} {E : XK} {ρ : Rho} {w w' : W} {σ : L2.St} {H F : Hp}

/-! ### min, max of a list of data -/
def bestT (lt : PyData → PyData → Bool) : List T → Option T
  | [] => none
  | t :: ts => some (ts.foldl (fun a y => if lt (dat y) (dat a) then y else a) t)
def alikeB (ds : List PyData) : Bool := (ds.all fun d => ds.all fun e => PySem.W.alike d e) && (ds.all fun d => match d with | .none => false | _ => true) && decide (PyData.depthAll ds ≤ 100)
def minT (t : T) : Option T := (lstOf t).bind fun ts => (dataTs ts).bind fun ds => if alikeB ds = true then bestT PySem.W.dataLt ts else none
mutual
theorem dataT_inj : ∀ (t u : T) (d : PyData), dataT t = some d → dataT u = some d → t = u
  | .non, u, d, h, k => by
    cases h
    cases u <;> simp [dataT] at k
    rfl
  | .bl b, u, d, h, k => by
    cases h
    cases u <;> simp [dataT] at k
    rw [k]
  | .int b, u, d, h, k => by
    cases h
    cases u <;> simp [dataT] at k
    rw [k]
  | .str b, u, d, h, k => by
    cases h
    cases u <;> simp [dataT] at k
    rw [k]
  | .tup ts, u, d, h, k => by
    simp only [dataT, Option.map_eq_some_iff] at h
    obtain ⟨ds, h1, rfl⟩ := h
    cases u <;> simp [dataT] at k
    rw [dataTs_inj ts _ ds h1 k]
  | .lst ts, u, d, h, k => by
    simp only [dataT, Option.map_eq_some_iff] at h
    obtain ⟨ds, h1, rfl⟩ := h
    cases u <;> simp [dataT] at k
    rw [dataTs_inj ts _ ds h1 k]
  | .dct _ _, _, _, h, _ => by cases h
  | .ins _ _ _, _, _, h, _ => by cases h
  | .raw _, _, _, h, _ => by cases h
theorem dataTs_inj : ∀ (ts us : List T) (ds : List PyData), dataTs ts = some ds → dataTs us = some ds → ts = us
  | [], us, ds, h, k => by
    cases h
    cases us with
    | nil => rfl
    | cons u us =>
      simp only [dataTs, Option.bind_eq_some_iff, Option.map_eq_some_iff] at k
      obtain ⟨_, _, _, _, z⟩ := k
      cases z
  | t :: ts, us, ds, h, k => by
    simp only [dataTs, Option.bind_eq_some_iff, Option.map_eq_some_iff] at h
    obtain ⟨d, h1, es, h2, rfl⟩ := h
    cases us with
    | nil => simp [dataTs] at k
    | cons u us =>
      simp only [dataTs, Option.bind_eq_some_iff, Option.map_eq_some_iff, List.cons.injEq] at k
      obtain ⟨d', k1, es', k2, rfl, rfl⟩ := k
      rw [dataT_inj t u _ h1 k1, dataTs_inj ts us _ h2 k2]
end
theorem dataTs_mem : ∀ {ts : List T} {ds : List PyData}, dataTs ts = some ds → ∀ t ∈ ts, dataT t = some (dat t)
  | [], _, _, _, z => by cases z
  | t :: ts, ds, e, t', ht => by
    simp only [dataTs, Option.bind_eq_some_iff, Option.map_eq_some_iff] at e
    obtain ⟨d, h1, es, h2, rfl⟩ := e
    rcases List.mem_cons.mp ht with rfl | ht
    · simp [dat, h1]
    · exact dataTs_mem h2 t' ht
theorem fold_mem (lt : PyData → PyData → Bool) : ∀ (ts : List T) (t : T), (ts.foldl (fun a y => if lt (dat y) (dat a) then y else a) t) ∈ t :: ts
  | [], t => by simp
  | u :: ts, t => by
    simp only [List.foldl_cons]
    have := fold_mem lt ts (if lt (dat u) (dat t) then u else t)
    rcases List.mem_cons.mp this with h | h
    · rw [h]; split <;> simp
    · exact List.mem_cons_of_mem _ (List.mem_cons_of_mem _ h)
theorem fold_dat (lt : PyData → PyData → Bool) : ∀ (ts : List T) (t : T), dat (ts.foldl (fun a y => if lt (dat y) (dat a) then y else a) t) = (ts.map dat).foldl (fun a y => if lt y a then y else a) (dat t)
  | [], t => rfl
  | u :: ts, t => by
    simp only [List.foldl_cons, List.map_cons]
    rw [fold_dat lt ts]
    congr 1
    split <;> rfl
theorem call_minA (hc : X.calm = true) (hu : X.A.units + 200 < cLine) : CallR X (.builtin "min") (fun xs H Q => ∃ a vs d ds, xs = [V.ref a] ∧ SqL X.K H a vs ∧ DpAll X.K H vs (d :: ds) ∧ PyData.plainAll (d :: ds) = true ∧ alikeB (d :: ds) = true ∧
    ∀ (i : Nat) v, vs[i]? = some v → (d :: ds)[i]? = some (PySem.W.minD d ds) → Q v H) := by
  intro pins s σ H xs us Q I r h
  obtain ⟨a, vs, d, ds, rfl, hs, hd, hpl, hb, q⟩ := h
  obtain ⟨its, rv, pl, _⟩ := I.list hs
  rw [Vals.ref1 r]
  obtain ⟨as, hr⟩ := Dp.readsAll I (d :: ds) vs its hd rv
  unfold alikeB at hb
  simp only [Bool.and_eq_true, List.all_eq_true, decide_eq_true_eq] at hb
  obtain ⟨⟨h1, h2⟩, h3⟩ := hb
  refine PySem.W.min_list_data (I.ok.hd hc) pl.isList (by simpa using hr) ⟨fun x hx y hy => h1 x hx y hy, fun x hx z => ?_⟩ (by omega) fun i v h' tk bs hv hrd hk => ?_
  · have := h2 x hx
    subst z
    cases this
  · have hi : its[i]? = some v := by simpa using hv
    have hil : i < its.length := (List.getElem?_eq_some_iff.mp hi).1
    have hvl : i < vs.length := by rw [rv.length]; exact hil
    obtain ⟨u, hu1, ru⟩ := rv.get (List.getElem?_eq_getElem hvl)
    rw [hi] at hu1; cases hu1
    refine ⟨vs[i], H, I.kept hk, ru, q i _ (List.getElem?_eq_getElem hvl) ?_⟩
    obtain ⟨bs2, hr2, hlt, _, _⟩ := PySem.W.readsAll_at hr i v hi
    have hd2 : (d :: ds)[i]? = some ((d :: ds).getD i .none) := by rw [List.getD_eq_getElem?_getD, List.getElem?_eq_getElem hlt]; rfl
    have hp2 : ((d :: ds).getD i .none).plain = true := by
      have : ∀ (xs : List PyData), PyData.plainAll xs = true → ∀ x ∈ xs, x.plain = true := by
        intro xs
        induction xs with
        | nil => intro _ x hx; cases hx
        | cons y ys ih =>
          intro hxs x hx
          simp only [PyData.plainAll, Bool.and_eq_true] at hxs
          rcases List.mem_cons.mp hx with rfl | hx
          · exact hxs.1
          · exact ih hxs.2 x hx
      exact this _ hpl _ (List.mem_of_getElem? hd2)
    have hr3 : Reads h' v ((d :: ds).getD i .none) bs2 := PySem.W.reads_keeps hk hr2
    have := SeqAt.plain_unique _ _ _ _ _ hp2 hr3 hrd
    rw [hd2, this]
theorem minG : CallG X G (fun xs H Q => ∃ a vs d ds, xs = [V.ref a] ∧ SqL X.K H a vs ∧ DpAll X.K H vs (d :: ds) ∧ PyData.plainAll (d :: ds) = true ∧ alikeB (d :: ds) = true ∧
    ∀ (i : Nat) v, vs[i]? = some v → (d :: ds)[i]? = some (PySem.W.minD d ds) → Q v H) minT := by
  intro ρ w σ H F x t z Q S hx hz k
  simp only [minT, Option.bind_eq_some_iff] at hz
  obtain ⟨ts, h1, ds, h2, h3⟩ := hz
  cases t with
  | lst us =>
    cases h1
    split at h3
    · rename_i hb
      obtain ⟨a, vs, rfl, hH, r⟩ := hx.lst S
      have key : ∀ (ts : List T) (ds : List PyData), dataTs ts = some ds → bestT PySem.W.dataLt ts = some z → Reps X.K F vs ts → alikeB ds = true →
          ∃ d es, ds = d :: es ∧ DpAll X.K H vs (d :: es) ∧ PyData.plainAll (d :: es) = true ∧ ∀ (i : Nat) v, vs[i]? = some v → (d :: es)[i]? = some (PySem.W.minD d es) → Rep X.K F v z := by
        intro ts ds h2 h3 r hb
        cases ts with
        | nil => cases h3
        | cons t ts =>
          have hm := dataTs_map h2
          subst hm
          cases h3
          refine ⟨dat t, ts.map dat, rfl, Reps.dp S.sub _ _ _ r h2, dataTs_plain _ _ h2, fun i v hv hi => ?_⟩
          obtain ⟨u, hu, ru⟩ := r.getV hv
          have hmem := dataTs_mem h2
          have e1 : (List.map dat (t :: ts))[i]? = some (dat u) := by rw [List.getElem?_map, hu]; rfl
          have e1' : (dat t :: ts.map dat)[i]? = some (dat u) := e1
          rw [hi] at e1'
          have e2 : dat u = dat (ts.foldl (fun a y => if PySem.W.dataLt (dat y) (dat a) then y else a) t) := by
            rw [fold_dat]; exact (Option.some.inj e1').symm
          have e3 := hmem u (List.mem_of_getElem? hu)
          have e4 := hmem _ (fold_mem PySem.W.dataLt ts t)
          rw [← e2] at e4
          rw [← dataT_inj _ _ _ e3 e4]
          exact ru
      obtain ⟨d, es, rfl, q1, q2, q3⟩ := key _ _ h2 h3 r hb
      exact ⟨a, vs, d, es, rfl, .of hH, q1, q2, hb, fun i v hv hi => k v H F S .refl (q3 i v hv hi)⟩
    · cases h3
  | _ => cases h1

/-! ### join, split -/
def strsT : List T → Option (List Str)
  | [] => some []
  | .str x :: ts => (strsT ts).map (x :: ·)
  | _ :: _ => none
theorem Reps.strs {K : PySem.W.Frag} : ∀ {vs : List V} {ts : List T} {xs : List Str}, Reps K F vs ts → strsT ts = some xs → vs = xs.map V.str
  | _, _, _, .nil, e => by cases e; rfl
  | _, _, _, .cons (t := t) h r, e => by
    cases t with
    | str b =>
      simp only [strsT, Option.map_eq_some_iff] at e
      obtain ⟨bs, h1, rfl⟩ := e
      rw [h.str_inv, r.strs h1]
      rfl
    | _ => cases e
def strM (t : T) : M W Str := match t with
  | .str a => ret a
  | _ => stuck
theorem strM_bnd {β : Type} {t : T} {k : Str → M W β} {r : R β} (h : bnd (strM t) k w = some (r, w')) : ∃ a, t = .str a ∧ k a w = some (r, w') := by
  cases t with
  | str a => exact ⟨a, rfl, h⟩
  | _ => cases h
/-- a method of a text with one argument -/
def fM1 (g : Str → T → Option T) (fa fb : Rho → M W T) : Rho → M W T := fun ρ => bnd (fa ρ) fun t => bnd (strM t) fun a => bnd (fb ρ) fun u => lift (g a u)
def fM1l (g : Str → T → Option (List T)) (fa fb : Rho → M W T) : Rho → M W (List T) := fun ρ => bnd (fa ρ) fun t => bnd (strM t) fun a => bnd (fb ρ) fun u => lift (g a u)
def joinT (a : Str) (t : T) : Option T := (itemsT t).bind fun ts => (strsT ts).bind fun ys => if (ys.map (·.length)).sum + ys.length * a.length ≤ 16777216 then some (.str (Txt.join a ys)) else none
def splitT (a : Str) (t : T) : Option (List T) := match t with
  | .str b => if (b.length == 0) = false ∧ a.length + 2 ≤ sizeLine then some ((Txt.split a b).map .str) else none
  | _ => none
theorem Reps.ofStrs {K : PySem.W.Frag} : ∀ (ys : List Str), Reps K F (ys.map V.str) (ys.map T.str)
  | [] => .nil
  | y :: ys => .cons (.str y) (Reps.ofStrs ys)
section
variable {o e : Expr} {fa fb : Rho → M W T} {apos pos : Pos}
theorem pv_join (ha : PVs X G E o fa) (hb : PVs X G E e fb) (hs : starEach [e] X.env = [(false, eval e X.env)] := by rfl) (hbase : attributeBase o "join" X.env (eval o X.env) = eval o X.env := by rfl) (hline : (apos.endLine == pos.line) = true := by rfl) :
    PV X G E (.Call (.Attribute o "join" apos) [e] [] pos) (fM1 joinT fa fb) := ⟨(pe_join ha.run hb.run hs hbase hline).imp fun σ H Q => by
  rintro ⟨ρ, w, F, q, w', S, hf, acc⟩
  refine tVs.bind (X := X) S hf acc.er fun t w1 x H1 F1 S1 s1 r1 hk => ?_
  obtain ⟨a, rfl, hk2⟩ := strM_bnd hk
  clear hk
  refine ⟨⟨a, r1.str⟩, ?_⟩
  refine tVs.bind (X := X) S1 hk2 (acc.mono s1 S1.dH).er fun u w2 y H2 F2 S2 s2 r2 hk => ?_
  obtain ⟨z, hz, rfl, rfl⟩ := lift_inv hk
  simp only [joinT, Option.bind_eq_some_iff] at hz
  obtain ⟨ts, e1, ys, e2, e3⟩ := hz
  split at e3
  · rename_i hl
    cases e3
    have k := acc (.str (Txt.join a ys)) H2 F2 S2 (s1.trans s2 S1.dH) (.str _)
    cases u with
    | lst us =>
      cases e1
      obtain ⟨p, vs, rfl, hH, rs⟩ := r2.lst S2
      have := rs.strs e2
      subst this
      exact ⟨a, p, ys, r1.str, rfl, .inl (.of hH), hl, k⟩
    | tup us =>
      cases e1
      obtain ⟨p, vs, rfl, _, hH, rs⟩ := r2.tup S2
      have := rs.strs e2
      subst this
      exact ⟨a, p, ys, r1.str, rfl, .inr hH, hl, k⟩
    | _ => cases e1
  · cases e3⟩
theorem pf_split (ha : PVs X G E o fa) (hb : PVs X G E e fb) (hs : starEach [e] X.env = [(false, eval e X.env)] := by rfl) (hbase : attributeBase o "split" X.env (eval o X.env) = eval o X.env := by rfl) (hline : (apos.endLine == pos.line) = true := by rfl) :
    PF X G E (.Call (.Attribute o "split" apos) [e] [] pos) (fM1l splitT fa fb) := ⟨(pe_split ha.run hb.run hs hbase hline).imp fun σ H Q => by
  rintro ⟨ρ, w, F, q, w', S, hf, acc⟩
  refine tVs.bind (X := X) S hf acc.er fun t w1 x H1 F1 S1 s1 r1 hk => ?_
  obtain ⟨a, rfl, hk2⟩ := strM_bnd hk
  clear hk
  refine ⟨⟨a, r1.str⟩, ?_⟩
  refine tVs.bind (X := X) S1 hk2 (AccF.er (X := X) acc |> fun h e z => AccE.mono (X := X) (h e z) s1.same) fun u w2 y H2 F2 S2 s2 r2 hk => ?_
  obtain ⟨z, hz, rfl, rfl⟩ := lift_inv hk
  unfold splitT at hz
  split at hz
  · rename_i b
    split at hz
    · rename_i hl
      cases hz
      exact ⟨a, b, r1.str, by rw [r2.str], hl.1, hl.2, fun p hp => acc p _ _ F2 (S2.laid hp) ((s1.trans s2 S1.dH).trans (.laid hp) S2.dH) ((s1.trans s2 S1.dH).free0 S2.dH hp) upd_same (S2.sub.free hp) (S2.fresh hp).2.1 (S2.noSlot hp) (Reps.ofStrs _)⟩
    · cases hz
  · cases hz⟩
end

/-! ### isinstance -/
/-- the built-in type of a value -/
def tyT : T → Option String
  | .non => some "NoneType"
  | .bl _ => some "bool"
  | .int _ => some "int"
  | .str _ => some "str"
  | .tup _ => some "tuple"
  | .lst _ => some "list"
  | .dct _ _ => some "dict"
  | _ => none
def isaT (n : String) (t : T) : Option T := (tyT t).bind fun a => (kitB a n).map T.bl
theorem ShR.ty {K : PySem.W.Frag} {t : T} {v : V} {a : String} (S : Sd K G ρ w σ H F) (h : ShR K ρ σ F v t) (e : tyT t = some a) : TyX K H v (.type a) := by
  cases t with
  | non => cases e; rw [h.non]; exact .base .non
  | bl b => cases e; rw [h.bl]; exact .base (.bl b)
  | int b => cases e; rw [h.int]; exact .base (.int b)
  | str b => cases e; rw [h.str]; exact .base (.str b)
  | tup ts =>
    cases e
    obtain ⟨p, vs, rfl, _, hH, _⟩ := h.tup S
    rcases hH with (hH | ⟨o, hH⟩) | ⟨o, its, n, hk, hc, _⟩
    · exact .base (.tup hH)
    · exact .fTuple hH
    · exact .kTuple hk hc
  | lst ts =>
    cases e
    obtain ⟨p, vs, rfl, hH, _⟩ := h.lst S
    exact .base (.lst hH)
  | dct ks ts =>
    cases e
    obtain ⟨p, vs, rfl, hH, _⟩ := h.dct S
    rcases hH with hH | ⟨o, hH⟩
    · exact .base (.dK hH)
    · exact .fDict hH
  | ins _ _ _ => cases e
  | raw _ => cases e
section
variable {e : Expr} {fa : Rho → M W T} {n : String} {x y : Str} {p p2 pos : Pos}
theorem pv_isa (hg : Gl X "isinstance") (hm : X.mg "isinstance" = none) (hg2 : Gl X y) (hm2 : X.mg y = none) (hv2 : bootBuiltins y = some (.type n)) (ha : PVs X G E e fa) (hn2 : y ≠ "__name__" := by decide) (hd2 : (y == ("__debug__" : Str)) = false := by decide)
    (he : starEach [e, .Name y p2] X.env = (false, eval e X.env) :: starEach [.Name y p2] X.env := by rfl) (he2 : starEach [.Name y p2] X.env = (false, eval (.Name y p2) X.env) :: starEach [] X.env := by rfl) (hpl : (backTo pos (starEach [.Name y p2] X.env)).any (·.1) = false := by rfl) :
    PV X G E (.Call (.Name "isinstance" p) [e, .Name y p2] [] pos) (f1 (isaT n) fa) :=
  ⟨(pe_callB call_isi hg hm PyProof.Rows.boot_isinstance (pa_cons ha.run (pa_cons (pe_bltn (v := .ty n) hg2 hm2 hv2 rfl hn2 hd2) pa_nil he2) he) (by decide) (by decide) he hpl).imp fun σ H Q => by
    rintro ⟨ρ, w, F, q, w', S, hf, acc⟩
    refine tVs.bind (X := X) S hf acc.er fun t w1 x H1 F1 S1 s1 r1 hk => ?_
    obtain ⟨z, hz, rfl, rfl⟩ := lift_inv hk
    simp only [isaT, Option.bind_eq_some_iff, Option.map_eq_some_iff] at hz
    obtain ⟨a, e1, b, e2, rfl⟩ := hz
    exact ⟨x, .ty n, .type a, .type n, b, rfl, .ty n, r1.ty S1 e1, kit_ty e2, acc _ H1 F1 S1 s1 (.bl _)⟩⟩
end
end
end PL

/-! PLk: freezing; unpacking; pop; dicts of the body's own; a def by its body. -/
namespace PL
open PySem PySem.Spec PyProof.Rows L2
section
variable {W : Type} {X : Cx} {G : Gm W} {E : XK} {ρ : Rho} {w w' : W} {σ : L2.St} {H F : Hp}

/-! ### names, with what they ask by default -/
theorem pvv (i : Nat) {x : Str} {pos : Pos} (hN : X.N[i]? = some x := by rfl) (hv : Vis X.env.scope x := by first | exact Or.inl rfl | exact Or.inr (Or.inl rfl) | exact Or.inr (Or.inr rfl)) (hd : (x == ("__debug__" : Str)) = false := by decide)
    (hcd : (x == ("__classdict__" : Str)) = false := by decide) : PV X G E (.Name x pos) (fVar i) := pv_var i hN hv hd hcd
theorem pvvS (i : Nat) {x : Str} {pos : Pos} (hN : X.N[i]? = some x := by rfl) (hv : Vis X.env.scope x := by first | exact Or.inl rfl | exact Or.inr (Or.inl rfl) | exact Or.inr (Or.inr rfl)) (hd : (x == ("__debug__" : Str)) = false := by decide)
    (hcd : (x == ("__classdict__" : Str)) = false := by decide) : PVs X G E (.Name x pos) (fVarS i) := pv_varS i hN hv hd hcd

/-! ### freezing -/
def frz (s : Sl) : Sl := match s with
  | .ow ts => .fz (.lst ts)
  | .od ks ts => .fz (.dct ks ts)
  | s => s
def frzAt (i : Nat) (ρ : Rho) : Rho := match ρ[i]? with
  | some s => ρ.set i (frz s)
  | none => ρ
theorem Sd.frz {K : PySem.W.Frag} (S : Sd K G ρ w σ H F) (i : Nat) : ∃ F', Same F F' ∧ Sd K G (frzAt i ρ) w σ H F' := by
  unfold frzAt
  cases hs : ρ[i]? with
  | none => exact ⟨F, Same.refl F, S⟩
  | some s =>
    have same : ∀ s', s' = s → Sd K G (ρ.set i s') w σ H F := fun s' e => by
      subst e
      have : ρ.set i s' = ρ := by
        apply List.ext_getElem?
        intro j
        by_cases h : i = j
        · subst h
          rw [List.getElem?_set_self (List.getElem?_eq_some_iff.mp hs).1, hs]
        · rw [List.getElem?_set_ne h]
      rw [this]; exact S
    have main : ∀ (p : Addr) (o : HO) (t : T), s.owns = true → PL.frz s = .fz t → σ[i]? = some (some (.ref p)) → H p = some o → F p = none → G.B p = none → Rep K (upd F p o) (.ref p) t → ∃ F', Same F F' ∧ Sd K G (ρ.set i (PL.frz s)) w σ H F' := by
      intro p o t ho ht hv hp hf hB hr
      have gr : Same F (upd F p o) := Same.updN hf
      have nd := S.ndB hB
      refine ⟨upd F p o, gr, ⟨fun b u e => ?_, S.wok, fun b db => ?_, S.dB, S.keep, S.grow.trans gr, fun b hb => ?_, fun j z hj => ?_, fun j k a b hj hk ha hb e => ?_, by simp [S.len]⟩⟩
      · by_cases h : b = p
        · subst h; rw [upd_same] at e; rw [hp]; exact e
        · rw [upd_ne h] at e; exact S.sub b u e
      · rw [upd_ne (neq_of nd db)]; exact S.dF b db
      · rw [upd_ne (neq_of (P := fun b => G.B b ≠ none) (fun z => z hB) hb)]; exact S.old b hb
      · rcases getElem?_set' hj with ⟨rfl, rfl⟩ | ⟨nj, hj⟩
        · rw [ht]; exact ⟨_, hv, hr⟩
        · have q := S.slots j z hj
          have np : ∀ p', z.owns = true → σ[j]? = some (some (V.ref p')) → p' ≠ p := fun p' hz e h => by
            subst h
            exact nj (S.apart i j _ _ hs hj ho hz (by rw [hv, e]))
          cases z with
          | un => trivial
          | fz t' => obtain ⟨v, e, r⟩ := q; exact ⟨v, e, r.mono gr⟩
          | ow ts => obtain ⟨p', vs, e, h1, h2, h3, r⟩ := q; exact ⟨p', vs, e, h1, by rw [upd_ne (np p' rfl e)]; exact h2, h3, r.mono gr⟩
          | od ks ts => obtain ⟨p', vs, e, h1, hl, h2, h3, r⟩ := q; exact ⟨p', vs, e, h1, hl, by rw [upd_ne (np p' rfl e)]; exact h2, h3, r.mono gr⟩
      · rcases getElem?_set' hj with ⟨rfl, rfl⟩ | ⟨nj, hj⟩
        · rw [ht] at ha; cases ha
        · rcases getElem?_set' hk with ⟨rfl, rfl⟩ | ⟨nk, hk⟩
          · rw [ht] at hb; cases hb
          · exact S.apart j k a b hj hk ha hb e
    cases s with
    | un => exact ⟨F, Same.refl F, same _ rfl⟩
    | fz t => exact ⟨F, Same.refl F, same _ rfl⟩
    | ow ts =>
      obtain ⟨p, vs, hv, h1, h2, h3, r⟩ := S.slots i _ hs
      exact main p _ _ rfl rfl hv h1 h2 h3 (.lst upd_same (r.mono (Same.updN h2)))
    | od ks ts =>
      obtain ⟨p, vs, hv, h1, hl, h2, h3, r⟩ := S.slots i _ hs
      exact main p _ _ rfl rfl hv h1 h2 h3 (.dct (.inl upd_same) hl (r.mono (Same.updN h2)))
theorem pds_frz (i : Nat) {sts : List Stmt} {g : Rho → M W Fl} (h : PDs X G E sts g) : PDs X G E sts fun ρ => g (frzAt i ρ) := ⟨h.run.imp fun D σ H => by
  rintro ⟨ρ, w, F, r, w', S, hf, acc⟩
  obtain ⟨F', s, S'⟩ := S.frz i
  exact ⟨_, w, F', r, w', S', hf, AccD.mono (X := X) acc s⟩⟩
theorem pd_frz (i : Nat) {st : Stmt} {g : Rho → M W Fl} (h : PD X G E st g) : PD X G E st fun ρ => g (frzAt i ρ) := ⟨h.run.imp fun D σ H => by
  rintro ⟨ρ, w, F, r, w', S, hf, acc⟩
  obtain ⟨F', s, S'⟩ := S.frz i
  exact ⟨_, w, F', r, w', S', hf, AccD.mono (X := X) acc s⟩⟩

/-! ### a, b = e -/
section
variable {e tg : Expr} {fa : Rho → M W T} {is : List Nat} {h : T → Rho → Option Rho} {pos : Pos}
def dUnp (h : T → Rho → Option Rho) (fa : Rho → M W T) : Rho → M W Fl := fun ρ => bnd (fa ρ) fun t => bnd (lift (h t ρ)) fun ρ' => ret (.nx ρ')
theorem pd_unp (ha : PV X G E e fa) (hg : PGt X G tg is h) (hs : swapsWithSole [tg] e pos.line X.env = pure false := by rfl) (hw : swappedStores [tg] e X.env = pure none := by rfl)
    (h1 : (assignEach [tg] X.env).map (·.2) = [assign tg X.env] := by rfl) : PD X G E (.Assign [tg] e pos) (dUnp h fa) := ⟨(ps_asg ha.run hg.run hs hw h1).imp fun D σ H => by
  rintro ⟨ρ, w, F, r, w', S, hf, acc⟩
  refine tV.bind (X := X) S hf acc.er fun t w1 x H1 F1 S1 s1 r1 hk => ?_
  obtain ⟨ρ', hh, hk⟩ := lift_bnd hk
  obtain ⟨rfl, rfl⟩ := ret_inv hk
  exact ⟨ρ, _, F1, t, ρ', S1, r1, hh, fun σ' S' _ _ => acc σ' H1 F1 S' s1.same⟩⟩
end

/-! ### pop -/
/-- i's list loses its k-th item -/
def popAt {β : Type} (i : Nat) (ρ : Rho) (t : T) (k : Rho → T → M W β) : M W β := owM i ρ fun ts => bnd (intM t) fun n => match ixN ts.length n with
  | some j => match ts[j]? with
    | some u => if -(2 ^ 63) ≤ n ∧ n < 2 ^ 63 then k (ρ.set i (.ow (ts.eraseIdx j))) u else stuck
    | none => stuck
  | none => stuck
theorem popAt_inv {β : Type} {i : Nat} {t : T} {k : Rho → T → M W β} {r : R β} (h : popAt i ρ t k w = some (r, w')) :
    ∃ ts n j u, ρ[i]? = some (.ow ts) ∧ t = .int n ∧ ixN ts.length n = some j ∧ ts[j]? = some u ∧ -(2 ^ 63) ≤ n ∧ n < 2 ^ 63 ∧ k (ρ.set i (.ow (ts.eraseIdx j))) u w = some (r, w') := by
  obtain ⟨ts, h1, h2⟩ := owM_inv h
  obtain ⟨n, rfl, h3⟩ := intM_bnd h2
  cases e : ixN ts.length n with
  | none => rw [e] at h3; cases h3
  | some j =>
    rw [e] at h3
    cases e2 : ts[j]? with
    | none => simp only [e2] at h3; cases h3
    | some u =>
      simp only [e2] at h3
      split at h3
      · exact ⟨ts, n, j, u, h1, rfl, e, e2, by omega, by omega, h3⟩
      · cases h3
section
variable {e : Expr} {fa : Rho → M W T} {pos : Pos}
/-- y = x.pop(e) -/
def dPop (j i : Nat) (fa : Rho → M W T) : Rho → M W Fl := fun ρ => owM i ρ fun _ => bnd (fa ρ) fun t => popAt i ρ t fun ρ' u => ret (.nx (ρ'.set j (.fz u)))
theorem pop_core {te : TE} {i : Nat} {ts : List T} {p : Addr} {vs : List V} {n : Int} {j : Nat} {u : T} (S : Sd X.K G ρ w σ H F) (h0 : ρ[i]? = some (.ow ts)) (hv : σ[i]? = some (some (.ref p))) (h1 : H p = some (.lst vs)) (r : Reps X.K F vs ts)
    (e : ixN ts.length n = some j) (e2 : ts[j]? = some u) (b1 : -(2 ^ 63) ≤ n) (b2 : n < 2 ^ 63) (Q : VK) (k : ∀ v, Rep X.K F v u → Sd X.K G (ρ.set i (.ow (ts.eraseIdx j))) w σ (upd H p (.lst (vs.eraseIdx j))) F → Q v (upd H p (.lst (vs.eraseIdx j)))) :
    rPopAt (.ref p) [.int n] H Q := by
  obtain ⟨v, hv2, rv⟩ := r.get e2
  obtain ⟨q1, _⟩ := ixN_seq e
  exact ⟨p, vs, n, j, v, rfl, rfl, h1, b1, b2, by rw [r.length]; exact q1, hv2, k v rv (S.putL h0 hv h1 (r.eraseIdx j))⟩
theorem pd_pop (j i : Nat) {y x : Str} {py px ap cp : Pos} (ha : PV X G E e fa) (hN : X.N.Nodup) (hj : X.N[j]? = some y) (hy : Loc X.env.scope y)
    (hpe : ∀ {te : TE}, PE X e te → PE X (.Call (.Attribute (.Name x px) "pop" ap) [e] [] cp) (tBM X.K "list" rPopAt (tVar i) (tCons te tNil)))
    (hs : swapsWith (.Call (.Attribute (.Name x px) "pop" ap) [e] [] cp) (some (.Name y py)) pos.line X.env = pure false := by rfl)
    (hf : X.fn y = true ∨ X.env.scope.names.lookup y = some .local := by first | exact .inl rfl | exact .inr rfl | assumption) : PD X G E (.Assign [.Name y py] (.Call (.Attribute (.Name x px) "pop" ap) [e] [] cp) pos) (dPop j i fa) :=
  ⟨(ps_set hN hj hy (hpe ha.run) hs hf).imp fun D σ H => by
  rintro ⟨ρ, w, F, r, w', S, hf, acc⟩
  obtain ⟨ts, hi, hf⟩ := owM_inv hf
  obtain ⟨p, vs, h0, h1, h2, h3, rv⟩ := S.own hi
  refine ⟨.ref p, h0, .inl ⟨rfl, vs, .of h1⟩, ?_⟩
  refine tV.bind (X := X) S hf acc.er fun t w1 y H1 F1 S1 s1 r1 hk => ?_
  obtain ⟨ts', n, jj, u, k1, rfl, k3, k4, k5, k6, k7⟩ := popAt_inv hk
  rw [hi] at k1; cases k1
  obtain ⟨rfl, rfl⟩ := ret_inv k7
  obtain rfl := r1.int_inv
  have h1' : H1 p = some (.lst vs) := s1.keep p _ h1 (S.ndB h3)
  exact pop_core (te := fun _ _ _ => True) S1 hi h0 h1' (rv.mono s1.same) k3 k4 k5 k6 _ fun v rv' S' => acc _ _ F1 (S'.setF rv' j) s1.same⟩
/-- y.append(x.pop(e)) -/
def dAppPop (j i : Nat) (fa : Rho → M W T) : Rho → M W Fl := fun ρ => owM j ρ fun us => owM i ρ fun _ => bnd (fa ρ) fun t => popAt i ρ t fun ρ' u => if us.length < sizeLine ∧ i ≠ j then ret (.nx (ρ'.set j (.ow (us ++ [u])))) else stuck
theorem pd_appPop (j i : Nat) {y x : Str} {py px ap cp bp dp : Pos} (ha : PV X G E e fa)
    (hpe : ∀ {te : TE}, PE X e te → PE X (.Call (.Attribute (.Name y py) "append" bp) [.Call (.Attribute (.Name x px) "pop" ap) [e] [] cp] [] dp) (tBM X.K "list" rAppend (tVar j) (tCons (tBM X.K "list" rPopAt (tVar i) (tCons te tNil)) tNil)))
    (hs : swapsWith (.Call (.Attribute (.Name y py) "append" bp) [.Call (.Attribute (.Name x px) "pop" ap) [e] [] cp] [] dp) none pos.line X.env = pure false := by rfl) :
    PD X G E (.Expr (.Call (.Attribute (.Name y py) "append" bp) [.Call (.Attribute (.Name x px) "pop" ap) [e] [] cp] [] dp) pos) (dAppPop j i fa) :=
  ⟨(ps_expr (hpe ha.run) hs).imp fun D σ H => by
  rintro ⟨ρ, w, F, r, w', S, hf, acc⟩
  obtain ⟨us, hj, hf⟩ := owM_inv hf
  obtain ⟨ts, hi, hf⟩ := owM_inv hf
  obtain ⟨q, zs, g0, g1, g2, g3, rz⟩ := S.own hj
  obtain ⟨p, vs, h0, h1, h2, h3, rv⟩ := S.own hi
  refine ⟨.ref q, g0, .inl ⟨rfl, zs, .of g1⟩, .ref p, h0, .inl ⟨rfl, vs, .of h1⟩, ?_⟩
  refine tV.bind (X := X) S hf acc.er fun t w1 y H1 F1 S1 s1 r1 hk => ?_
  obtain ⟨ts', n, jj, u, k1, rfl, k3, k4, k5, k6, k7⟩ := popAt_inv hk
  rw [hi] at k1; cases k1
  split at k7
  · rename_i hl
    obtain ⟨rfl, rfl⟩ := ret_inv k7
    obtain rfl := r1.int_inv
    have h1' : H1 p = some (.lst vs) := s1.keep p _ h1 (S.ndB h3)
    have g1' : H1 q = some (.lst zs) := s1.keep q _ g1 (S.ndB g3)
    have nqp : q ≠ p := fun z => hl.2 (S.apart i j _ _ hi hj rfl rfl (by rw [h0, g0, z]))
    refine pop_core (te := fun _ _ _ => True) S1 hi h0 h1' (rv.mono s1.same) k3 k4 k5 k6 _ fun v rv' S' => ?_
    have hj' : (ρ.set i (.ow (ts.eraseIdx jj)))[j]? = some (.ow us) := by rw [List.getElem?_set_ne hl.2]; exact hj
    have g1'' : (upd H1 p (.lst (vs.eraseIdx jj))) q = some (.lst zs) := by rw [upd_ne nqp]; exact g1'
    exact ⟨q, zs, v, rfl, rfl, g1'', by rw [rz.length]; exact hl.1, acc _ _ F1 (S'.putL hj' g0 g1'' ((rz.mono s1.same).append (.one rv'))) s1.same⟩
  · cases k7⟩
end

/-! ### a dict of the body's own -/
def keyT : T → Option Key
  | .str x => some (.inr x)
  | .int i => some (.inl i)
  | _ => none
def hasK (ks : List Key) (k : Key) : Bool := ks.any fun k' => decide (k' = k)
def putD (ks : List Key) (ts : List T) (k : Key) (t : T) : List Key × List T := if hasK ks k = true then (ks, List.zipWith (fun k' t' => if k' = k then t else t') ks ts) else (ks ++ [k], ts ++ [t])
theorem putK_zip (k : Key) (v : V) : ∀ (ks : List Key) (vs : List V), ks.length = vs.length → putK (ks.zip vs) k v = if hasK ks k = true then ks.zip (List.zipWith (fun k' v' => if k' = k then v else v') ks vs) else (ks ++ [k]).zip (vs ++ [v]) := by
  have any : ∀ (ks : List Key) (vs : List V), ks.length = vs.length → ((ks.zip vs).any fun kv => decide (kv.1 = k)) = hasK ks k := by
    intro ks
    induction ks with
    | nil => intro vs _; rfl
    | cons k' ks ih =>
      intro vs h
      cases vs with
      | nil => cases h
      | cons v' vs =>
        unfold hasK at ih ⊢
        simp only [List.zip_cons_cons, List.any_cons, ih vs (by simpa using h)]
  intro ks vs h
  unfold putK
  rw [any ks vs h]
  by_cases hk : hasK ks k = true
  · rw [if_pos hk, if_pos hk]
    clear hk any
    induction ks generalizing vs with
    | nil => rfl
    | cons k' ks ih =>
      cases vs with
      | nil => cases h
      | cons v' vs =>
        simp only [List.zip_cons_cons, List.map_cons, List.zipWith_cons_cons, ih vs (by simpa using h)]
        by_cases hk : k' = k <;> simp [hk]
  · rw [if_neg hk, if_neg hk, List.zip_append h]
    rfl
theorem Reps.put {K : PySem.W.Frag} {k : Key} {v : V} {t : T} (hv : Rep K F v t) : ∀ {ks : List Key} {vs : List V} {ts : List T}, Reps K F vs ts → Reps K F (List.zipWith (fun k' v' => if k' = k then v else v') ks vs) (List.zipWith (fun k' t' => if k' = k then t else t') ks ts)
  | [], _, _, _ => by simpa using Reps.nil
  | _ :: _, _, _, .nil => by simpa using Reps.nil
  | k' :: ks, _, _, .cons h r => by
    simp only [List.zipWith_cons_cons]
    by_cases hk : k' = k
    · simp only [hk, if_true]; exact .cons hv (Reps.put hv r)
    · simp only [hk, if_false]; exact .cons h (Reps.put hv r)
theorem Sd.putO {K : PySem.W.Frag} {i : Nat} {ks ks' : List Key} {ts us : List T} {p : Addr} {vs zs : List V} (S : Sd K G ρ w σ H F) (hi : ρ[i]? = some (.od ks ts)) (hv : σ[i]? = some (some (.ref p))) (hp : H p = some (.dK (ks.zip vs))) (hl : ks'.length = zs.length) (r : Reps K F zs us) :
    Sd K G (ρ.set i (.od ks' us)) w σ (upd H p (.dK (ks'.zip zs))) F := by
  obtain ⟨p', vs', e', h1, hl', h2, h3, _⟩ := S.slots i _ hi
  rw [hv] at e'; cases e'
  have nd := S.ndB h3
  have ne : ∀ b o, F b = some o → b ≠ p := fun b o e z => by subst z; rw [h2] at e; cases e
  refine ⟨fun b o e => by rw [upd_ne (ne b o e)]; exact S.sub b o e, G.O.stay S.wok fun b db => upd_ne (neq_of nd db), S.dF, S.dB, fun b o e d => ?_, S.grow, S.old, fun j s hj => ?_, fun j k s t hj hk hs ht e => ?_, by simp [S.len]⟩
  · rw [upd_ne (fun z => by subst z; rw [h3] at e; cases e)]; exact S.keep b o e d
  · rcases getElem?_set' hj with ⟨rfl, rfl⟩ | ⟨nj, hj⟩
    · exact ⟨p, zs, hv, upd_same, hl, h2, h3, r⟩
    · have q := S.slots j s hj
      have np : ∀ p', s.owns = true → σ[j]? = some (some (.ref p')) → p' ≠ p := fun p' ho e z => by
        subst z
        exact nj (S.apart i j _ s hi hj rfl ho (by rw [hv, e]))
      cases s with
      | un => trivial
      | fz t => exact q
      | ow ts' =>
        obtain ⟨p', vs', e, q1, q2⟩ := q
        exact ⟨p', vs', e, by rw [upd_ne (np p' rfl e)]; exact q1, q2⟩
      | od ks' ts' =>
        obtain ⟨p', vs', e, q1, q2⟩ := q
        exact ⟨p', vs', e, by rw [upd_ne (np p' rfl e)]; exact q1, q2⟩
  · have old : ∀ {j : Nat} {s : Sl}, (ρ.set i (.od ks' us))[j]? = some s → s.owns = true → ∃ s', ρ[j]? = some s' ∧ s'.owns = true := fun {j s} hj hs => by
      rcases getElem?_set' hj with ⟨rfl, rfl⟩ | ⟨_, hj⟩
      · exact ⟨_, hi, rfl⟩
      · exact ⟨s, hj, hs⟩
    obtain ⟨s', a1, a2⟩ := old hj hs
    obtain ⟨t', b1, b2⟩ := old hk ht
    exact S.apart j k s' t' a1 b1 a2 b2 e
def odM {β : Type} (i : Nat) (ρ : Rho) (k : List Key → List T → M W β) : M W β := match ρ[i]? with
  | some (.od ks ts) => k ks ts
  | _ => stuck
theorem odM_inv {β : Type} {i : Nat} {k : List Key → List T → M W β} {r : R β} (h : odM i ρ k w = some (r, w')) : ∃ ks ts, ρ[i]? = some (.od ks ts) ∧ k ks ts w = some (r, w') := by
  unfold odM at h
  cases e : ρ[i]? with
  | none => rw [e] at h; cases h
  | some s =>
    rw [e] at h
    cases s with
    | od ks ts => exact ⟨ks, ts, rfl, h⟩
    | un => cases h
    | fz t => cases h
    | ow ts => cases h
section
variable {e v : Expr} {fe fv : Rho → M W T} {pos : Pos}
/-- x[e] = v, x the body's own dict -/
def dPut (i : Nat) (fe fv : Rho → M W T) : Rho → M W Fl := fun ρ => odM i ρ fun _ _ => bnd (fv ρ) fun t => bnd (fe ρ) fun u => bnd (lift (keyT u)) fun k => odM i ρ fun ks ts => if ks.length < sizeLine then ret (.nx (ρ.set i (.od (putD ks ts k t).1 (putD ks ts k t).2))) else stuck
theorem Sd.ownD {K : PySem.W.Frag} {i : Nat} {ks : List Key} {ts : List T} (S : Sd K G ρ w σ H F) (h : ρ[i]? = some (.od ks ts)) : ∃ p vs, σ[i]? = some (some (.ref p)) ∧ H p = some (.dK (ks.zip vs)) ∧ ks.length = vs.length ∧ F p = none ∧ G.B p = none ∧ Reps K F vs ts := S.slots i _ h
theorem pd_put (i : Nat) {x : Str} {px pos' : Pos} (hu : X.A.units + 1 < cLine) (hx : PE X (.Name x px) (tVar i)) (he : PV X G E e fe) (hv : PV X G E v fv) (hs : swapsWith v (some (.Subscript (.Name x px) e pos')) pos.line X.env = pure false := by rfl) :
    PD X G E (.Assign [.Subscript (.Name x px) e pos'] v pos) (dPut i fe fv) := ⟨(ps_dput hu hx he.run hv.run hs).imp fun D σ H => by
  rintro ⟨ρ, w, F, r, w', S, hf, acc⟩
  obtain ⟨ks, ts, hi, hf⟩ := odM_inv hf
  refine tV.bind (X := X) S hf acc.er fun t w1 y H1 F1 S1 s1 r1 hk => ?_
  obtain ⟨p, vs, h0, h1, hl, h2, h3, rv⟩ := S1.ownD hi
  refine ⟨.ref p, h0, ?_⟩
  refine tV.bind (X := X) S1 hk (AccD.mono (X := X) acc s1.same).er fun u w2 z H2 F2 S2 s2 r2 hk => ?_
  obtain ⟨k, hkey, hk⟩ := lift_bnd hk
  obtain ⟨ks', ts', hi', hk⟩ := odM_inv hk
  rw [hi] at hi'; cases hi'
  split at hk
  · rename_i hsz
    obtain ⟨rfl, rfl⟩ := ret_inv hk
    have h1' : H2 p = some (.dK (ks.zip vs)) := s2.keep p _ h1 (S1.ndB h3)
    have ez : z = kV k := by
      cases u with
      | str x => cases hkey; exact r2.str_inv
      | int x => cases hkey; exact r2.int_inv
      | _ => cases hkey
    have elen : (ks.zip vs).length < sizeLine := by rw [List.length_zip]; omega
    refine ⟨p, _, rfl, by rw [ez]; exact DPut.k h1' elen, ?_⟩
    rw [putK_zip k y ks vs hl]
    have ry := r1.mono s2.same
    have rr := rv.mono s2.same
    unfold putD at acc
    split
    · rename_i hh
      rw [if_pos hh] at acc
      exact acc _ _ F2 (S2.putO hi h0 h1' (by simp [hl]) (rr.put ry)) (s1.same.trans s2.same)
    · rename_i hh
      rw [if_neg hh] at acc
      exact acc _ _ F2 (S2.putO hi h0 h1' (by simp [hl]) (rr.append (.one ry))) (s1.same.trans s2.same)
  · cases hk⟩
/-- d.get(k, x) -/
def getT (d k x : T) : Option T := match d with
  | .dct ks ts => (keyT k).map fun k => (((ks.zip ts).find? fun kv => decide (kv.1 = k)).map (·.2)).getD x
  | _ => none
def f3 (g : T → T → T → Option T) (fa fb fc : Rho → M W T) : Rho → M W T := fun ρ => bnd (fa ρ) fun t => bnd (lift (match t with | .dct _ _ => some () | _ => none)) fun _ => bnd (fb ρ) fun u => bnd (fc ρ) fun v => lift (g t u v)
theorem pv_dget2 {o a b : Expr} {fo fa fb : Rho → M W T} {apos cpos : Pos} (hu : X.A.units + 1 < cLine) (ho : PVs X G E o fo) (ha : PV X G E a fa) (hb : PV X G E b fb) (m : M2 X o "get" apos a b cpos) :
    PV X G E (.Call (.Attribute o "get" apos) [a, b] [] cpos) (f3 getT fo fa fb) := ⟨(pe_dget2 hu ho.run ha.run hb.run m).imp fun σ H Q => by
  rintro ⟨ρ, w, F, r, w', S, hf, acc⟩
  refine tVs.bind (X := X) S hf acc.er fun t w1 x H1 F1 S1 s1 r1 hk => ?_
  obtain ⟨_, ht, hk2⟩ := lift_bnd hk
  clear hk
  cases t with
  | dct ks ts =>
    obtain ⟨p, vs, rfl, hp, _⟩ := r1.dct S1
    refine ⟨p, rfl, .inl ⟨_, hp⟩, ?_⟩
    refine tV.bind (X := X) S1 hk2 (acc.mono s1 S1.dH).er fun u w2 y H2 F2 S2 s2 r2 hk => ?_
    refine tV.bind (X := X) S2 hk (acc.mono (s1.trans s2 S1.dH) S2.dH).er fun v w3 z H3 F3 S3 s3 r3 hk => ?_
    obtain ⟨zz, hz, rfl, rfl⟩ := lift_inv hk
    simp only [getT, Option.map_eq_some_iff] at hz
    obtain ⟨k, hkey, rfl⟩ := hz
    obtain ⟨p', vs', e, hp3, hl3, rs⟩ := ((r1.mono s2.same).mono s3.same).dct S3
    cases e
    have ey : y = kV k := by
      cases u with
      | str x => cases hkey; exact r2.str_inv
      | int x => cases hkey; exact r2.int_inv
      | _ => cases hkey
    have g := (s1.trans s2 S1.dH).trans s3 S2.dH
    refine ⟨_, by rw [ey]; exact .inl ⟨_, _, hp3, rfl, rfl⟩, ?_⟩
    rcases rs.valV (k := k) hl3 with ⟨e1, e2⟩ | ⟨v', t', e1, e2, rv⟩
    · rw [e1] at acc; rw [e2]; exact acc z H3 F3 S3 g r3
    · rw [e1] at acc; rw [e2]; exact acc v' H3 F3 S3 g rv
  | _ => cases ht⟩
end
end
end PL

/-! PLl: a def by its body; the module's constants. -/
namespace PL
open PySem PySem.Spec PyProof.Rows L2
section
variable {W : Type} {P : Program} {w : World} {K : PySem.W.Frag} {mg : Str → Option Value} {base : Heap}
/-- a def of the module -/
structure DefAt (K : PySem.W.Frag) (mg : Str → Option Value) (x : Str) (st : Stmt) : Prop where
  ex : ∃ f fd, Fun K x x st f fd ∧ mg x = some (.ref f)
/-- a def or method by its body; no repr is under way around it -/
theorem body_ok {x qual : Str} {st : Stmt} {f : Addr} {fd : FuncData} {N ps : List Str} {n m k : Nat} {g : Rho → M W Fl} (F : Fun K x qual st f fd) (S : FnScope N ps (defScope st)) (hps : ps.length = n) (hN : N.length = n + m)
    (hbody : ∀ (cdv : Value) (A : Around) (outer : List PySem.Env) (s : Shared) (H : Hp) (E : XK) (G : Gm W), Room k (A.deeper (envOfC qual (defScope st) s.heap.objs.size f cdv)) → (A.deeper (envOfC qual (defScope st) s.heap.objs.size f cdv)).guards = some [] →
      PDs (cxOf (L2.CX P w) P w K mg base N qual (defScope st) f cdv A outer s H E) G E (defBody st) g) :
    FnG P w K mg base (L2.CX P w) (k + 1) f fd ps (spF K n (run m g)) := by
  obtain ⟨oc, od, kV, doc, pm, an, cdv, ct, osl, rfl, lk, hcd⟩ := F.ex
  have hlen : ∀ vs H Q E, spF K n (run m g) vs H Q E → vs.length = ps.length := fun vs H Q E h => by rw [spF.len _ _ _ _ h, hps]
  refine ⟨hlen, fun A outer s H args us vs Q E hr hgd e0 hb r hsp => ?_⟩
  have KX : K.In s.heap := e0.mod.kin.keeps fun b o e => (e0.bs b o e).1
  have hkind : ∀ y ∈ ps.zip us, (defScope st).names.lookup y.1 = some .local ∨ ((defScope st).names.lookup y.1 = some .cell ∧ ((cellsFrom (s.heap.objs.size + 1) (defScope st).names []).lookup y.1).isSome = true) := fun ⟨z, v⟩ hy =>
    (S.par z (List.of_mem_zip hy).1).imp id fun q => ⟨q, PySem.W.cellsFrom_some _ _ _ (.inl q)⟩
  refine codeAny_call_function hr.depth (KX _ _ lk) rfl S.co S.gen rfl (PySem.W.codeRec_of KX hcd) (hb _ _ _ _ (wpAny_newFunctionEnv_cells S.kind hkind fun env he s1 e1 => ?_))
  subst he
  obtain ⟨G, hG⟩ := spF.body (X := cxOf (L2.CX P w) P w K mg base N qual (defScope st) f cdv A outer s H E) (E := E) (N := N) hsp hN
  have I : Inv (cxOf (L2.CX P w) P w K mg base N qual (defScope st) f cdv A outer s H E) [] (start N vs) H s1 := inv_start S hr.hd e0 (hlen _ _ _ _ hsp) r e1
  refine ⟨(e0.mod.nolimit.keeps fun b o e => (e0.bs b o e).1).keeps e1.toInCall.keep, codeAny_func (wpAny_mono ((hbody cdv A outer s H E G (hr.deeper _) hgd).run.run [] s1 (start N vs) H _ I hG) (fun fl s' hs => ?_) fun e s' hs => hs)⟩
  cases fl with
  | ret u =>
    obtain ⟨v, σ', H', J, rv, q⟩ := hs
    exact ⟨v, H', J.os, J.bare, J.base, J.hok, rv, q⟩
  | next =>
    obtain ⟨σ', H', J, q⟩ := hs
    exact ⟨.non, H', J.os, J.bare, J.base, J.hok, rfl, q⟩
  | brk =>
    obtain ⟨_, _, _, q⟩ := hs
    exact q.elim
  | cont =>
    obtain ⟨_, _, _, q⟩ := hs
    exact q.elim
theorem def_ok {x : Str} {st : Stmt} {N ps : List Str} {n m k : Nat} {g : Rho → M W Fl} (D : DefAt K mg x st) (S : FnScope N ps (defScope st)) (hps : ps.length = n) (hN : N.length = n + m)
    (hb : ∀ (kV doc pm : Value) (an : Option Addr) (cdv ct : Value) (us : List Value), us.length = ps.length → bindArgs (PySem.W.fnOf x x (defArgs st) (defBody st) (defScope st) .none kV doc pm an cdv ct) ⟨us, []⟩ = pure (ps.zip us))
    (hbody : ∀ (f : Addr) (cdv : Value) (A : Around) (outer : List PySem.Env) (s : Shared) (H : Hp) (E : XK) (G : Gm W), Room k (A.deeper (envOfC x (defScope st) s.heap.objs.size f cdv)) → (A.deeper (envOfC x (defScope st) s.heap.objs.size f cdv)).guards = some [] →
      PDs (cxOf (L2.CX P w) P w K mg base N x (defScope st) f cdv A outer s H E) G E (defBody st) g) :
    DefOk (L2.CX P w) P w K mg base (k + 1) x n (run m g) := by
  obtain ⟨f, fd, F, hm⟩ := D.ex
  exact ⟨f, fd, ps, body_ok F S hps hN (hbody f), hm, F.kp, F.binds hb⟩
/-- a method -/
structure MethOk (P : Program) (w : World) (K : PySem.W.Frag) (mg : Str → Option Value) (base : Heap) (k : Nat) (g : Addr) (n : Nat) (Fn : List T → M W T) : Prop where
  ex : ∃ fd ps, FnG P w K mg base (L2.CX P w) k g fd ps (spF K n Fn) ∧ Binds K fd ps []
theorem meth_ok {x qual : Str} {st : Stmt} {f : Addr} {N ps : List Str} {n m k : Nat} {g : Rho → M W Fl} (D : ∃ fd, Fun K x qual st f fd) (S : FnScope N ps (defScope st)) (hps : ps.length = n) (hN : N.length = n + m)
    (hb : ∀ (kV doc pm : Value) (an : Option Addr) (cdv ct : Value) (us : List Value), us.length = ps.length → bindArgs (PySem.W.fnOf x qual (defArgs st) (defBody st) (defScope st) .none kV doc pm an cdv ct) ⟨us, []⟩ = pure (ps.zip us))
    (hbody : ∀ (cdv : Value) (A : Around) (outer : List PySem.Env) (s : Shared) (H : Hp) (E : XK) (G : Gm W), Room k (A.deeper (envOfC qual (defScope st) s.heap.objs.size f cdv)) → (A.deeper (envOfC qual (defScope st) s.heap.objs.size f cdv)).guards = some [] →
      PDs (cxOf (L2.CX P w) P w K mg base N qual (defScope st) f cdv A outer s H E) G E (defBody st) g) :
    MethOk P w K mg base (k + 1) f n (run m g) := by
  obtain ⟨fd, F⟩ := D
  exact ⟨fd, ps, body_ok F S hps hN hbody, F.binds hb⟩
/-- a def of which nothing is asked -/
theorem def_stuck {CX : CXT} {x : Str} {st : Stmt} {n k : Nat} {ps : List Str} (D : DefAt K mg x st) (hps : ps.length = n)
    (hb : ∀ (kV doc pm : Value) (an : Option Addr) (cdv ct : Value) (us : List Value), us.length = ps.length → bindArgs (PySem.W.fnOf x x (defArgs st) (defBody st) (defScope st) .none kV doc pm an cdv ct) ⟨us, []⟩ = pure (ps.zip us)) :
    DefOk CX P w K mg base k x n (fun _ => stuck (W := W)) := by
  obtain ⟨f, fd, F, hm⟩ := D.ex
  refine ⟨f, fd, ps, ⟨fun vs H Q E h => by rw [spF.len _ _ _ _ h, hps], fun A outer s H args us vs Q E hr _ he hb hv hs => ?_⟩, hm, F.kp, F.binds hb⟩
  obtain ⟨_, _, _, _, _, _, _, _, _, _, _, z, _⟩ := hs
  cases z
theorem DefOk.mono {CX : CXT} {x : Str} {n j k : Nat} {Fn : List T → M W T} (D : DefOk CX P w K mg base j x n Fn) (h : j ≤ k) : DefOk CX P w K mg base k x n Fn := by
  obtain ⟨f, fd, ps, F, r⟩ := D.ex
  exact ⟨f, fd, ps, F.mono h, r⟩
/-- a constant of the module -/
structure ConstAt (K : PySem.W.Frag) (mg : Str → Option Value) (x : Str) (t : T) : Prop where
  ex : ∃ v u, mg x = some u ∧ RelV v u ∧ ∀ F, Rep K F v t
theorem ConstAt.int {x : Str} {i : Int} {t : Tok} (h : mg x = some (.int i t)) : ConstAt K mg x (.int i) := ⟨.int i, _, h, ⟨t, rfl⟩, fun _ => .int i⟩
theorem ConstAt.str {x y : Str} {t : Tok} (h : mg x = some (.str y t)) : ConstAt K mg x (.str y) := ⟨.str y, _, h, ⟨t, rfl⟩, fun _ => .str y⟩
theorem Reps.strsV {F : Hp} : ∀ (ys : List Str), Reps K F (ys.map V.str) (ys.map T.str) := Reps.ofStrs
theorem ConstAt.strs {x : Str} {a : Addr} {dd : Option Addr} {vs : List Value} {ys : List Str} {n : Nat} {sl : Array (Option Value)} (h : mg x = some (.ref a)) (l : K.lookup a = some ⟨.type "tuple", dd, .seq vs.toArray n, sl⟩) (hv : Vals (ys.map V.str) vs) (hs : vs.length ≤ sizeLine) : ConstAt K mg x (.tup (ys.map T.str)) :=
  ⟨.ref a, _, h, rfl, fun F => .tup (.inr ⟨_, vs.toArray, n, l, rfl, rfl, by simpa using hs, by simpa using hv⟩) (Reps.ofStrs ys)⟩
variable {X : Cx} {G : Gm W} {E : XK}
theorem pv_gl {x : Str} {t : T} {pos : Pos} (h : ConstAt X.K X.mg x t) (hg : Gl X x := by rfl) (hd : (x == ("__debug__" : Str)) = false := by decide) : PV X G E (.Name x pos) (fC t) := by
  obtain ⟨v, u, h1, h2, h3⟩ := h.ex
  exact pv_glob hg h1 h2 h3 hd
theorem hu200 {A : Around} {k : Nat} (hr : Room k A) : A.units + 200 < cLine := by have := hr.un; omega
end
end PL

/-! PLm: comprehensions with two clauses; minus, reversed, a key in a dict, smaller displays and calls. -/
namespace PL
open PySem PySem.Spec PyProof.Rows L2
section
variable {W : Type} {X : Cx} {G : Gm W} {E : XK} {ρ : Rho} {w w' : W} {σ : L2.St} {H F : Hp}

def comp2D (vs : List Nat) (h : T → Rho → Option Rho) (fi1 : Rho → M W (List T)) (vs1 : List Nat) (h1 : T → Rho → Option Rho) (gt1 : Rho → M W Bool) (ge : Rho → M W T) (ρ : Rho) : List T → M W (List T)
  | [] => ret []
  | t :: ts => bnd (lift (h t (wipeR ρ vs))) fun ρ1 => bnd (noEr (fi1 ρ1)) fun ts1 => bnd (compD vs1 h1 gt1 ge ρ1 ts1) fun us => bnd (comp2D vs h fi1 vs1 h1 gt1 ge ρ ts) fun zs => ret (us ++ zs)
def fLc2 (fi : Rho → M W (List T)) (vs : List Nat) (h : T → Rho → Option Rho) (fi1 : Rho → M W (List T)) (vs1 : List Nat) (h1 : T → Rho → Option Rho) (gt1 : Rho → M W Bool) (ge : Rho → M W T) : Rho → M W (List T) :=
  fun ρ => bnd (fi ρ) fun ts => bnd (comp2D vs h fi1 vs1 h1 gt1 ge ρ ts) fun us => if us.length ≤ sizeLine then ret us else stuck
theorem comp2D_ok {vs : List Nat} {h : T → Rho → Option Rho} {fi1 : Rho → M W (List T)} {vs1 : List Nat} {h1 : T → Rho → Option Rho} {gt1 : Rho → M W Bool} {ge : Rho → M W T} : ∀ {ts : List T} {w w' : W} {r : R (List T)}, comp2D vs h fi1 vs1 h1 gt1 ge ρ ts w = some (r, w') → ∃ us, r = .ok us
  | [], w, w', r, e => ⟨[], (ret_inv e).1⟩
  | t :: ts, w, w', r, e => by
    unfold comp2D at e
    obtain ⟨ρ1, _, e⟩ := lift_bnd e
    obtain ⟨b, w1, _, e⟩ := noEr_bnd e
    rcases bnd_inv e with ⟨us, w3, h3, h4⟩ | ⟨er, h3, rfl⟩
    · rcases bnd_inv h4 with ⟨zs, w5, h5, h6⟩ | ⟨er, h5, rfl⟩
      · exact ⟨_, (ret_inv h6).1⟩
      · obtain ⟨us, z⟩ := comp2D_ok h5
        cases z
    · obtain ⟨us, z⟩ := compD_ok h3
      cases z
/-- a target owns nothing -/
def NoOwn (h : T → Rho → Option Rho) : Prop := ∀ t ρ ρ', h t ρ = some ρ' → ∀ (i : Nat) (s : Sl), ρ'[i]? = some s → s.owns = true → ρ[i]? = some s
theorem noOwn_gN {i : Nat} : NoOwn (gN i) := fun t ρ ρ' e j s hj ho => by
  cases e
  rcases getElem?_set' hj with ⟨_, rfl⟩ | ⟨_, h⟩
  · cases ho
  · exact h
theorem noOwn_gT2 {i j : Nat} : NoOwn (gT2 i j) := fun t ρ ρ' e k s hk ho => by
  unfold gT2 at e
  split at e
  · cases e
    rcases getElem?_set' hk with ⟨_, rfl⟩ | ⟨_, hk⟩
    · cases ho
    · rcases getElem?_set' hk with ⟨_, rfl⟩ | ⟨_, h⟩
      · cases ho
      · exact h
  · cases e
theorem wipeR_own {ρ : Rho} {i : Nat} {s : Sl} : ∀ {vs : List Nat}, (wipeR ρ vs)[i]? = some s → s.owns = true → i ∉ vs ∧ ρ[i]? = some s
  | [], h, _ => ⟨by simp, h⟩
  | v :: vs, h, ho => by
    unfold wipeR at h
    rcases getElem?_set' h with ⟨_, rfl⟩ | ⟨ne, h⟩
    · cases ho
    · obtain ⟨a, b⟩ := wipeR_own h ho
      exact ⟨by simp [Ne.symm ne, a], b⟩
section
variable {fi fi1 : Rho → M W (List T)} {vs is vs1 is1 : List Nat} {h h1 : T → Rho → Option Rho} {gt1 : Rho → M W Bool} {ge : Rho → M W T}
theorem tLc2.of (his : ∀ i ∈ is, i ∈ vs) (his1 : ∀ i ∈ is1, i ∈ vs1) (no : NoOwn h) : ∀ σ H Q, tF X.K G E (fLc2 fi vs h fi1 vs1 h1 gt1 ge) σ H Q →
    tLc2 (tW X.K G E fi) (tG X.K G is h) (tT X.K G E0 tYesM) (tW X.K G E0 fi1) (tG X.K G is1 h1) (tT X.K G E0 gt1) (tV X.K G E0 ge) vs vs1 σ H Q := fun σ H Q => by
  rintro ⟨ρ, w, F, r, w', S, hf, acc⟩
  rcases bnd_inv hf with ⟨ts, w1, h1', h2⟩ | ⟨e, h1', rfl⟩
  case inr => exact ⟨ρ, w, F, .er e, w', S, h1', acc⟩
  rcases bnd_inv h2 with ⟨us, w2, h3, h4⟩ | ⟨e, h3, rfl⟩
  case inr =>
    obtain ⟨us, z⟩ := comp2D_ok h3
    cases z
  split at h4
  case isFalse => cases h4
  rename_i hsz
  obtain ⟨rfl, rfl⟩ := ret_inv h4
  clear h2 h4 hf
  refine ⟨ρ, w, F, .ok ts, w1, S, h1', fun J H1 F1 S1 s1 wk D hD => ?_⟩
  have hD0 : H D = none := s1.free0 S1.dH hD
  have hDF := (S1.fresh hD).2.2
  have hDB := (S1.fresh hD).2.1
  have hDs := S1.noSlot hD
  refine ⟨fun i m Hc => m = ts.length - i ∧ i ≤ ts.length ∧ ∃ wi Fi acc accT rest, Sd X.K G ρ wi σ Hc Fi ∧ Gr G H1 F1 Hc Fi ∧ Hc D = some (.lst acc) ∧ Fi D = none ∧ Reps X.K Fi acc accT ∧
    comp2D vs h fi1 vs1 h1 gt1 ge ρ (ts.drop i) wi = some (.ok rest, w') ∧ accT ++ rest = us, ⟨ts.length, by simp, Nat.zero_le _, w1, F1, [], [], us, S1.laid hD, .laid hD, upd_same, hDF, .nil, by simpa using h3, rfl⟩, ?_⟩
  rintro i m H2 ⟨rfl, hil, w2, F2, acc2, accT, rest, S2, g2, hD2, hF2, r2, e2, hu⟩
  by_cases hlt : i < ts.length
  · rw [List.drop_eq_getElem_cons hlt] at e2
    obtain ⟨go, yl⟩ := wk.go i ρ w2 σ H2 F2 g2.same S2 ts[i] (List.getElem?_eq_getElem hlt)
    refine .inr ⟨go, fun H' => ∃ wi Fi acc accT rest, Sd X.K G ρ wi σ H' Fi ∧ Gr G H1 F1 H' Fi ∧ H' D = some (.lst acc) ∧ Fi D = none ∧ Reps X.K Fi acc accT ∧
      comp2D vs h fi1 vs1 h1 gt1 ge ρ (ts.drop (i + 1)) wi = some (.ok rest, w') ∧ accT ++ rest = us, fun H' q => ⟨ts.length - (i + 1), by omega, rfl, hlt, q⟩, fun x H3 hy => ?_⟩
    obtain ⟨F3, g3, S3, r3⟩ := yl x H3 hy
    unfold comp2D at e2
    obtain ⟨ρ1, hh, e3⟩ := lift_bnd e2
    obtain ⟨ts1, w4, hb, e4⟩ := noEr_bnd e3
    rcases bnd_inv e4 with ⟨us5, w5, h5, h6⟩ | ⟨e, h5, z⟩
    case inr => cases z
    rcases bnd_inv h6 with ⟨zs, w6, h7, h8⟩ | ⟨e, h7, z⟩
    case inr => cases z
    obtain ⟨q8, rfl⟩ := ret_inv h8
    cases q8
    clear e2 e3 e4 h6 h8
    refine ⟨wipeR ρ vs, w2, F3, ts[i], ρ1, S3.wipe vs, r3, hh, fun σ4 S4 ag hlen => ⟨wipe_same (fun j hj => ?_) (by rw [hlen, wipe_length]), ?_⟩⟩
    · rw [ag j fun z => hj (his j z), wipe_get, if_neg hj]
    have σ4g : ∀ j, j ∉ vs → σ4[j]? = σ[j]? := fun j hj => by rw [ag j fun z => hj (his j z), wipe_get, if_neg hj]
    refine ⟨ρ1, w2, F3, .ok true, w2, S4, rfl, fun H5 F5 S5 g5 => ?_⟩
    simp only [if_true]
    have nd := S2.ndB hDB
    have ne : ∀ {Ha : Hp} {l : List V}, Ha D = some (.lst l) → Ha D ≠ none := fun e z => by rw [e] at z; cases z
    have g25 : Gr G H2 F2 H5 F5 := g3.trans g5 S4.dH
    refine ⟨ρ1, w2, F5, .ok ts1, w4, S5, hb, fun J1 H6 F6 S6 g6 wk1 => ?_⟩
    have g26 : Gr G H2 F2 H6 F6 := g25.trans g6 S5.dH
    have g16 : Gr G H1 F1 H6 F6 := g2.trans g26 S2.dH
    refine ⟨fun j k Hc => k = ts1.length - j ∧ j ≤ ts1.length ∧ ∃ wi Fi acc accT rest, Sd X.K G ρ1 wi σ4 Hc Fi ∧ Gr G H1 F1 Hc Fi ∧ Same F6 Fi ∧ Hc D = some (.lst acc) ∧ Fi D = none ∧ Reps X.K Fi acc accT ∧
      compD vs1 h1 gt1 ge ρ1 (ts1.drop j) wi = some (.ok rest, w5) ∧ accT ++ (rest ++ zs) = us, ⟨ts1.length, by simp, Nat.zero_le _, w4, F6, acc2, accT, us5, S6, g16, Same.refl _, g26.keep D _ hD2 nd, by rw [g26.nof D (ne hD2)]; exact hF2, r2.mono g26.same, by simpa using h5, hu⟩, ?_⟩
    rintro j k H7 ⟨rfl, hjl, w7, F7, acc7, accT7, rest7, S7, g7, sF7, hD7, hF7, r7, e7, hu7⟩
    by_cases hlt1 : j < ts1.length
    · rw [List.drop_eq_getElem_cons hlt1] at e7
      obtain ⟨go1, yl1⟩ := wk1.go j ρ1 w7 σ4 H7 F7 sF7 S7 ts1[j] (List.getElem?_eq_getElem hlt1)
      refine .inr ⟨go1, fun Hc => ∃ wi Fi acc accT rest, Sd X.K G ρ1 wi σ4 Hc Fi ∧ Gr G H1 F1 Hc Fi ∧ Same F6 Fi ∧ Hc D = some (.lst acc) ∧ Fi D = none ∧ Reps X.K Fi acc accT ∧
        compD vs1 h1 gt1 ge ρ1 (ts1.drop (j + 1)) wi = some (.ok rest, w5) ∧ accT ++ (rest ++ zs) = us, fun Hc q => ⟨ts1.length - (j + 1), by omega, rfl, hlt1, q⟩, fun x1 H8 hy1 => ?_⟩
      obtain ⟨F8, g8, S8, r8⟩ := yl1 x1 H8 hy1
      unfold compD at e7
      obtain ⟨ρ2, hh1, e8⟩ := lift_bnd e7
      obtain ⟨b, w9, hb9, e9⟩ := noEr_bnd e8
      refine ⟨wipeR ρ1 vs1, w7, F8, ts1[j], ρ2, S8.wipe vs1, r8, hh1, fun σ9 S9 ag9 hlen9 => ⟨wipe_same (fun j hj => ?_) (by rw [hlen9, wipe_length]), ?_⟩⟩
      · rw [ag9 j fun z => hj (his1 j z), wipe_get, if_neg hj]
      refine ⟨ρ2, w7, F8, .ok b, w9, S9, hb9, fun H10 F10 S10 g10 => ?_⟩
      have g710 : Gr G H7 F7 H10 F10 := g8.trans g10 S9.dH
      have hD10 : H10 D = some (.lst acc7) := g710.keep D _ hD7 nd
      have hF10 : F10 D = none := by rw [g710.nof D (ne hD7)]; exact hF7
      have hDs4 : ∀ (i : Nat) (s : Sl), ρ1[i]? = some s → s.owns = true → σ4[i]? ≠ some (some (V.ref D)) := by
        intro i s hs ho e
        obtain ⟨hi, hr⟩ := wipeR_own (no _ _ _ hh i s hs ho) ho
        exact hDs i s hr ho (by rw [← σ4g i hi]; exact e)
      by_cases hbt : b = true
      · simp only [if_pos hbt] at e9 ⊢
        obtain ⟨u, w11, hu11, e11⟩ := noEr_bnd e9
        rcases bnd_inv e11 with ⟨us12, w12, h12, h13⟩ | ⟨er, h12, z⟩
        case inr => cases z
        obtain ⟨q13, rfl⟩ := ret_inv h13
        cases q13
        refine ⟨ρ2, w9, F10, .ok u, w11, S10, hu11, fun y H11 F11 S11 g11 r11 => ⟨acc7, g11.keep D _ hD10 nd, ?_, ?_⟩⟩
        · have := congrArg List.length hu7
          simp only [List.length_append, List.length_cons] at this
          rw [r7.length]
          omega
        have g711 : Gr G H7 F7 H11 F11 := g710.trans g11 S10.dH
        have S11' : Sd X.K G ρ1 w11 σ4 H11 F11 := S7.grown g711 S11.sub S11.wok S11.dF
        have hF11 : F11 D = none := by rw [g711.nof D (ne hD7)]; exact hF7
        exact ⟨w11, F11, acc7 ++ [y], accT7 ++ [u], us12, S11'.write (g711.keep D _ hD7 nd) hF11 hDB hDs4, (g7.trans g711 S7.dH).upd hD, sF7.trans g711.same, upd_same, hF11, (r7.mono g711.same).append (.one r11), h12, by rw [← hu7]; simp⟩
      · simp only [if_neg hbt] at e9 ⊢
        have S10' : Sd X.K G ρ1 w9 σ4 H10 F10 := S7.grown g710 S10.sub S10.wok S10.dF
        exact ⟨w9, F10, acc7, accT7, rest7, S10', g7.trans g710 S7.dH, sF7.trans g710.same, hD10, hF10, r7.mono g710.same, e9, hu7⟩
    · have hj : j = ts1.length := by omega
      subst hj
      rw [List.drop_length] at e7
      obtain ⟨q, rfl⟩ := ret_inv e7
      cases q
      exact .inl ⟨wk1.stop _ ρ1 _ σ4 H7 F7 sF7 S7 (Nat.le_refl _), _, F7, acc7, accT7, zs, S1.grown g7 S7.sub S7.wok S7.dF, g7, hD7, hF7, r7, h7, by rw [← hu7]; simp⟩
  · have hi : i = ts.length := by omega
    subst hi
    rw [List.drop_length] at e2
    obtain ⟨q, rfl⟩ := ret_inv e2
    cases q
    rw [List.append_nil] at hu
    subst hu
    exact .inl ⟨wk.stop _ ρ _ σ H2 F2 g2.same S2 (Nat.le_refl _), acc D acc2 H2 F2 S2 (s1.trans g2 S1.dH) hD0 hD2 hF2 hDB hDs r2⟩
/-- two clauses -/
structure Blk2 (X : Cx) (G : Gm W) (scope : Scope) (tg iter1 tg1 : Expr) (ifs1 : List Expr) (elt : Expr) (is : List Nat) (h : T → Rho → Option Rho) (fi1 : Rho → M W (List T)) (is1 : List Nat) (h1 : T → Rho → Option Rho) (gt1 : Rho → M W Bool) (ge : Rho → M W T) : Prop where
  tg : ∀ (s : Shared) (H : Hp) (C : Addr) (cl : List (Str × Addr)) (fp : List Addr), PGt (X.blk s H scope (compEnvC scope cl C X.env) fp) G tg is h
  it : ∀ (s : Shared) (H : Hp) (C : Addr) (cl : List (Str × Addr)) (fp : List Addr), PIt (X.blk s H scope (compEnvC scope cl C X.env) fp) G E0 tg1 iter1 fi1
  tg1 : ∀ (s : Shared) (H : Hp) (C : Addr) (cl : List (Str × Addr)) (fp : List Addr), PGt (X.blk s H scope (compEnvC scope cl C X.env) fp) G tg1 is1 h1
  ts : ∀ (s : Shared) (H : Hp) (C : Addr) (cl : List (Str × Addr)) (fp : List Addr), PTs (X.blk s H scope (compEnvC scope cl C X.env) fp) ifs1 (tT X.K G E0 gt1)
  el : ∀ (s : Shared) (H : Hp) (C : Addr) (cl : List (Str × Addr)) (fp : List Addr), PV (X.blk s H scope (compEnvC scope cl C X.env) fp) G E0 elt ge
variable {elt tg iter tg1 iter1 : Expr} {ifs1 : List Expr} {scope : Scope} {own : List (Str × Nat)} {pos : Pos}
theorem pf_lc2 (hc : X.calm = true) (hN : X.N.Nodup) (hi : PIt X G E tg iter fi) (ok : BlkOk X.N X.env.scope scope own) (B : Blk2 X G scope tg iter1 tg1 ifs1 elt is h fi1 is1 h1 gt1 ge) (no : NoOwn h) (his : ∀ i ∈ is, i ∈ own.map (·.2)) (hv : ∀ i ∈ is1, i ∈ own.map (·.2)) (hs : ∀ x, foldedSetIterable iter X.env x = pure x := by intro _; rfl) (hs1 : ∀ env x, foldedSetIterable iter1 env x = pure x := by intro _ _; rfl) :
    PF X G E (.ListComp elt [⟨tg, iter, [], 0⟩, ⟨tg1, iter1, ifs1, 0⟩] scope pos) (fLc2 fi (own.map (·.2)) h fi1 is1 h1 gt1 ge) :=
  ⟨(pe_lc2 hc hN hi.run ok hv (fun s H C cl fp => (B.tg s H C cl fp).run) (fun s H C cl fp => pts_nilM) (fun s H C cl fp => (B.it s H C cl fp).run) (fun s H C cl fp => (B.tg1 s H C cl fp).run) B.ts (fun s H C cl fp => (B.el s H C cl fp).run) hs hs1).imp (tLc2.of his (fun _ h => h) no)⟩
end
end
end PL

/-! PLs: len(set(xs)), xs a list or tuple of texts. -/
namespace PL
open PySem PySem.Spec PyProof.Rows L2

/-- the different ones, in the order of their first places -/
def uqF (acc : List Str) : List Str → List Str
  | [] => acc
  | x :: r => uqF (if x ∈ acc then acc else acc ++ [x]) r
def uq (xs : List Str) : List Str := uqF [] xs
theorem uqF_append (acc : List Str) : ∀ (xs : List Str) (x : Str), uqF acc (xs ++ [x]) = if x ∈ uqF acc xs then uqF acc xs else uqF acc xs ++ [x]
  | [], x => rfl
  | y :: r, x => uqF_append _ r x
theorem uqF_length (acc : List Str) : ∀ xs : List Str, (uqF acc xs).length ≤ acc.length + xs.length
  | [] => Nat.le_refl _
  | y :: r => by
    refine Nat.le_trans (uqF_length _ r) ?_
    split <;> simp <;> omega
theorem uq_length (xs : List Str) : (uq xs).length ≤ xs.length := by
  have := uqF_length [] xs
  simpa [uq] using this
theorem uq_take {xs : List Str} {i : Nat} (h : i < xs.length) : uq (xs.take (i + 1)) = if xs[i] ∈ uq (xs.take i) then uq (xs.take i) else uq (xs.take i) ++ [xs[i]] := by
  rw [List.take_succ_eq_append_getElem h]
  exact uqF_append [] _ _
section
variable {prog : Program} {w : World} {A : Around} {R : Result → Shared → Prop} {I : Addr} {fp wr : List Addr} {G : Array GenState → Array GenState → Prop} {n : Nat} {P : Nat → Value → Prop} {St : Nat → Shared → Prop}
/-- the set at S holds the first i of xs -/
def Holds (prog : Program) (w : World) (h : Heap) (S : Addr) (xs : List Str) (i : Nat) : Prop := h.SetOf (PySem.strKind prog w) S (fun k => decide (k ∈ uq (xs.take i))) (uq (xs.take i)).length
theorem Holds.at {h h' : Heap} {S : Addr} {xs : List Str} {i : Nat} (x : Holds prog w h S xs i) (k : ∀ o, h.get? S = some o → h'.get? S = some o) : Holds prog w h' S xs i := by
  obtain ⟨o, es, ep, t, ho, r⟩ := x
  exact ⟨o, es, ep, t, k o ho, r⟩
theorem loopU (W : WalksS prog w A.in1 I fp wr G n P St) (S : Addr) (hSf : S ∉ fp) (xs : List Str) (hsz : xs.length = n) (hfew : n + 1 < scanBound) (hval : ∀ i v, P i v → ∃ t, v = .str (xs.getD i Str.empty) t) (k : Nat) :
    ∀ (i : Nat) (s : Shared), n - i = k → i ≤ n → St i s → Holds prog w s.heap S xs i → (∀ s', Moved (S :: wr) G s s' → Holds prog w s'.heap S xs n → R (.ok (.ret .none)) s') →
      codeAny (model prog w) A (.builtin "set.update.loop" ⟨[.ref S, .ref I], []⟩) R s := by
  have out : S ∉ wr := fun h => hSf (W.sub _ h)
  have more : ∀ b ∈ wr, b ∈ S :: wr := fun b hb => List.mem_cons_of_mem _ hb
  have enter : ∀ {s : Shared}, wpAny (model prog w) A.in1 (Builtin.«set.update.loop» ⟨[.ref S, .ref I], []⟩) (GQ.FinOf prog w A R) (fun e s' => R (.error e) s') s → codeAny (model prog w) A (.builtin "set.update.loop" ⟨[.ref S, .ref I], []⟩) R s := fun {s} h =>
    codeAny_builtin PyProof.Rows.F.entry_set_update_loop (by rw [Around.under_plainId PyProof.Rows.F.plain_set_update_loop _]; exact h)
  induction k with
  | zero =>
    intro i s hk hi st hS hR
    obtain rfl : i = n := by omega
    refine enter ?_
    refine wpAny_bind (m := pyNext (.ref I)) (W.done s _ _ st fun s' hm => ?_)
    exact wpAny_pure (hR s' (hm.mono more) (hS.at fun o ho => hm.heap S o out ho))
  | succ k ih =>
    intro i s hk hi st hS hR
    have hlt : i < n := by omega
    have hix : i < xs.length := by omega
    refine enter ?_
    refine wpAny_bind (m := pyNext (.ref I)) (W.item i s _ _ hlt st fun v s' hP st' hm => ?_)
    obtain ⟨t, rfl⟩ := hval i v hP
    have hx : xs.getD i Str.empty = xs[i] := by simp [List.getD, hix]
    rw [hx]
    have hS' : Holds prog w s'.heap S xs i := hS.at fun o ho => hm.heap S o out ho
    refine wpAny_bind (m := holding [Value.str xs[i] t] (setAdd S (.str xs[i] t))) (wpAny_holding ?_)
    unfold setAdd
    refine wpAny_holding (wpAny_bind ((PySem.strKind prog w).pyHash (k := xs[i]) (strKind_is _ _ _ _) ?_))
    have few : (uq (xs.take i)).length + 1 < scanBound := by
      have := uq_length (xs.take i)
      simp only [List.length_take] at this
      omega
    refine wpAny_setAddHashed_of (knd := PySem.strKind prog w) (s := { s' with toks := s'.toks + 1 }) (strKind_is _ _ _ _) rfl hS' few fun h' hsb hS2 => ?_
    have hN : Holds prog w h' S xs (i + 1) := by
      refine SetOf_congr hS2 (fun y => ?_) ?_
      · rw [uq_take hix]
        by_cases q : xs[i] ∈ uq (xs.take i)
        · rw [if_pos q]
          by_cases e : y = xs[i]
          · subst e; simp [q]
          · simp [e]
        · rw [if_neg q]
          by_cases e : y = xs[i]
          · subst e; simp
          · simp [e]
      · rw [uq_take hix]
        by_cases q : xs[i] ∈ uq (xs.take i)
        · simp [q]
        · simp [q]
    refine wpAny_pure ⟨plainId_quiet PyProof.Rows.F.plain_set_update_loop _, ih (i + 1) _ (by omega) hlt (W.frame _ s' _ _ st' (Nat.le_succ _) fun b hb o e => ?_) hN fun s'' hm2 hS3 => ?_⟩
    · rw [hsb.2 b fun z => hSf (z ▸ hb)]; exact e
    · refine hR s'' (Moved.trans W.gtrans ((hm.mono more).then_heap (Nat.le_succ _) fun b o hb e => ?_) hm2) hS3
      rw [hsb.2 b fun z => hb (by rw [z]; exact List.mem_cons_self)]; exact e
end
section
variable {prog : Program} {w : World} {A : Around} {E : Value → Shared → Prop} {s : Shared}
/-- a new set, from the list at l -/
def emptySet (led : Bool) : Obj := { cls := .type "set", dict := none, data := .set #[] 0 (.fresh 0 0 led) }
set_option maxHeartbeats 3200000 in
theorem fillU {l : Addr} {items : Array Value} {xs : List Str} {led : Bool} (hh : A.handled = none) (hl : s.heap.IsList l items) (hi : StrsAre items.toList xs) (hfew : xs.length + 1 < scanBound) :
    codeAny (model prog w) A (.call (.builtin "set.__init__") ⟨[.ref s.heap.objs.size, .ref l], []⟩) (wants (fun r s2 => r = .none ∧ ∃ h' tk, s2 = { s with heap := h', toks := tk } ∧ Holds prog w h' s.heap.objs.size xs xs.length ∧ (∀ b o, b < s.heap.objs.size → s.heap.get? b = some o → h'.get? b = some o)) E)
      { s with heap := s.heap.push (emptySet led) } := by
  have hS : (s.heap.push (emptySet led)).get? s.heap.objs.size = some (emptySet led) := Heap.get?_push_size _ rfl
  have hT : Shared.TypeIs { s with heap := s.heap.push (emptySet led) } (.ref s.heap.objs.size) "set" := ⟨_, hS, rfl⟩
  refine codeAny_call_builtin PySem.F.called_set.init.plain PySem.F.entry_set_init (check_set_init_1 hT ?_)
  obtain ⟨⟨c, dd, da, sl⟩, ho, hc, n, hd⟩ := hl
  simp only at hc hd
  subst hc hd
  have ho' := Heap.get?_push_of_some (emptySet led) ho
  have hl1 : (s.heap.push (emptySet led)).IsList l items := ⟨_, ho', rfl, n, rfl⟩
  have f1 := PySem.F.sub_list_set
  have f2 := PySem.F.sub_list_frozenset
  have f3 : (Value.type "list" == Value.type "dict") = false := by decide
  unfold Builtin.«set.__init__» noKeywords Builtin.Frozenset.updateFrom
  generalize hPI : pyIter = PI
  wp_walk
  subst hPI
  refine wpAny_pyIter_list hl1 (wpAny_bind (wpAny_runValue ?_))
  have hlS : l < s.heap.objs.size := Heap.lt_size ho
  have sz : (s.heap.push (emptySet led)).objs.size = s.heap.objs.size + 1 := Heap.size_push _ _
  have hxs : xs.length = items.size := by rw [← StrsAre.len_eq hi, Array.length_toList]
  have ne1 : l ≠ (s.heap.push (emptySet led)).objs.size := by rw [sz]; exact Nat.ne_of_lt (Nat.lt_succ_of_lt hlS)
  have ne2 : s.heap.objs.size ∉ [(s.heap.push (emptySet led)).objs.size, l] := by
    rw [sz]
    simp only [List.mem_cons, List.not_mem_nil, or_false, not_or]
    exact ⟨Nat.ne_of_lt (Nat.lt_succ_self _), Nat.ne_of_gt hlS⟩
  have few : items.size + 1 < scanBound := by rw [← hxs]; exact hfew
  refine loopU ((Walks.list (by simp [hh]) _ l ne1 items).toS) s.heap.objs.size ne2 xs hxs few (fun i v hv => SS.strs_at hi i v (by rw [Array.getElem?_toList]; exact hv)) _ 0 _ rfl (Nat.zero_le _)
    ⟨⟨_, Heap.get?_push_size _ rfl, rfl, rfl⟩, hl1.push _⟩ ?_ fun s' hm hS' => ?_
  · refine SetOf_congr ((setObjOf_fresh (knd := PySem.strKind prog w) led).setOf (Heap.get?_push_of_some _ hS) (by unfold scanBound; omega)) (fun y => by simp [uq, uqF]) rfl
  · obtain ⟨h', g', d', tk', os'⟩ := s'
    obtain rfl : g' = s.gens := hm.gens
    obtain rfl : d' = s.drawn := hm.drawn
    obtain rfl : os' = s.os := hm.os
    show wpAny _ _ _ _ _ _
    refine wpAny_pure (wpAny_pure ⟨rfl, h', tk', rfl, by rw [hxs]; exact hS', fun b o hb e => ?_⟩)
    refine hm.heap b o ?_ (Heap.get?_push_of_some _ (Heap.get?_push_of_some _ e))
    rw [sz]
    simp only [List.mem_cons, List.not_mem_nil, or_false, not_or]
    exact ⟨Nat.ne_of_lt hb, Nat.ne_of_lt (Nat.lt_succ_of_lt hb)⟩
set_option maxHeartbeats 3200000 in
theorem call_setU {l : Addr} {items : Array Value} {xs : List Str} {Q : Value → Shared → Prop} (hh : A.handled = none) (hl : s.heap.IsList l items) (hi : StrsAre items.toList xs) (hfew : xs.length + 1 < scanBound)
    (h : ∀ (h' : Heap) (tk : Nat), Holds prog w h' s.heap.objs.size xs xs.length → (∀ b o, b < s.heap.objs.size → s.heap.get? b = some o → h'.get? b = some o) → Q (.ref s.heap.objs.size) { s with heap := h', toks := tk }) :
    wpAny (model prog w) A (call (.type "set") [.ref l]) Q E s := by
  obtain ⟨c, tl, hmro⟩ := PySem.F.called_set.mro
  have f1 := PySem.F.called_set.made
  have f2 := PySem.F.called_set.sub
  have f3 := PySem.F.called_set.notType
  have f4 := PySem.F.called_set.canCreate
  have f5 := PySem.F.typeCall_set_1 (.ref l)
  refine wpAny_call (codeAny_of_tree ?_)
  show wpAny _ _ (callAny (.type "set") _) _ _ _
  refine wpAny_pure ⟨Code.quiet_builtin _ (by decide +kernel), codeAny_builtin PySem.F.entry_type_call ?_⟩
  rw [Around.under_plain (weight_type_call_type "set" [.ref l] []) rfl]
  repeat (any_goals (first | assumption | wp_step))
  refine codeAny_mono (code_set_new_1 (.ref l) (E := E) (Q₁ := fun obj s1 => ∃ led : Bool, obj = .ref s.heap.objs.size ∧ s1 = { s with heap := s.heap.push (emptySet led) }) fun led => ⟨led, rfl, rfl⟩) fun r s1 hr => ?_
  cases r with
  | error e => exact hr
  | ok fl =>
    cases fl with
    | ret obj =>
      obtain ⟨led, rfl, rfl⟩ := hr
      have hT : Shared.TypeIs { s with heap := s.heap.push (emptySet led) } (.ref s.heap.objs.size) "set" := ⟨_, Heap.get?_push_size _ rfl, rfl⟩
      have f6 := PySem.F.called_set.init.lookup
      have f7 := PySem.F.called_set.init.bind (.ref s.heap.objs.size)
      repeat (any_goals (first | assumption | wp_step))
      refine codeAny_mono (fillU (led := led) (E := E) (by simp [hh]) hl hi hfew) fun r s2 hr => ?_
      cases r with
      | error e => exact hr
      | ok fl =>
        cases fl with
        | ret r =>
          obtain ⟨rfl, h', tk, rfl, hS, hk⟩ := hr
          repeat (any_goals (first | assumption | wp_step))
          exact h _ _ hS hk
        | _ => exact hr.elim
    | _ => exact hr.elim
end
section
variable {W : Type} {X : Cx} {G : Gm W} {E : XK} {ρ : Rho} {w w' : W} {σ : L2.St} {H F : Hp}
/-- len(set(e)), e a list of texts -/
def lenSetT (t : T) : Option T := (lstOf t).bind fun ts => (strsT ts).bind fun xs => if xs.length < 4000 then some (.int ((uq xs).length : Nat)) else none
theorem pv_lenSet {a : Expr} {fa : Rho → M W T} {p p2 q pos : Pos} (hc : X.calm = true) (hg : Gl X "len") (hm : X.mg "len" = none) (hg2 : Gl X "set") (hm2 : X.mg "set" = none) (ha : PVs X G E a fa)
    (na : starEach [a] X.env = (false, eval a X.env) :: starEach [] X.env := by rfl) : PV X G E (.Call (.Name "len" p) [.Call (.Name "set" p2) [a] [] q] [] pos) (f1 lenSetT fa) := by
  refine ⟨⟨fun pins s σ H Q I h => ?_⟩⟩
  refine Call_ (ld_blt I hg hm boot_len ?_)
  refine PyProof.Rows.callWith_builtin1 (PyProof.Rows.args_cons ?_ rfl) rfl rfl
  refine Call_ (ld_blt I hg2 hm2 boot_set ?_)
  obtain ⟨ρ, w, F, r, w', S, hf, acc⟩ := h
  refine PyProof.Rows.callWith_type1 (PyProof.Rows.args_cons (thn (ha.run.run pins s σ H _ I (tVs.bind (X := X) (Q := fun x H1 => ∃ l, ∃ xs : List Str, x = .ref l ∧ SqL X.K H1 l (xs.map V.str) ∧ xs.length < 4000 ∧ Q (.int ((uq xs).length : Nat)) H1) S hf acc.er fun t w1 x H1 F1 S1 s1 r1 hk => ?_)) fun v s1 ⟨x, H1, I1, r1, q1⟩ => PyProof.Rows.args_nil ?_) na) na rfl
  · obtain ⟨z, hz, rfl, rfl⟩ := lift_inv hk
    simp only [lenSetT, Option.bind_eq_some_iff] at hz
    obtain ⟨ts, e1, xs, e2, e3⟩ := hz
    split at e3
    · rename_i hl
      cases e3
      cases t with
      | lst us =>
        cases e1
        obtain ⟨a', vs, rfl, hH, rv⟩ := r1.lst S1
        have := rv.strs e2
        subst this
        exact ⟨a', xs, rfl, .of hH, hl, acc _ H1 F1 S1 s1 (.int _)⟩
      | _ => cases e1
    · cases e3
  · obtain ⟨l, xs, rfl, hq, hl, q1⟩ := q1
    cases r1
    obtain ⟨its, r, pl, hz⟩ := I1.list hq
    have hsA : StrsAre its.toArray.toList xs := by simpa using strsAre_of r
    refine call_setU (I1.ok.hd hc) pl.isList hsA (by unfold scanBound; omega) fun h' tk hS hk => ?_
    refine PyProof.Rows.args_nil ?_
    obtain ⟨o, es, ep, t, ho, hex, hd, _, _, _, hf, hn⟩ := hS
    rw [List.take_length] at hn
    have I2 : Inv X pins σ H1 { s1 with heap := h', toks := tk } := I1.kept fun b o e => hk b o (Heap.lt_size e) e
    have := uq_length xs
    exact call_len_set ho hex hd hf (by rw [hn]; omega) ⟨.int ((uq xs).length : Nat), H1, I2.tok _, ⟨_, by rw [hn]⟩, q1⟩
end
end PL

/-! PLn: own classes: isinstance, fields, properties, len, in, ==, !=. -/
namespace PL
open PySem PySem.Spec PyProof.Rows L2

def dataTypes : List String := ["NoneType", "bool", "int", "str", "tuple", "list", "dict"]
/-- what of the text a class must have; ns: its instances' attributes -/
structure ClsF (K : PySem.W.Frag) (C : Addr) (ns : List Str) : Prop where
  cls : Cls K C
  no : ∀ f ∈ ns, NoAttr K C f
  nd : ns.Nodup
  ca : PySem.W.findIn K (.ref C) "__class__" = some (some (.builtin "object.__class__"))
  cg : PySem.W.specialIn K (.builtin "object.__class__") "__get__" = some (some (.builtin "getset_descriptor.__get__"))
  ct : PySem.W.takesIn K (.builtin "object.__class__") = some true
  ob : PySem.W.mroIn K C (.type "object") = some true
  one : ∀ n ∈ dataTypes, PySem.W.kitOne K (.type n) (.ref C) = some false
  nf : ∀ n ∈ dataTypes, PySem.W.notFirst K C (.type n) = true
theorem tyT_data {t : T} {a : String} (h : tyT t = some a) : a ∈ dataTypes := by
  cases t <;> cases h <;> simp [dataTypes]
section
variable {W : Type} {X : Cx} {G : Gm W} {E : XK} {ρ : Rho} {w w' : W} {σ : L2.St} {H F : Hp}
theorem Rep.ins_inv {K : PySem.W.Frag} {v : V} {C : Addr} {ns : List Str} {ts : List T} (h : Rep K F v (.ins C ns ts)) : ∃ a dx vs, v = .ref a ∧ F a = some (.ins C dx (ns.zip vs)) ∧ ns.length = vs.length ∧ Reps K F vs ts := by
  cases h with
  | ins h e r => exact ⟨_, _, _, rfl, h, e, r⟩
theorem ShR.ins {K : PySem.W.Frag} {v : V} {C : Addr} {ns : List Str} {ts : List T} (S : Sd K G ρ w σ H F) (h : ShR K ρ σ F v (.ins C ns ts)) : ∃ a dx vs, v = .ref a ∧ F a = some (.ins C dx (ns.zip vs)) ∧ H a = some (.ins C dx (ns.zip vs)) ∧ ns.length = vs.length ∧ Reps K F vs ts := by
  obtain ⟨a, dx, vs, e, h1, h2, r⟩ := (h.rep (fun _ z => nomatch z) fun _ _ z => nomatch z).ins_inv
  exact ⟨a, dx, vs, e, h1, S.sub _ _ h1, h2, r⟩
/-- the type of a value, C being the one own class -/
def tyC (C : Addr) : T → Option Value
  | .ins C' _ _ => if C' = C then some (.ref C) else none
  | t => (tyT t).map .type
theorem tyC_cases {C : Addr} {t : T} {u : Value} (h : tyC C t = some u) : (∃ a, tyT t = some a ∧ u = .type a) ∨ (∃ ns ts, t = .ins C ns ts ∧ u = .ref C) := by
  cases t with
  | ins C' ns ts =>
    by_cases e : C' = C
    · subst e
      simp only [tyC, if_true, Option.some.injEq] at h
      subst h
      exact .inr ⟨ns, ts, rfl, rfl⟩
    · simp only [tyC, if_neg e] at h
      cases h
  | non => cases h; exact .inl ⟨_, rfl, rfl⟩
  | bl _ => cases h; exact .inl ⟨_, rfl, rfl⟩
  | int _ => cases h; exact .inl ⟨_, rfl, rfl⟩
  | str _ => cases h; exact .inl ⟨_, rfl, rfl⟩
  | tup _ => cases h; exact .inl ⟨_, rfl, rfl⟩
  | lst _ => cases h; exact .inl ⟨_, rfl, rfl⟩
  | dct _ _ => cases h; exact .inl ⟨_, rfl, rfl⟩
  | raw _ => cases h
theorem ShR.tyC {K : PySem.W.Frag} {t : T} {v : V} {C : Addr} {ns : List Str} {u : Value} (c : ClsF K C ns) (S : Sd K G ρ w σ H F) (h : ShR K ρ σ F v t) (e : tyC C t = some u) : TyX K H v u := by
  rcases tyC_cases e with ⟨a, e1, rfl⟩ | ⟨ns', ts, rfl, rfl⟩
  · exact h.ty S e1
  · obtain ⟨a, dx, vs, rfl, _, hH, _, _⟩ := h.ins S
    exact .base (.ins hH c.cls c.ca c.cg c.ct c.ob)
theorem ClsF.notFirst {K : PySem.W.Frag} {C : Addr} {ns : List Str} (c : ClsF K C ns) {t : T} {u : Value} (e : tyC C t = some u) : PySem.W.notFirst K C u = true := by
  rcases tyC_cases e with ⟨a, e1, rfl⟩ | ⟨ns', ts, rfl, rfl⟩
  · exact c.nf a (tyT_data e1)
  · simp [PySem.W.notFirst]
/-- isinstance(e, C) -/
def isaC (C : Addr) (t : T) : Option T := match t with
  | .ins C' _ _ => if C' = C then some (.bl true) else none
  | t => (tyT t).map fun _ => .bl false
theorem isaC_cases {C : Addr} {t z : T} (h : isaC C t = some z) : ∃ u, tyC C t = some u ∧ ∀ {K : PySem.W.Frag} {ns : List Str}, ClsF K C ns → ∃ b, PySem.W.kitOne K u (.ref C) = some b ∧ z = .bl b := by
  cases t with
  | ins C' ns ts =>
    by_cases e : C' = C
    · subst e
      simp only [isaC, if_true, Option.some.injEq] at h
      subst h
      exact ⟨.ref C', by simp [tyC], fun _ => ⟨true, by simp [PySem.W.kitOne], rfl⟩⟩
    · simp only [isaC, if_neg e] at h
      cases h
  | non => cases h; exact ⟨_, rfl, fun c => ⟨false, c.one _ (by simp [dataTypes]), rfl⟩⟩
  | bl _ => cases h; exact ⟨_, rfl, fun c => ⟨false, c.one _ (by simp [dataTypes]), rfl⟩⟩
  | int _ => cases h; exact ⟨_, rfl, fun c => ⟨false, c.one _ (by simp [dataTypes]), rfl⟩⟩
  | str _ => cases h; exact ⟨_, rfl, fun c => ⟨false, c.one _ (by simp [dataTypes]), rfl⟩⟩
  | tup _ => cases h; exact ⟨_, rfl, fun c => ⟨false, c.one _ (by simp [dataTypes]), rfl⟩⟩
  | lst _ => cases h; exact ⟨_, rfl, fun c => ⟨false, c.one _ (by simp [dataTypes]), rfl⟩⟩
  | dct _ _ => cases h; exact ⟨_, rfl, fun c => ⟨false, c.one _ (by simp [dataTypes]), rfl⟩⟩
  | raw _ => cases h
section
variable {e : Expr} {fa fb : Rho → M W T} {x y f : Str} {p p2 pos : Pos} {C : Addr} {ns : List Str}
theorem pv_isaC (c : ClsF X.K C ns) (hg : Gl X "isinstance") (hm : X.mg "isinstance" = none) (hg2 : Gl X y) (hm2 : X.mg y = some (.ref C)) (ha : PVs X G E e fa) (hd2 : (y == ("__debug__" : Str)) = false := by decide)
    (he : starEach [e, .Name y p2] X.env = (false, eval e X.env) :: starEach [.Name y p2] X.env := by rfl) (he2 : starEach [.Name y p2] X.env = (false, eval (.Name y p2) X.env) :: starEach [] X.env := by rfl) (hpl : (backTo pos (starEach [.Name y p2] X.env)).any (·.1) = false := by rfl) :
    PV X G E (.Call (.Name "isinstance" p) [e, .Name y p2] [] pos) (f1 (isaC C) fa) :=
  ⟨(pe_callB call_isi hg hm PyProof.Rows.boot_isinstance (pa_cons ha.run (pa_cons (pe_glob (v := .ref C) hg2 hm2 rfl hd2) pa_nil he2) he) (by decide) (by decide) he hpl).imp fun σ H Q => by
    rintro ⟨ρ, w, F, q, w', S, hf, acc⟩
    refine tVs.bind (X := X) S hf acc.er fun t w1 x H1 F1 S1 s1 r1 hk => ?_
    obtain ⟨z, hz, rfl, rfl⟩ := lift_inv hk
    obtain ⟨u, hu, hk2⟩ := isaC_cases hz
    obtain ⟨b, hb, rfl⟩ := hk2 c
    exact ⟨x, .ref C, u, .ref C, b, rfl, .own C, r1.tyC c S1 hu, hb, acc _ H1 F1 S1 s1 (.bl _)⟩⟩
/-- e.f -/
def lookT (f : Str) : List Str → List T → Option T
  | n :: ns, t :: ts => if f == n then some t else lookT f ns ts
  | _, _ => none
def fldT (C : Addr) (ns : List Str) (f : Str) (t : T) : Option T := match t with
  | .ins C' ns' ts => if C' = C ∧ ns' = ns then lookT f ns ts else none
  | _ => none
theorem Reps.look {K : PySem.W.Frag} {f : Str} : ∀ {ns : List Str} {vs : List V} {ts : List T} {t : T}, Reps K F vs ts → lookT f ns ts = some t → ∃ v, (ns.zip vs).lookup f = some v ∧ Rep K F v t ∧ f ∈ ns
  | [], _, _, _, _, h => by cases h
  | n :: ns, _, _, _, .nil, h => by cases h
  | n :: ns, v :: vs, u :: ts, t, .cons q r, h => by
    unfold lookT at h
    split at h
    · rename_i e
      cases h
      exact ⟨v, by simp [List.lookup, e], q, by simp [beq_iff_eq.mp e]⟩
    · rename_i e
      obtain ⟨v', h1, h2, h3⟩ := Reps.look r h
      exact ⟨v', by simp only [List.zip_cons_cons, List.lookup, Bool.eq_false_iff.mpr e]; exact h1, h2, List.mem_cons_of_mem _ h3⟩
theorem pv_fld (c : ClsF X.K C ns) (ha : PVs X G E e fa) (hb : attributeBase e f X.env (eval e X.env) = eval e X.env := by rfl) : PV X G E (.Attribute e f pos) (f1 (fldT C ns f) fa) :=
  ⟨(pe_fld ha.run hb).imp fun σ H Q => by
    rintro ⟨ρ, w, F, q, w', S, hf, acc⟩
    refine tVs.bind (X := X) S hf acc.er fun t w1 x H1 F1 S1 s1 r1 hk => ?_
    obtain ⟨z, hz, rfl, rfl⟩ := lift_inv hk
    unfold fldT at hz
    split at hz
    · split at hz
      · rename_i h
        obtain ⟨rfl, rfl⟩ := h
        obtain ⟨a, dx, vs, rfl, hF, hH, hl, rs⟩ := r1.ins S1
        obtain ⟨v, h1, h2, h3⟩ := rs.look hz
        exact ⟨a, _, dx, _, v, rfl, hH, c.cls, c.no f h3, h1, acc v H1 F1 S1 s1 h2⟩
      · cases hz
    · cases hz⟩
end

/-! ### a method of one's own, behind the language's own words -/
/-- what a method's run gives, nothing raised -/
def insM {α : Type} (C : Addr) (ns : List Str) (t : T) (m : M W α) : M W α := match t with
  | .ins C' ns' _ => if C' = C ∧ ns' = ns then noEr m else stuck
  | _ => stuck
theorem insM_inv {α : Type} {C : Addr} {ns : List Str} {t : T} {m : M W α} {r : R α} (h : insM C ns t m w = some (r, w')) : ∃ ts a, t = .ins C ns ts ∧ r = .ok a ∧ m w = some (.ok a, w') := by
  unfold insM at h
  split at h
  · split at h
    · rename_i q
      obtain ⟨rfl, rfl⟩ := q
      obtain ⟨a, e, h⟩ := noEr_inv h
      exact ⟨_, a, rfl, e, h⟩
    · cases h
  · cases h
/-- the promise of a def, where nothing is raised -/
theorem spF.of0 {n : Nat} {Fn : List T → M W T} {vs : List V} {ts : List T} {t : T} {Q : VK} {E' : XK} (S : Sd X.K G ρ w σ H F) (rs : Reps X.K F vs ts) (hn : ts.length = n) (e : Fn ts w = some (.ok t, w'))
    (ok : ∀ v H' F', Sd X.K G ρ w' σ H' F' → Gr G H F H' F' → Rep X.K F' v t → Q v H') : spF X.K n Fn vs H Q E' :=
  ⟨G.O, F, ts, w, .ok t, w', by rw [rs.length]; exact hn, S.sub, S.wok, S.dF, rs, e, fun v H' F' o rv => ok v H' F' (o.sd S) o.gr rv⟩
section
variable {k g : Nat} {n : Nat} {Fn : List T → M W T} {C a dx p : Addr} {ns : List Str} {fs : List (Str × V)} {f : Str} {fd : FuncData} {ps : List Str} {sp : Sp} {e : Expr} {pos : Pos} {ta : TE}
/-- a property, read -/
theorem getprop_okG {pins : List (Addr × Obj)} {s : Shared} {Q : VK} {b : Bool} {E' : Value → Shared → Prop} (I : Inv X pins σ H s) (ea : H a = some (.ins C dx fs)) (c : Cls X.K C) (hp : PropOf X.K C f p g)
    (Fm : FnG X.prog X.w X.K X.mg X.base (L2.CX X.prog X.w) k g fd ps sp) (hr : Room (k + 1) X.A) (hgd : X.A.guards = some []) (hb : Binds X.K fd ps []) (h : sp [.ref a] H Q E0) :
    wpAny (model X.prog X.w) X.A (getAttr (.ref a) f b) (EP X pins σ Q) E' s := by
  obtain ⟨mA, O, _⟩ := ins_get I.hok ea
  obtain ⟨od, J, _⟩ := O.look
  obtain ⟨rest, hrec⟩ := hp.rec_
  have I1 := I.tok (s.toks + 1)
  have hc : (PySem.W.clsIn X.K C).isSome = true := by
    obtain ⟨cd, hc, _⟩ := PySem.W.any_some c.hd
    rw [hc]
    rfl
  have hl : [Value.ref a].length = ps.length := Fm.len _ _ _ _ h
  have hb' := hb { s with toks := s.toks + 1 } [.ref a] I1.kIn (by simpa using hl)
  rw [List.append_nil] at hb'
  have e0 := I1.env0
  refine PySem.W.get_bind I.kIn J (PySem.W.plainGet_of (c.get f)).1 (PySem.W.findObj_data hc hp.at_ hp.get hp.tak) (PySem.W.plainGet_of (c.get f)).2 (wpAny_call (PySem.W.prop_get (s := { s with toks := s.toks + 1 }) I.kIn hrec ?_))
  refine codeAny_mono (Fm.run X.A.in1 X.stack { s with toks := s.toks + 1 } H ⟨[.ref a], []⟩ [.ref a] [.ref a] Q E0 hr.in1 hgd e0.in1 hb' (.cons rfl .nil) h) fun r s' hq => ?_
  cases r with
  | error er =>
    obtain ⟨_, _, _, _, _, _, _, _, _, _, _, _, z⟩ := hq
    exact z.elim
  | ok fl =>
    cases fl with
    | ret u =>
      obtain ⟨v, H', I3, rv, q3⟩ := I1.after hq
      show wpAny _ _ (handedOut u) _ _ _
      rw [PySem.W.handedOut_of (handed_of rv)]
      exact wpAny_pure ⟨v, H', I3, rv, q3⟩
    | next => exact False.elim hq
    | brk => exact False.elim hq
    | cont => exact False.elim hq
def fProp (C : Addr) (ns : List Str) (Fn : List T → M W T) (fa : Rho → M W T) : Rho → M W T := fun ρ => bnd (fa ρ) fun t => insM C ns t (Fn [t])
variable {fa fb : Rho → M W T}
theorem pv_prop (c : ClsF X.K C ns) (hp : PropOf X.K C f p g) (D : MethOk X.prog X.w X.K X.mg X.base k g 1 Fn) (hr : Room (k + 1) X.A) (hgd : X.A.guards = some []) (ha : PV X G E e fa) (hab : attributeBase e f X.env (eval e X.env) = eval e X.env := by rfl) :
    PV X G E (.Attribute e f pos) (fProp C ns Fn fa) := by
  obtain ⟨fd, ps, Fm, hb⟩ := D.ex
  refine ⟨⟨fun pins s σ H Q I h => ?_⟩⟩
  obtain ⟨ρ, w, F, q, w', S, hf, acc⟩ := h
  refine attr_of hab (thn (ha.run.run pins s σ H _ I (tV.bind (X := X) (Q := fun x H1 => ∃ a dx fs, x = .ref a ∧ H1 a = some (.ins C dx fs) ∧ spF X.K 1 Fn [.ref a] H1 Q E0) S hf acc.er fun t w1 x H1 F1 S1 s1 r1 hk => ?_)) fun u s1 ⟨x, H1, I1, rx, a, dx, fs, ex, ea, q⟩ => ?_)
  · obtain ⟨ts, z, rfl, rfl, hk'⟩ := insM_inv hk
    obtain ⟨a, dx, vs, rfl, hF, hl, rs⟩ := r1.ins_inv
    exact ⟨a, dx, _, rfl, S1.sub _ _ hF, spF.of0 S1 (.one (.ins hF hl rs)) rfl hk' fun v H' F' S' s' rv => acc v H' F' S' (s1.trans s' S1.dH) rv⟩
  · subst ex
    obtain rfl : u = Value.ref a := rx
    exact getprop_okG I1 ea c.cls hp Fm hr hgd hb q
end
end
end PL

/-! PLo: len, in, ==, != by an own class's methods. -/
namespace PL
open PySem PySem.Spec PyProof.Rows L2

/-! ### != by an own == -/
section
variable {prog : Program} {w : World} {A : Around} {E : Value → Shared → Prop} {s : Shared} {K : PySem.W.Frag} {x C L f : Addr} {h₀ : Heap} {m : Str → Option Value} {ox : Obj} {od : Option Obj} {b tb : Value}
theorem ne_entry (hu : A.units < cLine) (X : K.In s.heap) (I : PySem.W.InstAt s.heap x ox C od) (hs : PySem.W.findIn K (.ref C) "__eq__" = some (some (.ref f))) (hf : PySem.W.isFn K (.ref f) = true) {Q : Fin → Shared → Prop}
    (h : wpAny (model prog w) A (call (.ref f) [.ref x, b]) (fun v s' => ∃ r, v = .bool r ∧ Q (.done (.ret (.bool (!r)))) s') E s) : wpAny (model prog w) A (Builtin.«object.__ne__» ⟨[.ref x, b], []⟩) Q E s := by
  unfold Builtin.«object.__ne__»
  repeat (first
    | with_reducible refine wpAny_cRoomFor hu ?_
    | (refine wpAny_bind (m := callSpecialIfBound? (.ref x) (Str.ofString "__eq__") [b])
        (PySem.W.ifBound_K X I hs hf (wpAny_mono h (fun r s' hr => by
          obtain ⟨r, rfl, hq⟩ := hr
          repeat (first | exact hq | exact wpAny_pure hq | exact wpAny_truthy_bool hq | (refine wpAny_bind (m := truthy (.bool _)) (wpAny_truthy_bool ?_)) | wp_step)) fun _ _ e => e)))
    | wp_step)
theorem ifBound_objNe {args : List Value} {Q : Option Value → Shared → Prop} {M : Model} (X : K.In s.heap) (I : PySem.W.InstAt s.heap x ox C od) (hs : PySem.W.findIn K (.ref C) "__ne__" = some (some (.builtin "object.__ne__")))
    (h : wpAny M A (call (.builtin "object.__ne__") (.ref x :: args)) (fun v => Q (some v)) E s) : wpAny M A (callSpecialIfBound? (.ref x) "__ne__" args) Q E s := by
  simp only [callSpecialIfBound?, bindSpecialIfBound?]
  refine wpAny_holding (wpAny_bind (wpAny_bind (wpAny_bind (I.type.here ((PySem.W.looks_findIn X hs).here ?_)))))
  refine wpAny_bind (wpAny_askSetting (wpAny_ite ?_))
  have fin : wpAny M A (call (.builtin "object.__ne__") ([.ref x] ++ args) >>= fun v => pure (some v)) Q E s := wpAny_bind (wpAny_mono h (fun v s' h' => wpAny_pure h') fun _ _ h' => h')
  split
  · exact wpAny_bind (wpAny_of_eq (F.cmp_object.ne.bind _) (wpAny_pure (by exact fin)))
  · exact wpAny_tryCatch (wpAny_bind (wpAny_of_eq (F.cmp_object.ne.bind _) (wpAny_pure (by exact fin))))
theorem ne_own {Q : Value → Shared → Prop} (hu : A.units + 1 < cLine) (X : K.In s.heap) (I : PySem.W.InstAt s.heap x ox C od) (hb : PySem.W.Looks (model prog w) s.heap (typeOf b) tb) (hn : PySem.W.notFirst K C tb = true)
    (hne : PySem.W.findIn K (.ref C) "__ne__" = some (some (.builtin "object.__ne__"))) (hob : PySem.W.mroIn K C (.type "object") = some true) (hs : PySem.W.findIn K (.ref C) "__eq__" = some (some (.ref f))) (hf : PySem.W.isFn K (.ref f) = true)
    (h : wpAny (model prog w) A.in1 (call (.ref f) [.ref x, b]) (fun v s' => ∃ r, v = .bool r ∧ Q (.bool (!r)) s') E s) : wpAny (model prog w) A (richCompare .NotEq (.ref x) b) Q E s := by
  have one : wpAny (model prog w) A (tryCompare (.ref x) (cmpInfo .NotEq).2.1 b) (fun r s' => ∃ v, r = some v ∧ Q v s') E s := by
    unfold tryCompare
    refine wpAny_bind (ifBound_objNe X I hne (wpAny_call (codeAny_call_builtin F.cmp_object.ne.plain F.cmpEntry_ne (PySem.W.check_slot F.cmpKind_ne F.cmpSplit_ne (I.type.andThen (PySem.W.looks_mroIn X hob)) (F.cmpArgs_ne _ _) (ne_entry (A := A.in1) (by show A.units + 1 < cLine; exact hu) X I hs hf (wpAny_mono h (fun v s' hv => ?_) fun _ _ e => e))))))
    obtain ⟨r, rfl, hq⟩ := hv
    exact ⟨r, rfl, wpAny_pure ⟨_, rfl, hq⟩⟩
  unfold richCompare
  simp only [oneThing_ref]
  refine wpAny_holding (wpAny_bind (wpAny_cRoomFor (by omega) ?_))
  refine wpAny_bind (I.type.here (wpAny_bind (hb.here ?_)))
  split
  · rename_i q
    have e : PySem.W.subIn K tb (.ref C) = some false := by
      rcases Bool.or_eq_true_iff.mp hn with e | e
      · rw [beq_iff_eq.mp e] at q; simp at q
      · exact beq_iff_eq.mp e
    refine wpAny_bind ((PySem.W.looks_subIn X e).here ?_)
    simp only [Bool.false_eq_true, if_false]
    refine wpAny_bind (wpAny_mono one (fun r s' z => ?_) fun _ _ e => e)
    obtain ⟨v, rfl, hq⟩ := z
    exact wpAny_pure hq
  · refine wpAny_bind (wpAny_pure ?_)
    simp only [Bool.false_eq_true, if_false]
    refine wpAny_bind (wpAny_mono one (fun r s' z => ?_) fun _ _ e => e)
    obtain ⟨v, rfl, hq⟩ := z
    exact wpAny_pure hq
end

section
variable {W : Type} {X : Cx} {G : Gm W} {E : XK} {ρ : Rho} {w w' : W} {σ : L2.St} {H F : Hp}
variable {k g : Nat} {Fn : List T → M W T} {C : Addr} {ns : List Str} {e a b : Expr} {x y : Str} {p pos : Pos} {fa fb : Rho → M W T}
/-- an own special method of the class -/
structure SpecM (K : PySem.W.Frag) (C : Addr) (m : Str) (g : Addr) : Prop where
  at_ : PySem.W.findIn K (.ref C) m = some (some (.ref g))
  fn : PySem.W.isFn K (.ref g) = true
theorem inst_of {pins : List (Addr × Obj)} {s : Shared} {a dx : Addr} {fs : List (Str × V)} (I : Inv X pins σ H s) (ea : H a = some (.ins C dx fs)) : ∃ od, PySem.W.InstAt s.heap a (PySem.W.instObj C dx) C (some od) := by
  obtain ⟨mA, O, _⟩ := ins_get I.hok ea
  obtain ⟨od, J, _⟩ := O.look
  exact ⟨od, J⟩
/-! ### == and != -/
def boolM2 (neg : Bool) (t : T) : Option T := match t with
  | .bl b => some (.bl (if neg then !b else b))
  | _ => none
def fEqI (neg : Bool) (C : Addr) (ns : List Str) (Fn : List T → M W T) (fa fb : Rho → M W T) : Rho → M W T := fun ρ => bnd (fa ρ) fun t => bnd (fb ρ) fun u => bnd (lift (tyC C u)) fun _ => bnd (insM C ns t (Fn [t, u])) fun z => lift (boolM2 neg z)
def rEqI (K : PySem.W.Frag) (neg : Bool) (C : Addr) (sp : Sp) : R2 := fun x y H Q => ∃ a dx fs ty, x = .ref a ∧ H a = some (.ins C dx fs) ∧ TyX K H y ty ∧ PySem.W.notFirst K C ty = true ∧ sp [x, y] H (fun v H' => ∃ b, v = .bl b ∧ Q (.bl (if neg then !b else b)) H') E0
variable {fd : FuncData} {ps : List Str} {sp : Sp}
theorem op_eqI (Fm : FnG X.prog X.w X.K X.mg X.base (L2.CX X.prog X.w) k g fd ps sp) (hr : Room k X.A) (hgd : X.A.guards = some []) (hb : Binds X.K fd ps []) (m : SpecM X.K C "__eq__" g) : OpR X (compareOp .Eq) (rEqI X.K false C sp) := by
  intro pins s σ H x y v u Q I rx ry h
  obtain ⟨a, dx, fs, ty, rfl, ha, hty, hnf, hsp⟩ := h
  cases rx
  obtain ⟨od, J⟩ := inst_of I ha
  obtain ⟨m', hF⟩ := I.fr
  obtain ⟨P, Z, p, _⟩ := kit_of I ry hty
  refine PySem.W.cmp_K (op := .Eq) (tb := ty) hr.units0 hF I.ok.mod.kin J (Z.ty _ _ I.kIn p) hnf m.at_ m.fn ?_
  refine wpAny_mono (run_fnG Fm hr hgd rfl hb passL I (us := [.ref a, u]) (vs := [.ref a, y]) (.cons rfl (.cons ry .nil)) hsp) (fun r s' ⟨z, H', I', rz, b, ez, q⟩ => ?_) fun _ _ x => x
  subst ez
  cases rz
  exact ⟨.bl b, H', I', rfl, q⟩
theorem op_neI {k' : Nat} (Fm : FnG X.prog X.w X.K X.mg X.base (L2.CX X.prog X.w) k g fd ps sp) (hr : Room (k + 1) X.A) (hgd : X.A.guards = some []) (hb : Binds X.K fd ps []) (m : SpecM X.K C "__eq__" g) (c : ClsF X.K C ns) (hne : PySem.W.findIn X.K (.ref C) "__ne__" = some (some (.builtin "object.__ne__"))) : OpR X (compareOp .NotEq) (rEqI X.K true C sp) := by
  intro pins s σ H x y v u Q I rx ry h
  obtain ⟨a, dx, fs, ty, rfl, ha, hty, hnf, hsp⟩ := h
  cases rx
  obtain ⟨od, J⟩ := inst_of I ha
  obtain ⟨P, Z, p, _⟩ := kit_of I ry hty
  refine ne_own (tb := ty) (by have := hr.un; omega) I.kIn J (Z.ty _ _ I.kIn p) hnf hne c.ob m.at_ m.fn ?_
  refine wpAny_mono (run_fnG (A := X.A.in1) Fm hr.in1 hgd rfl hb passL I (us := [.ref a, u]) (vs := [.ref a, y]) (.cons rfl (.cons ry .nil)) hsp) (fun r s' ⟨z, H', I', rz, b, ez, q⟩ => ?_) fun _ _ x => x
  subst ez
  cases rz
  exact ⟨b, rfl, .bl (!b), H', I', rfl, q⟩
theorem tEqI {neg : Bool} (c : ClsF X.K C ns) : ∀ σ H Q, tV X.K G E (fEqI neg C ns Fn fa fb) σ H Q → tOp (rEqI X.K neg C (spF X.K 2 Fn)) (tV X.K G E fa) (tV X.K G E fb) σ H Q := fun σ H Q => by
  rintro ⟨ρ, w, F, q, w', S, hf, acc⟩
  refine tV.bind (X := X) S hf acc.er fun t w1 x H1 F1 S1 s1 r1 hk => ?_
  refine tV.bind (X := X) S1 hk (acc.mono s1 S1.dH).er fun u w2 y H2 F2 S2 s2 r2 hk2 => ?_
  obtain ⟨ty, hty, hk3⟩ := lift_bnd hk2
  rcases bnd_inv hk3 with ⟨z, w3, h3, h4⟩ | ⟨er, h3, _⟩
  case inr =>
    obtain ⟨_, _, _, z, _⟩ := insM_inv h3
    cases z
  obtain ⟨ts, z', rfl, e, h5⟩ := insM_inv h3
  cases e
  obtain ⟨zz, hz, rfl, rfl⟩ := lift_inv h4
  unfold boolM2 at hz
  split at hz
  · rename_i bb
    cases hz
    have r1' := r1.mono s2.same
    obtain ⟨a, dx, vs, rfl, hF, hl, rs⟩ := r1'.ins_inv
    refine ⟨a, dx, _, ty, rfl, S2.sub _ _ hF, (show ShR X.K ρ σ F2 y u from .inl r2).tyC c S2 hty, c.notFirst hty, ?_⟩
    exact spF.of0 S2 (.cons r1' (.one r2)) rfl h5 fun v H' F' S' s' rv => ⟨bb, rv.bl_inv, acc _ H' F' S' ((s1.trans s2 S1.dH).trans s' S2.dH) (.bl _)⟩
  · cases hz
theorem pv_eqI (c : ClsF X.K C ns) (D : MethOk X.prog X.w X.K X.mg X.base k g 2 Fn) (m : SpecM X.K C "__eq__" g) (hr : Room k X.A) (hgd : X.A.guards = some []) (ha : PV X G E a fa) (hb : PV X G E b fb) (hm : behindInMarks .Eq b = false := by rfl) : PV X G E (.Compare a [.Eq] [b] pos) (fEqI false C ns Fn fa fb) := by
  obtain ⟨fd, ps, Fm, hbi⟩ := D.ex
  exact ⟨(pe_cmpR (op_eqI Fm hr hgd hbi m) ha.run hb.run hm).imp (tEqI c)⟩
theorem pv_neI (c : ClsF X.K C ns) (D : MethOk X.prog X.w X.K X.mg X.base k g 2 Fn) (m : SpecM X.K C "__eq__" g) (hne : PySem.W.findIn X.K (.ref C) "__ne__" = some (some (.builtin "object.__ne__"))) (hr : Room (k + 1) X.A) (hgd : X.A.guards = some []) (ha : PV X G E a fa) (hb : PV X G E b fb) (hm : behindInMarks .NotEq b = false := by rfl) : PV X G E (.Compare a [.NotEq] [b] pos) (fEqI true C ns Fn fa fb) := by
  obtain ⟨fd, ps, Fm, hbi⟩ := D.ex
  exact ⟨(pe_cmpR (op_neI (k' := 0) Fm hr hgd hbi m c hne) ha.run hb.run hm).imp (tEqI c)⟩
/-! ### in, not in -/
def fInI (neg : Bool) (C : Addr) (ns : List Str) (Fn : List T → M W T) (fa fb : Rho → M W T) : Rho → M W T := fun ρ => bnd (fa ρ) fun u => bnd (fb ρ) fun t => bnd (insM C ns t (Fn [t, u])) fun z => lift (boolM2 neg z)
def rInI (neg : Bool) (C : Addr) (sp : Sp) : R2 := fun y x H Q => ∃ a dx fs, x = .ref a ∧ H a = some (.ins C dx fs) ∧ sp [x, y] H (fun v H' => ∃ b, v = .bl b ∧ Q (.bl (if neg then !b else b)) H') E0
theorem op_inI (Fm : FnG X.prog X.w X.K X.mg X.base (L2.CX X.prog X.w) k g fd ps sp) (hr : Room k X.A) (hgd : X.A.guards = some []) (hb : Binds X.K fd ps []) (m : SpecM X.K C "__contains__" g) : OpR X (compareOp .In) (rInI false C sp) := by
  intro pins s σ H y x u v Q I ry rx h
  obtain ⟨a, dx, fs, rfl, ha, hsp⟩ := h
  cases rx
  obtain ⟨od, J⟩ := inst_of I ha
  obtain ⟨m', hF⟩ := I.fr
  refine PySem.W.in_K hF I.ok.mod.kin J m.at_ m.fn ?_
  refine wpAny_mono (run_fnG Fm hr hgd rfl hb passL I (us := [.ref a, u]) (vs := [.ref a, y]) (.cons rfl (.cons ry .nil)) hsp) (fun r s' ⟨z, H', I', rz, b, ez, q⟩ => ?_) fun _ _ x => x
  subst ez
  cases rz
  exact wpAny_truthy_bool ⟨.bl b, H', I', rfl, q⟩
theorem op_notInI (Fm : FnG X.prog X.w X.K X.mg X.base (L2.CX X.prog X.w) k g fd ps sp) (hr : Room k X.A) (hgd : X.A.guards = some []) (hb : Binds X.K fd ps []) (m : SpecM X.K C "__contains__" g) : OpR X (compareOp .NotIn) (rInI true C sp) := by
  intro pins s σ H y x u v Q I ry rx h
  obtain ⟨a, dx, fs, rfl, ha, hsp⟩ := h
  cases rx
  obtain ⟨od, J⟩ := inst_of I ha
  obtain ⟨m', hF⟩ := I.fr
  refine PySem.W.notIn_K hF I.ok.mod.kin J m.at_ m.fn ?_
  refine wpAny_mono (run_fnG Fm hr hgd rfl hb passL I (us := [.ref a, u]) (vs := [.ref a, y]) (.cons rfl (.cons ry .nil)) hsp) (fun r s' ⟨z, H', I', rz, b, ez, q⟩ => ?_) fun _ _ x => x
  subst ez
  cases rz
  exact wpAny_truthy_bool ⟨.bl (!b), H', I', rfl, q⟩
theorem tInI {neg : Bool} : ∀ σ H Q, tV X.K G E (fInI neg C ns Fn fa fb) σ H Q → tOp (rInI neg C (spF X.K 2 Fn)) (tV X.K G E fa) (tV X.K G E fb) σ H Q := fun σ H Q => by
  rintro ⟨ρ, w, F, q, w', S, hf, acc⟩
  refine tV.bind (X := X) S hf acc.er fun u w1 y H1 F1 S1 s1 r1 hk => ?_
  refine tV.bind (X := X) S1 hk (acc.mono s1 S1.dH).er fun t w2 x H2 F2 S2 s2 r2 hk3 => ?_
  rcases bnd_inv hk3 with ⟨z, w3, h3, h4⟩ | ⟨er, h3, _⟩
  case inr =>
    obtain ⟨_, _, _, z, _⟩ := insM_inv h3
    cases z
  obtain ⟨ts, z', rfl, e, h5⟩ := insM_inv h3
  cases e
  obtain ⟨zz, hz, rfl, rfl⟩ := lift_inv h4
  unfold boolM2 at hz
  split at hz
  · rename_i bb
    cases hz
    obtain ⟨a, dx, vs, rfl, hF, hl, rs⟩ := r2.ins_inv
    refine ⟨a, dx, _, rfl, S2.sub _ _ hF, ?_⟩
    exact spF.of0 S2 (.cons (.ins hF hl rs) (.one (r1.mono s2.same))) rfl h5 fun v H' F' S' s' rv => ⟨bb, rv.bl_inv, acc _ H' F' S' ((s1.trans s2 S1.dH).trans s' S2.dH) (.bl _)⟩
  · cases hz
theorem pv_inI (D : MethOk X.prog X.w X.K X.mg X.base k g 2 Fn) (m : SpecM X.K C "__contains__" g) (hr : Room k X.A) (hgd : X.A.guards = some []) (ha : PV X G E a fa) (hb : PV X G E b fb) (hm : behindInMarks .In b = false := by rfl) : PV X G E (.Compare a [.In] [b] pos) (fInI false C ns Fn fa fb) := by
  obtain ⟨fd, ps, Fm, hbi⟩ := D.ex
  exact ⟨(pe_cmpR (op_inI Fm hr hgd hbi m) ha.run hb.run hm).imp tInI⟩
theorem pv_notInI (D : MethOk X.prog X.w X.K X.mg X.base k g 2 Fn) (m : SpecM X.K C "__contains__" g) (hr : Room k X.A) (hgd : X.A.guards = some []) (ha : PV X G E a fa) (hb : PV X G E b fb) (hm : behindInMarks .NotIn b = false := by rfl) : PV X G E (.Compare a [.NotIn] [b] pos) (fInI true C ns Fn fa fb) := by
  obtain ⟨fd, ps, Fm, hbi⟩ := D.ex
  exact ⟨(pe_cmpR (op_notInI Fm hr hgd hbi m) ha.run hb.run hm).imp tInI⟩
/-! ### len -/
def lenM2 (t : T) : Option T := match t with
  | .int i => if 0 ≤ i ∧ i < 2 ^ 63 then some (.int i) else none
  | _ => none
def fLenI (C : Addr) (ns : List Str) (Fn : List T → M W T) (fa : Rho → M W T) : Rho → M W T := fun ρ => bnd (fa ρ) fun t => bnd (insM C ns t (Fn [t])) fun z => lift (lenM2 z)
def rLenI (C : Addr) (sp : Sp) : List V → Hp → VK → Prop := fun xs H Q => ∃ a dx fs, xs = [.ref a] ∧ H a = some (.ins C dx fs) ∧ sp [.ref a] H (fun v H' => ∃ i, v = .int i ∧ (0 ≤ i ∧ i < 2 ^ 63) ∧ Q (.int i) H') E0
theorem call_lenI (Fm : FnG X.prog X.w X.K X.mg X.base (L2.CX X.prog X.w) k g fd ps sp) (hr : Room (k + 1) X.A) (hgd : X.A.guards = some []) (hb : Binds X.K fd ps []) (m : SpecM X.K C "__len__" g) : CallR X (.builtin "len") (rLenI C sp) := by
  intro pins s σ H xs us Q I r h
  obtain ⟨a, dx, fs, rfl, ha, hsp⟩ := h
  obtain ⟨u, rfl, ru⟩ := vals1 r
  cases ru
  obtain ⟨od, J⟩ := inst_of I ha
  obtain ⟨m', hF⟩ := I.fr
  refine PySem.W.len_K hF I.ok.mod.kin J m.at_ m.fn ?_
  refine wpAny_mono (run_fnG (A := X.A.in1) Fm hr.in1 hgd rfl hb passL I (us := [.ref a]) (vs := [.ref a]) (.cons rfl .nil) hsp) (fun r s' ⟨z, H', I', rz, i, ez, hi, q⟩ => ?_) fun _ _ x => x
  subst ez
  obtain ⟨t, rfl⟩ := rz
  exact ⟨hi, .int i, H', I'.tok _, ⟨_, rfl⟩, q⟩
theorem pv_lenI (D : MethOk X.prog X.w X.K X.mg X.base k g 1 Fn) (m : SpecM X.K C "__len__" g) (hr : Room (k + 1) X.A) (hgd : X.A.guards = some []) (hg : Gl X "len") (hm : X.mg "len" = none) (ha : PV X G E e fa)
    (he : starEach [e] X.env = (false, eval e X.env) :: starEach [] X.env := by rfl) (hpl : (backTo pos (starEach [] X.env)).any (·.1) = false := by rfl) : PV X G E (.Call (.Name "len" p) [e] [] pos) (fLenI C ns Fn fa) := by
  obtain ⟨fd, ps, Fm, hbi⟩ := D.ex
  refine ⟨(pe_callB (call_lenI Fm hr hgd hbi m) hg hm PySem.boot_len (pa_cons ha.run pa_nil he) (by decide) (by decide) he hpl).imp fun σ H Q => ?_⟩
  rintro ⟨ρ, w, F, q, w', S, hf, acc⟩
  refine tV.bind (X := X) S hf acc.er fun t w1 x H1 F1 S1 s1 r1 hk3 => ?_
  rcases bnd_inv hk3 with ⟨z, w3, h3, h4⟩ | ⟨er, h3, _⟩
  case inr =>
    obtain ⟨_, _, _, z, _⟩ := insM_inv h3
    cases z
  obtain ⟨ts, z', rfl, e, h5⟩ := insM_inv h3
  cases e
  obtain ⟨zz, hz, rfl, rfl⟩ := lift_inv h4
  unfold lenM2 at hz
  split at hz
  · rename_i i
    split at hz
    · rename_i hi
      cases hz
      obtain ⟨a, dx, vs, rfl, hF, hl, rs⟩ := r1.ins_inv
      exact ⟨a, dx, _, rfl, S1.sub _ _ hF, spF.of0 S1 (.one (.ins hF hl rs)) rfl h5 fun v H' F' S' s' rv => ⟨i, rv.int_inv, hi, acc _ H' F' S' (s1.trans s' S1.dH) (.int _)⟩⟩
    · cases hz
  · cases hz
end
end PL

/-! PLp: instances made, an __init__ by its body; static methods. -/
namespace PL
open PySem PySem.Spec PyProof.Rows L2
section
variable {W : Type}
/-- what an __init__ promises: r tells the values of the attributes ns -/
def spI (K : PySem.W.Frag) (C : Addr) (ns : List Str) (n : Nat) (Fn : List T → M W (List T)) : Sp := fun vs H Q E => ∃ (O : Wd W) (H1 F : Hp) (ts : List T) (w : W) (r : R (List T)) (w' : W) (x dx : Addr) (us : List V),
  vs = .ref x :: us ∧ us.length = n ∧ H = upd (upd H1 dx (.own x)) x (.ins C dx []) ∧ H1 x = none ∧ H1 dx = none ∧ dx ≠ x ∧ Same F H1 ∧ O.ok H1 w ∧ (∀ b, O.D b → F b = none) ∧ Reps K F us ts ∧ Fn ts w = some (r, w') ∧ match r with
    | .ok zs => ∀ H' F' vs', Out O H1 F w' H' F' → H' x = some (.ins C dx (ns.zip vs')) → F' x = none → ns.length = vs'.length → Reps K F' vs' zs → Q .non H'
    | .er e => ∀ d H' F', Out O H1 F w' H' F' → ErAt K H' F' e d → E (.ref e.C) d H'
structure InitOk (P : Program) (w : World) (K : PySem.W.Frag) (mg : Str → Option Value) (base : Heap) (k : Nat) (f C : Addr) (ns : List Str) (n : Nat) (Fn : List T → M W (List T)) : Prop where
  ex : ∃ fd ps, FnG P w K mg base (L2.CX P w) k f fd ps (spI K C ns n Fn) ∧ Binds K fd ps []
variable {X : Cx} {G : Gm W} {E : XK} {ρ : Rho} {w w' : W} {σ : L2.St} {H F : Hp}
theorem run_makeG {CX : CXT} {k : Nat} {f C : Addr} {fd : FuncData} {ps : List Str} {sp : Sp} {pins : List (Addr × Obj)} {s : Shared} {Q : VK} {us : List Value} {vs : List V} (M : Mk X.K C f) (Fm : FnG X.prog X.w X.K X.mg X.base CX k f fd ps sp) (hr : Room (k + 1) X.A) (hgd : X.A.guards = some []) (hb : Binds X.K fd ps [])
    (hx : Passes CX X E) (I : Inv X pins σ H s) (r : Vals vs us) (h : ∀ x dx, H x = none → H dx = none → dx ≠ x → sp (.ref x :: vs) (upd (upd H dx (.own x)) x (.ins C dx [])) (fun v H2 => v = .non ∧ Q (.ref x) H2) E) :
    wpAny (model X.prog X.w) X.A (call (.ref C) us) (EP X pins σ Q) X.xe s := by
  have hq := h (s.heap.objs.size + 1) s.heap.objs.size (I.hok.fresh (Nat.le_succ _)) (I.hok.fresh (Nat.le_refl _)) (Nat.ne_of_lt (Nat.lt_succ_self _))
  have I2 := Inv.made (C := C) I
  have r2 : Vals (V.ref (s.heap.objs.size + 1) :: vs) (Value.ref (s.heap.objs.size + 1) :: us) := .cons rfl r
  have hl : (Value.ref (s.heap.objs.size + 1) :: us).length = ps.length := by rw [← r2.length]; exact Fm.len _ _ _ _ hq
  have hb' := hb _ (Value.ref (s.heap.objs.size + 1) :: us) I2.kIn (by simpa using hl)
  rw [List.append_nil] at hb'
  refine wpAny_call (make_map (f := f) I.kIn M.makes M.init (beq_iff_eq.mp M.fn) (codeAny_mono (Fm.run _ X.stack _ _ ⟨Value.ref (s.heap.objs.size + 1) :: us, []⟩ (Value.ref (s.heap.objs.size + 1) :: us) _ _ E (hr.make C us []) (by first | exact hgd | (simpa [Around.under, Code.guards, pushGuards] using hgd))
    (I2.env0.make C us []) hb' r2 hq) fun r s' hq' => ?_))
  cases r with
  | error e => exact hx pins σ _ _ e s' I2 hq'
  | ok fl =>
    cases fl with
    | ret u =>
      obtain ⟨v, H', I3, rv, ev, q3⟩ := I2.after hq'
      subst ev
      exact ⟨rv, ⟨V.ref (s.heap.objs.size + 1), H', I3, rfl, q3⟩⟩
    | next => exact False.elim hq'
    | brk => exact False.elim hq'
    | cont => exact False.elim hq'
def fMake (C : Addr) (ns : List Str) (n : Nat) (fa : Rho → M W (List T)) (Fn : List T → M W (List T)) : Rho → M W T := fun ρ => bnd (fa ρ) fun ts => if ts.length = n then bnd (Fn ts) fun zs => ret (.ins C ns zs) else stuck
theorem pv_make {k n : Nat} {f C : Addr} {ns : List Str} {Fn : List T → M W (List T)} {x : Str} {e : Expr} {es : List Expr} {fa : Rho → M W (List T)} {p pos : Pos} (M : Mk X.K C f) (D : InitOk X.prog X.w X.K X.mg X.base k f C ns n Fn) (hr : Room (k + 1) X.A) (hgd : X.A.guards = some []) (hg : Gl X x) (hm : X.mg x = some (.ref C)) (hx : Passes (L2.CX X.prog X.w) X E)
    (ha : PAs X G E (e :: es) fa) (hdb : (x == ("__debug__" : Str)) = false := by decide) (he : starEach (e :: es) X.env = (false, eval e X.env) :: starEach es X.env := by rfl) (hpl : (backTo pos (starEach es X.env)).any (·.1) = false := by rfl) :
    PV X G E (.Call (.Name x p) (e :: es) [] pos) (fMake C ns n fa Fn) := by
  obtain ⟨fd, ps, Fm, hb⟩ := D.ex
  refine ⟨⟨fun pins s σ H Q I h => ?_⟩⟩
  obtain ⟨ρ, w, F, q, w', S, hf, acc⟩ := h
  refine wpAny_Call_Name_kw (ld_glob I hg hm ?_ hdb)
  refine PySem.W.callWith_K (h₀ := X.base) I.ok.mod.kin M.kp (thn (ha.run.run pos pins s σ H _ I (tA.bind (X := X) (Q := fun vs H1 => ∀ x dx, H1 x = none → H1 dx = none → dx ≠ x → spI X.K C ns n Fn (.ref x :: vs) (upd (upd H1 dx (.own x)) x (.ins C dx [])) (fun v H2 => v = .non ∧ Q (.ref x) H2) E) S hf acc.er fun ts w1 vs H1 F1 S1 s1 r1 hk => ?_)) fun us s1 ⟨vs, H1, I1, r, q⟩ => ⟨I1.kIn, ?_⟩) he hpl
  · intro x dx hx1 hdx1 ne
    split at hk
    · rename_i hl
      have fr := S1.fresh hx1
      rcases bnd_inv hk with ⟨zs, w2, h2, h3⟩ | ⟨er, h2, rfl⟩
      · obtain ⟨rfl, rfl⟩ := ret_inv h3
        refine ⟨G.O, H1, F1, ts, w1, .ok zs, _, x, dx, vs, rfl, by rw [r1.length]; exact hl, rfl, hx1, hdx1, ne, S1.sub, S1.wok, S1.dF, r1, h2, fun H' F' vs' o hx' hf' hl' rs => ⟨rfl, ?_⟩⟩
        have S' := o.sd S1
        refine acc (.ref x) H' (upd F' x (.ins C dx (ns.zip vs'))) (S'.freeze hx' hf' fr.2.1 (S1.noSlot hx1)) (s1.trans (Gr.frz o.gr hx1 hf') S1.dH) ?_
        exact .ins upd_same hl' (rs.mono (Same.updN hf'))
      · refine ⟨G.O, H1, F1, ts, w1, .er er, w', x, dx, vs, rfl, by rw [r1.length]; exact hl, rfl, hx1, hdx1, ne, S1.sub, S1.wok, S1.dF, r1, h2, fun d H' F' o ea => ?_⟩
        exact (acc.mono s1 S1.dH).er er rfl d H' F' ρ σ (o.sd S1) o.same ea
    · cases hk
  · exact run_makeG M Fm hr hgd hb hx I1 r q

/-! ### the body of an __init__ that sets attributes -/
/-- what it sets, in order: ns; x: the object, already with some -/
def tIn (K : PySem.W.Frag) (G : Gm W) (C : Addr) (ns : List Str) (fs : Rho → M W (List T)) : TS := fun D σ H => ∃ (ρ : Rho) (w : W) (F : Hp) (zs : List T) (w' : W) (x dx : Addr) (done : List Str) (vs : List V) (ts : List T),
  Sd K G ρ w σ H F ∧ σ[0]? = some (some (.ref x)) ∧ H x = some (.ins C dx (done.zip vs)) ∧ done.length = vs.length ∧ F x = none ∧ G.B x = none ∧ (∀ (i : Nat) (s : Sl), ρ[i]? = some s → s.owns = true → σ[i]? ≠ some (some (V.ref x))) ∧ Reps K F vs ts ∧
  fs ρ w = some (.ok zs, w') ∧ (done ++ ns).Nodup ∧ (done ++ ns).length ≤ 900 ∧ ∀ H' F' vs', Sd K G ρ w' σ H' F' → Same F F' → H' x = some (.ins C dx ((done ++ ns).zip vs')) → F' x = none → (done ++ ns).length = vs'.length → Reps K F' vs' (ts ++ zs) → D.nx σ H'
structure PIn (X : Cx) (G : Gm W) (C : Addr) (sts : List Stmt) (ns : List Str) (fs : Rho → M W (List T)) : Prop where
  run : PSs X sts (tIn X.K G C ns fs)
def iNil : Rho → M W (List T) := fun _ => ret []
def iCons (fa : Rho → M W T) (fs : Rho → M W (List T)) : Rho → M W (List T) := fun ρ => bnd (noEr (fa ρ)) fun t => bnd (fs ρ) fun zs => ret (t :: zs)
theorem pin_nil {C : Addr} : PIn X G C [] [] iNil := ⟨pss_nil.imp fun D σ H => by
  rintro ⟨ρ, w, F, zs, w', x, dx, done, vs, ts, S, h0, hx, hl, hF, hB, hs, rs, hf, nd, _, k⟩
  obtain ⟨e, rfl⟩ := ret_inv hf
  cases e
  simp only [List.append_nil] at k
  exact k H F vs S (Same.refl F) hx hF hl rs⟩
theorem putF_new {f : Str} {y : V} : ∀ {done : List Str} {vs : List V}, done.length = vs.length → f ∉ done → putF f y (done.zip vs) = (done ++ [f]).zip (vs ++ [y])
  | [], [], _, _ => rfl
  | d :: done, v :: vs, hl, h => by
    have ne : ¬ d = f := fun z => h (by simp [z])
    have ih := putF_new (f := f) (y := y) (done := done) (vs := vs) (by simpa using hl) fun z => h (by simp [z])
    show (if d = f then _ else (d, v) :: putF f y (done.zip vs)) = _
    rw [if_neg ne, ih]
    rfl
theorem pin_cons {C : Addr} {f : Str} {e : Expr} {fa : Rho → M W T} {sts : List Stmt} {ns : List Str} {fs : Rho → M W (List T)} {px pos' pos : Pos} {nsA : List Str} (c : ClsF X.K C nsA) (hmem : f ∈ nsA) (hself : PE X (.Name "self" px) (tVar 0)) (ha : PV X G E0 e fa) (hrest : PIn X G C sts ns fs)
    (hsw : swapsWith e (some (.Attribute (.Name "self" px) f pos')) pos.line X.env = pure false := by rfl) : PIn X G C (.Assign [.Attribute (.Name "self" px) f pos'] e pos :: sts) (f :: ns) (iCons fa fs) :=
  ⟨(pss_cons (ps_fld hself ha.run hsw) hrest.run).imp fun D σ H => by
    rintro ⟨ρ, w, F, zs, w', x, dx, done, vs, ts, S, h0, hx, hl, hF, hB, hs, rs, hf, nd, h9, k⟩
    obtain ⟨t, w1, h1, h2⟩ := noEr_bnd hf
    rcases bnd_inv h2 with ⟨zs', w2, h3, h4⟩ | ⟨er, h3, z⟩
    case inr => cases z
    obtain ⟨q, rfl⟩ := ret_inv h4
    cases q
    refine ⟨ρ, w, F, .ok t, w1, S, h1, fun v H1 F1 S1 s1 r1 => ⟨.ref x, h0, ?_⟩⟩
    have hx1 : H1 x = some (.ins C dx (done.zip vs)) := s1.keep x _ hx (S.ndB hB)
    have hF1 : F1 x = none := by rw [s1.nof x (by rw [hx]; simp)]; exact hF
    have hnd : f ∉ done := fun z => by
      have := List.nodup_append.mp nd
      exact this.2.2 f z f (by simp) rfl
    have hl9 : done.length < 1000 := by
      simp only [List.length_append, List.length_cons] at h9
      omega
    refine ⟨x, C, dx, _, rfl, hx1, c.cls, c.no f hmem, by rw [List.length_zip]; omega, ?_⟩
    have assoc : done ++ f :: ns = (done ++ [f]) ++ ns := by simp
    have S2 := S1.write (o' := .ins C dx (putF f v (done.zip vs))) hx1 hF1 hB hs
    rw [putF_new hl hnd] at S2 ⊢
    refine ⟨ρ, w1, F1, zs', _, x, dx, done ++ [f], vs ++ [v], ts ++ [t], S2, h0, upd_same, by simp [hl], hF1, hB, hs, (rs.mono s1.same).append (.one r1), h3, by rw [← assoc]; exact nd, by rw [← assoc]; exact h9, fun H' F' vs' S' s' hx' hf' hl' rs' => ?_⟩
    rw [← assoc] at hx' hl'
    exact k H' F' vs' S' (s1.same.trans s') hx' hf' hl' (by simpa using rs')⟩
theorem Sd.forget {K : PySem.W.Frag} (S : Sd K G ρ w σ H F) (i : Nat) : Sd K G (ρ.set i .un) w σ H F := by
  refine ⟨S.sub, S.wok, S.dF, S.dB, S.keep, S.grow, S.old, fun j s hj => ?_, fun j k s t hj hk hs ht e => ?_, by rw [List.length_set]; exact S.len⟩
  · rcases getElem?_set' hj with ⟨_, rfl⟩ | ⟨_, h⟩
    · trivial
    · exact S.slots j s h
  · rcases getElem?_set' hj with ⟨_, rfl⟩ | ⟨_, h1⟩
    · cases hs
    · rcases getElem?_set' hk with ⟨_, rfl⟩ | ⟨_, h2⟩
      · cases ht
      · exact S.apart j k s t h1 h2 hs ht e
/-- what it gives; m: how many names it has besides its parameters -/
def runI (m : Nat) (fs : Rho → M W (List T)) : List T → M W (List T) := fun ts => noEr (fs (.un :: (ts.map Sl.fz ++ List.replicate m Sl.un)))
theorem init_ok {P : Program} {wd : World} {K : PySem.W.Frag} {mg : Str → Option Value} {base : Heap} {x qual : Str} {st : Stmt} {f C : Addr} {N ps ns : List Str} {n m k : Nat} {fs : Rho → M W (List T)} (D : ∃ fd, Fun K x qual st f fd) (S : FnScope N ps (defScope st)) (hps : ps.length = n + 1) (hN : N.length = n + 1 + m) (nd : ns.Nodup) (h9 : ns.length ≤ 900)
    (hb : ∀ (kV doc pm : Value) (an : Option Addr) (cdv ct : Value) (us : List Value), us.length = ps.length → bindArgs (PySem.W.fnOf x qual (defArgs st) (defBody st) (defScope st) .none kV doc pm an cdv ct) ⟨us, []⟩ = pure (ps.zip us))
    (hbody : ∀ (cdv : Value) (A : Around) (outer : List PySem.Env) (s : Shared) (H : Hp) (E : XK) (G : Gm W), Room k (A.deeper (envOfC qual (defScope st) s.heap.objs.size f cdv)) → (A.deeper (envOfC qual (defScope st) s.heap.objs.size f cdv)).guards = some [] →
      PIn (cxOf (L2.CX P wd) P wd K mg base N qual (defScope st) f cdv A outer s H E) G C (defBody st) ns fs) :
    InitOk P wd K mg base (k + 1) f C ns n (runI m fs) := by
  obtain ⟨fd, Fu⟩ := D
  refine ⟨fd, ps, ?_, Fu.binds hb⟩
  obtain ⟨oc, od, kV, doc, pm, an, cdv, ct, osl, rfl, lk, hcd⟩ := Fu.ex
  have hlen : ∀ vs H Q E, spI K C ns n (runI m fs) vs H Q E → vs.length = ps.length := fun vs H Q E h => by
    obtain ⟨_, _, _, _, _, _, _, _, _, us, rfl, h, _⟩ := h
    rw [hps, ← h]
    rfl
  refine ⟨hlen, fun A outer s H args us vs Q E hr hgd e0 hb r hsp => ?_⟩
  have KX : K.In s.heap := e0.mod.kin.keeps fun b o e => (e0.bs b o e).1
  have hkind : ∀ y ∈ ps.zip us, (defScope st).names.lookup y.1 = some .local ∨ ((defScope st).names.lookup y.1 = some .cell ∧ ((cellsFrom (s.heap.objs.size + 1) (defScope st).names []).lookup y.1).isSome = true) := fun ⟨z, v⟩ hy =>
    (S.par z (List.of_mem_zip hy).1).imp id fun q => ⟨q, PySem.W.cellsFrom_some _ _ _ (.inl q)⟩
  refine codeAny_call_function hr.depth (KX _ _ lk) rfl S.co S.gen rfl (PySem.W.codeRec_of KX hcd) (hb _ _ _ _ (wpAny_newFunctionEnv_cells S.kind hkind fun env he s1 e1 => ?_))
  subst he
  have I : Inv (cxOf (L2.CX P wd) P wd K mg base N qual (defScope st) f cdv A outer s H E) [] (start N vs) H s1 := inv_start S hr.hd e0 (hlen _ _ _ _ hsp) r e1
  obtain ⟨O, H1, F, ts, w, rr, w', xx, dx, us', rfl, hl, rfl, hx1, hdx1, ne, sub, wok, dF, rs, hfn, acc⟩ := hsp
  obtain ⟨zs, rfl, hfn2⟩ := noEr_inv hfn
  let G : Gm W := ⟨O, H1, F⟩
  have hts : ts.length = n := by rw [← rs.length]; exact hl
  have S0 := Sd.start (K := K) (N := N) (vs := .ref xx :: us') (ts := .raw (.ref xx) :: ts) sub wok dF (.cons (.raw _) rs) (by rw [List.length_cons, hts]; omega)
  have S1 := (S0.forget 0).laid (p := dx) (o := .own xx) hdx1
  have hx2 : upd H1 dx (.own xx) xx = none := by rw [upd_ne (Ne.symm ne)]; exact hx1
  have S2 := S1.laid (p := xx) (o := .ins C dx []) hx2
  have e0' : ((T.raw (.ref xx) :: ts).map Sl.fz ++ List.replicate (N.length - (T.raw (.ref xx) :: ts).length) Sl.un).set 0 .un = .un :: (ts.map Sl.fz ++ List.replicate m Sl.un) := by
    have : N.length - (T.raw (V.ref xx) :: ts).length = m := by rw [List.length_cons, hts]; omega
    rw [this]
    rfl
  rw [e0'] at S2
  have hF : F xx = none := sub.free hx1
  have hself : (L2.start N (.ref xx :: us'))[0]? = some (some (.ref xx)) := rfl
  have hnos : ∀ (i : Nat) (s : Sl), (Sl.un :: (ts.map Sl.fz ++ List.replicate m Sl.un))[i]? = some s → s.owns = true → (L2.start N (.ref xx :: us'))[i]? ≠ some (some (V.ref xx)) := by
    intro i s hs ho
    have : s ∈ Sl.un :: (ts.map Sl.fz ++ List.replicate m Sl.un) := List.mem_of_getElem? hs
    simp only [List.mem_cons, List.mem_append, List.mem_map, List.mem_replicate] at this
    rcases this with rfl | ⟨t, _, rfl⟩ | ⟨_, rfl⟩ <;> cases ho
  refine ⟨(e0.mod.nolimit.keeps fun b o e => (e0.bs b o e).1).keeps e1.toInCall.keep, codeAny_func (wpAny_mono ((hbody cdv A outer s _ E G (hr.deeper _) hgd).run.run [] s1 (start N (.ref xx :: us')) _ { nx := fun _ H' => Q .non H', rt := Q } I
    ⟨_, w, F, zs, w', xx, dx, [], [], [], S2, hself, upd_same, rfl, hF, hx1, hnos, .nil, hfn2, by simpa using nd, by simpa using h9, fun H' F' vs' S' s' hx' hf' hl' rs' => acc H' F' vs' ⟨S'.sub, s', S'.old, S'.keep, S'.wok, S'.dF⟩ (by simpa using hx') hf' (by simpa using hl') (by
      have z : Reps K F' vs' ([] ++ zs) := rs'
      simpa using z)⟩) (fun fl s' hs => ?_) fun e s' hs => hs)⟩
  cases fl with
  | ret u =>
    obtain ⟨v, σ', H', J, rv, q⟩ := hs
    exact ⟨v, H', J.os, J.bare, J.base, J.hok, rv, q⟩
  | next =>
    obtain ⟨σ', H', J, q⟩ := hs
    exact ⟨.non, H', J.os, J.bare, J.base, J.hok, rfl, q⟩
  | brk =>
    obtain ⟨_, _, _, q⟩ := hs
    exact q.elim
  | cont =>
    obtain ⟨_, _, _, q⟩ := hs
    exact q.elim

/-! ### static methods -/
structure SmM (K : PySem.W.Frag) (C : Addr) (m : Str) (p g : Addr) : Prop where
  ga : PySem.W.specialIn K (.ref C) "__getattribute__" = some (some (.builtin "type.__getattribute__"))
  rd : PySem.W.readsIn K C (.type "type") = true
  at_ : PySem.W.findCls K (.ref C) (.type "type") m = some (.get (.builtin "staticmethod.__get__") (.ref p) .none (.ref C))
  rc : ∃ rest, PySem.W.recIn K p "staticmethod" = some (.ref g :: rest)
  kp : PySem.W.keepIn K (.ref g) = true
section
variable {k n : Nat} {C p g : Addr} {x m : Str} {e : Expr} {es : List Expr} {fa : Rho → M W (List T)} {Fn : List T → M W T} {px apos pos : Pos} {pl : Sem Bool}
theorem getsm_ok {pins : List (Addr × Obj)} {s : Shared} {Q : Value × List Value → Shared → Prop} (I : Inv X pins σ H s) (c : SmM X.K C m p g) (h : Q (.ref g, []) { s with toks := s.toks + 1 }) : wpAny (model X.prog X.w) X.A (getMethod (.ref C) m pl) Q X.xe s := by
  obtain ⟨rest, hp⟩ := c.rc
  refine PySem.W.method_cls I.kIn c.ga (PySem.W.cls_bind I.kIn c.rd c.at_ ?_)
  exact wpAny_call (PySem.W.sm_get (s := { s with toks := s.toks + 1 }) I.kIn hp (PySem.W.handed_on rfl h))
theorem pv_static (c : SmM X.K C m p g) (D : MethOk X.prog X.w X.K X.mg X.base k g n Fn) (hr : Room k X.A) (hgd : X.A.guards = some []) (hg : Gl X x) (hm : X.mg x = some (.ref C)) (hx : Passes (L2.CX X.prog X.w) X E) (ha : PAs X G E (e :: es) fa) (hdb : (x == ("__debug__" : Str)) = false := by decide)
    (he : starEach (e :: es) X.env = (false, eval e X.env) :: starEach es X.env := by rfl) (hpl : (backTo pos (starEach es X.env)).any (·.1) = false := by rfl)
    (ht : eval (.Call (.Attribute (.Name x px) m apos) (e :: es) [] pos) X.env = (do
      let ov ← eval (.Name x px) X.env
      standAt apos.atName
      let (f, first) ← holding [ov] (getMethod ov m pl)
      callWith pos f first (backTo pos (starEach (e :: es) X.env)) (backToKw pos (keywordEach [] X.env))) := by rfl) :
    PV X G E (.Call (.Attribute (.Name x px) m apos) (e :: es) [] pos) (fCall n fa Fn) := by
  obtain ⟨fd, ps, Fm, hb⟩ := D.ex
  refine ⟨⟨fun pins s σ H Q I h => ?_⟩⟩
  obtain ⟨ρ, w, F, q, w', S, hf, acc⟩ := h
  refine PySem.W.methodCall_KW (pl := pl) (ld_glob I hg hm ?_ hdb) ht
  refine getsm_ok I c ?_
  refine PySem.W.callWith_K (first := []) (h₀ := X.base) I.ok.mod.kin c.kp (thn (ha.run.run pos pins { s with toks := s.toks + 1 } σ H _ (I.tok _) (tA.bind (X := X) (Q := fun vs H1 => spF X.K n Fn vs H1 Q E) S hf acc.er fun ts w1 vs H1 F1 S1 s1 r1 hk => ?_)) fun us s1 ⟨vs, H1, I1, r, q⟩ => ⟨I1.kIn, run_fnG Fm hr hgd rfl hb hx I1 r q⟩) he hpl
  split at hk
  · rename_i hl
    exact spF.of S1 r1 hl hk (fun t ht v H' F' S' s' rv => by subst ht; exact acc v H' F' S' (s1.trans s' S1.dH) rv) (acc.mono s1 S1.dH).er
  · cases hk
/-- the same by names; ks: the parameters -/
theorem pv_staticK {kws : List Keyword} {ks : List Str} {tk : TA} (c : SmM X.K C m p g) (D : ∃ fd ps, FnG X.prog X.w X.K X.mg X.base (L2.CX X.prog X.w) k g fd ps (spF X.K n Fn) ∧ KBinds X.K fd ps ks (fun us ws => us ++ ws) (fun vs zs => vs ++ zs)) (hr : Room k X.A) (hgd : X.A.guards = some []) (hg : Gl X x) (hm : X.mg x = some (.ref C)) (hx : Passes (L2.CX X.prog X.w) X E)
    (hkw : PK X kws tk) (htk : ∀ σ H Q, tA X.K G E fa σ H Q → tk σ H Q) (hall : (backToKw pos (keywordEach kws X.env)).all (·.1.isSome) = true := by rfl) (hks : (backToKw pos (keywordEach kws X.env)).filterMap (·.1) = ks := by rfl) (hdb : (x == ("__debug__" : Str)) = false := by decide)
    (hpl : ((backTo pos (starEach [] X.env)).any (·.1) || (backToKw pos (keywordEach kws X.env)).any (·.1.isNone)) = false := by rfl)
    (ht : eval (.Call (.Attribute (.Name x px) m apos) [] kws pos) X.env = (do
      let ov ← eval (.Name x px) X.env
      standAt apos.atName
      let (f, first) ← holding [ov] (getMethod ov m pl)
      callWith pos f first (backTo pos (starEach [] X.env)) (backToKw pos (keywordEach kws X.env))) := by rfl) :
    PV X G E (.Call (.Attribute (.Name x px) m apos) [] kws pos) (fCall n fa Fn) := by
  obtain ⟨fd, ps, Fm, hb⟩ := D
  refine ⟨⟨fun pins s σ H Q I h => ?_⟩⟩
  obtain ⟨ρ, w, F, q, w', S, hf, acc⟩ := h
  refine PySem.W.methodCall_KW (pl := pl) (ld_glob I hg hm ?_ hdb) ht
  refine getsm_ok I c ?_
  refine PySem.W.callWith_KW0 (first := []) (h₀ := X.base) I.ok.mod.kin c.kp hall (thn (hkw.run pos pins { s with toks := s.toks + 1 } σ H _ (I.tok _) (htk _ _ _ (tA.bind (X := X) (Q := fun vs H1 => spF X.K n Fn vs H1 Q E) S hf acc.er fun ts w1 vs H1 F1 S1 s1 r1 hk => ?_))) fun us s1 ⟨vs, H1, I1, r, q⟩ => ⟨I1.kIn, ?_⟩) hpl
  · split at hk
    · rename_i hl
      exact spF.of S1 r1 hl hk (fun t ht v H' F' S' s' rv => by subst ht; exact acc v H' F' S' (s1.trans s' S1.dH) rv) (acc.mono s1 S1.dH).er
    · cases hk
  · rw [hks]
    have r2 := hb.rel (vs := []) (us := []) .nil r
    have hl : (([] : List Value) ++ us).length = ps.length := by rw [← r2.length]; exact Fm.len _ _ _ _ q
    exact wpAny_call (FnG.out hx I1 (Fm.run X.A X.stack s1 H1 ⟨[], ks.zip us⟩ ([] ++ us) ([] ++ vs) Q E hr hgd I1.env0 (hb.to s1 [] us I1.kIn hl) r2 q))
end
end
section
variable {W : Type} {P : Program} {w : World} {K : PySem.W.Frag} {mg : Str → Option Value} {base : Heap}
theorem meth_okK {x qual : Str} {st : Stmt} {f : Addr} {N ps ks : List Str} {n m k : Nat} {g : Rho → M W Fl} (D : ∃ fd, Fun K x qual st f fd) (S : FnScope N ps (defScope st)) (hps : ps.length = n) (hN : N.length = n + m)
    (hb : ∀ (kV doc pm : Value) (an : Option Addr) (cdv ct : Value) (us ws : List Value), (us ++ ws).length = ps.length → bindArgs (PySem.W.fnOf x qual (defArgs st) (defBody st) (defScope st) .none kV doc pm an cdv ct) ⟨us, ks.zip ws⟩ = pure (ps.zip (us ++ ws)))
    (hbody : ∀ (cdv : Value) (A : Around) (outer : List PySem.Env) (s : Shared) (H : Hp) (E : XK) (G : Gm W), Room k (A.deeper (envOfC qual (defScope st) s.heap.objs.size f cdv)) → (A.deeper (envOfC qual (defScope st) s.heap.objs.size f cdv)).guards = some [] →
      PDs (cxOf (L2.CX P w) P w K mg base N qual (defScope st) f cdv A outer s H E) G E (defBody st) g) :
    ∃ fd ps, FnG P w K mg base (L2.CX P w) (k + 1) f fd ps (spF K n (run m g)) ∧ KBinds K fd ps ks (fun us ws => us ++ ws) (fun vs zs => vs ++ zs) := by
  obtain ⟨fd, F⟩ := D
  refine ⟨fd, ps, body_ok F S hps hN hbody, ⟨fun s us ws _ hl => ?_, fun r rz => r.append rz⟩⟩
  obtain ⟨oc, od, kV, doc, pm, an, cdv, ct, osl, rfl, lk, hcd⟩ := F.ex
  exact .of_eq (hb kV doc pm an cdv ct us ws hl)
theorem tk_one {X : Cx} {G : Gm W} {E : XK} {fa : Rho → M W T} : ∀ σ H Q, tA X.K G E (aCons fa aNil) σ H Q → tCons (tV X.K G E fa) tNil σ H Q := fun σ H Q => by
  rintro ⟨ρ, w, F, r, w', S, hf, acc⟩
  refine tV.bind (X := X) S hf acc.er fun t w1 v H1 F1 S1 s1 r1 hk => ?_
  obtain ⟨rfl, rfl⟩ := ret_inv hk
  exact acc [v] H1 F1 S1 s1 (.one r1)
end
end PL

/-! PLq: a list comprehension over the keys of a dict. -/
namespace PL
open PySem PySem.Spec PyProof.Rows L2
section
variable {W : Type} {X : Cx} {G : Gm W} {E : XK} {ρ : Rho} {w w' : W} {σ : L2.St} {H F : Hp}
section
variable {K : PySem.W.Frag} {a : Addr} {o : Obj} {kvs : List (Key × V)}
theorem SqT.ne {F : Hp} {b : Addr} {xs : List V} (h : SqT K F b xs) (u : HO) (hu : ∀ ys, u ≠ .tup ys) (hf : ∀ o ys, u ≠ .frz o (.tup ys)) (ha : F a = some u) : SqT K (fun c => if c = a then some u else F c) b xs ∨ b ≠ a := by
  by_cases e : b = a
  · subst e
    rcases h with (h | ⟨o, h⟩) | h
    · rw [ha] at h; cases h; exact absurd rfl (hu _)
    · rw [ha] at h; cases h; exact absurd rfl (hf _ _)
    · exact .inl (.inr h)
  · exact .inr e
theorem SqT.chg {F : Hp} {b : Addr} {xs : List V} {u u' : HO} (h : SqT K F b xs) (ha : F a = some u) (hu : ∀ ys, u ≠ .tup ys) (hf : ∀ o ys, u ≠ .frz o (.tup ys)) : SqT K (upd F a u') b xs := by
  rcases h with (h | ⟨o, h⟩) | h
  · exact .inl (.inl (by rw [upd_ne (fun e => by subst e; rw [ha] at h; cases h; exact hu _ rfl)]; exact h))
  · exact .inl (.inr ⟨o, by rw [upd_ne (fun e => by subst e; rw [ha] at h; cases h; exact hf _ _ rfl)]; exact h⟩)
  · exact .inr h
mutual
theorem Rep.lock {F : Hp} (ha : F a = some (.dK kvs)) : ∀ {v : V} {t : T}, Rep K F v t → Rep K (upd F a (.frz o (.dK kvs))) v t
  | _, _, .non => .non
  | _, _, .bl b => .bl b
  | _, _, .int i => .int i
  | _, _, .str x => .str x
  | _, _, .tup h r => .tup (SqT.chg h ha (fun _ z => nomatch z) fun _ _ z => nomatch z) (Reps.lock ha r)
  | _, _, .lst h r => .lst (by rw [upd_ne (fun e => by subst e; rw [ha] at h; cases h)]; exact h) (Reps.lock ha r)
  | _, _, .dct (a := b) h e r => .dct (by
      by_cases q : b = a
      · subst q
        rcases h with h | ⟨o', h⟩
        · rw [ha] at h; cases h; exact .inr ⟨o, upd_same⟩
        · rw [ha] at h; cases h
      · rcases h with h | ⟨o', h⟩
        · exact .inl (by rw [upd_ne q]; exact h)
        · exact .inr ⟨o', by rw [upd_ne q]; exact h⟩) e (Reps.lock ha r)
  | _, _, .ins h e r => .ins (by rw [upd_ne (fun e => by subst e; rw [ha] at h; cases h)]; exact h) e (Reps.lock ha r)
  | _, _, .raw v => .raw v
theorem Reps.lock {F : Hp} (ha : F a = some (.dK kvs)) : ∀ {vs : List V} {ts : List T}, Reps K F vs ts → Reps K (upd F a (.frz o (.dK kvs))) vs ts
  | _, _, .nil => .nil
  | _, _, .cons h r => .cons (Rep.lock ha h) (Reps.lock ha r)
end
mutual
theorem Rep.unlock {F : Hp} (ha : F a = some (.frz o (.dK kvs))) : ∀ {v : V} {t : T}, Rep K F v t → Rep K (upd F a (.dK kvs)) v t
  | _, _, .non => .non
  | _, _, .bl b => .bl b
  | _, _, .int i => .int i
  | _, _, .str x => .str x
  | _, _, .tup h r => .tup (SqT.chg h ha (fun _ z => nomatch z) fun _ _ z => nomatch z) (Reps.unlock ha r)
  | _, _, .lst h r => .lst (by rw [upd_ne (fun e => by subst e; rw [ha] at h; cases h)]; exact h) (Reps.unlock ha r)
  | _, _, .dct (a := b) h e r => .dct (by
      by_cases q : b = a
      · subst q
        rcases h with h | ⟨o', h⟩
        · rw [ha] at h; cases h
        · rw [ha] at h; cases h; exact .inl upd_same
      · rcases h with h | ⟨o', h⟩
        · exact .inl (by rw [upd_ne q]; exact h)
        · exact .inr ⟨o', by rw [upd_ne q]; exact h⟩) e (Reps.unlock ha r)
  | _, _, .ins h e r => .ins (by rw [upd_ne (fun e => by subst e; rw [ha] at h; cases h)]; exact h) e (Reps.unlock ha r)
  | _, _, .raw v => .raw v
theorem Reps.unlock {F : Hp} (ha : F a = some (.frz o (.dK kvs))) : ∀ {vs : List V} {ts : List T}, Reps K F vs ts → Reps K (upd F a (.dK kvs)) vs ts
  | _, _, .nil => .nil
  | _, _, .cons h r => .cons (Rep.unlock ha h) (Reps.unlock ha r)
end
/-- the frame with the dict at a changed, where it stands -/
def chg (H : Hp) (a : Addr) (u : HO) : Hp := fun b => if b = a then (H a).map fun _ => u else H b
theorem chg_ne {H : Hp} {u : HO} {b : Addr} (h : b ≠ a) : chg H a u b = H b := if_neg h
theorem chg_same {H : Hp} {u : HO} : chg H a u a = (H a).map fun _ => u := if_pos rfl
def lockG (G : Gm W) (a : Addr) (u : HO) : Gm W := ⟨G.O, chg G.B a u, chg G.F0 a u⟩
theorem Sd.lock (S : Sd K G ρ w σ H F) (ha : F a = some (.dK kvs)) : Sd K (lockG G a (.frz o (.dK kvs))) ρ w σ (upd H a (.frz o (.dK kvs))) (upd F a (.frz o (.dK kvs))) := by
  have nd : ¬ G.O.D a := fun d => by have := S.dF a d; rw [ha] at this; cases this
  refine ⟨Same.updB S.sub, G.O.stay S.wok fun b db => upd_ne (neq_of nd db), fun b db => by rw [upd_ne (neq_of nd db)]; exact S.dF b db, fun b db => by show chg G.B a _ b ≠ none; rw [chg_ne (neq_of nd db)]; exact S.dB b db, fun b u e d => ?_, fun b u e => ?_, fun b hb => ?_, fun i s hs => ?_, S.apart, S.len⟩
  · have e' : chg G.B a _ b = some u := e
    by_cases q : b = a
    · subst q
      rw [chg_same] at e'
      cases z : G.B b with
      | none => rw [z] at e'; cases e'
      | some y => rw [z] at e'; cases e'; exact upd_same
    · rw [chg_ne q] at e'; rw [upd_ne q]; exact S.keep b u e' d
  · have e' : chg G.F0 a _ b = some u := e
    by_cases q : b = a
    · subst q
      rw [chg_same] at e'
      cases z : G.F0 b with
      | none => rw [z] at e'; cases e'
      | some y => rw [z] at e'; cases e'; exact upd_same
    · rw [chg_ne q] at e'; rw [upd_ne q]; exact S.grow b u e'
  · show upd F a _ b = chg G.F0 a _ b
    have hb' : chg G.B a _ b ≠ none := hb
    by_cases q : b = a
    · subst q
      have : G.B b ≠ none := fun z => hb' (by rw [chg_same, z]; rfl)
      rw [chg_same, ← S.old b this, ha, upd_same]
      rfl
    · rw [chg_ne q] at hb' ⊢; rw [upd_ne q]; exact S.old b hb'
  · have q := S.slots i s hs
    have npa : ∀ p : Addr, F p = none → p ≠ a := fun p hp z => by subst z; rw [ha] at hp; cases hp
    have nB : ∀ p : Addr, p ≠ a → G.B p = none → (lockG G a (.frz o (.dK kvs))).B p = none := fun p hp h => by show chg G.B a _ p = none; rw [chg_ne hp]; exact h
    cases s with
    | un => trivial
    | fz t => obtain ⟨v, e, r⟩ := q; exact ⟨v, e, r.lock ha⟩
    | ow ts =>
      obtain ⟨p, vs, e, h1, h2, h3, r⟩ := q
      have np := npa p h2
      exact ⟨p, vs, e, by rw [upd_ne np]; exact h1, by rw [upd_ne np]; exact h2, nB p np h3, r.lock ha⟩
    | od ks ts =>
      obtain ⟨p, vs, e, h1, hl, h2, h3, r⟩ := q
      have np := npa p h2
      exact ⟨p, vs, e, by rw [upd_ne np]; exact h1, hl, by rw [upd_ne np]; exact h2, nB p np h3, r.lock ha⟩
/-- .. and back, in a later state -/
theorem Sd.unlock {ρ' : Rho} {w1 : W} {σ' : L2.St} {H' F' : Hp} (S0 : Sd K G ρ w σ H F) (ha : F a = some (.dK kvs)) (S : Sd K (lockG G a (.frz o (.dK kvs))) ρ' w1 σ' H' F') (hF : F' a = some (.frz o (.dK kvs))) :
    Sd K G ρ' w1 σ' (upd H' a (.dK kvs)) (upd F' a (.dK kvs)) := by
  have nd : ¬ G.O.D a := fun d => by have := S0.dF a d; rw [ha] at this; cases this
  refine ⟨Same.updB S.sub, G.O.stay S.wok fun b db => upd_ne (neq_of nd db), fun b db => by rw [upd_ne (neq_of nd db)]; exact S.dF b db, S0.dB, fun b u e d => ?_, fun b u e => ?_, fun b hb => ?_, fun i s hs => ?_, S.apart, S.len⟩
  · by_cases q : b = a
    · subst q
      have := S0.sub _ _ ha
      rw [S0.keep b u e d] at this
      cases this
      exact upd_same
    · rw [upd_ne q]; exact S.keep b u (by show chg G.B a _ b = _; rw [chg_ne q]; exact e) d
  · by_cases q : b = a
    · subst q
      have := S0.grow b u e
      rw [ha] at this
      cases this
      exact upd_same
    · rw [upd_ne q]; exact S.grow b u (by show chg G.F0 a _ b = _; rw [chg_ne q]; exact e)
  · by_cases q : b = a
    · subst q
      rw [upd_same, ← S0.old b hb, ha]
    · rw [upd_ne q]
      have z := S.old b (by show chg G.B a _ b ≠ none; rw [chg_ne q]; exact hb)
      rw [z]
      show chg G.F0 a _ b = _
      rw [chg_ne q]
  · have q := S.slots i s hs
    have npa : ∀ p : Addr, F' p = none → p ≠ a := fun p hp z => by subst z; rw [hF] at hp; cases hp
    have nB : ∀ p : Addr, p ≠ a → (lockG G a (.frz o (.dK kvs))).B p = none → G.B p = none := fun p hp h => by
      have h' : chg G.B a _ p = none := h
      rw [chg_ne hp] at h'; exact h'
    cases s with
    | un => trivial
    | fz t => obtain ⟨v, e, r⟩ := q; exact ⟨v, e, r.unlock hF⟩
    | ow ts =>
      obtain ⟨p, vs, e, h1, h2, h3, r⟩ := q
      have np := npa p h2
      exact ⟨p, vs, e, by rw [upd_ne np]; exact h1, by rw [upd_ne np]; exact h2, nB p np h3, r.unlock hF⟩
    | od ks ts =>
      obtain ⟨p, vs, e, h1, hl, h2, h3, r⟩ := q
      have np := npa p h2
      exact ⟨p, vs, e, by rw [upd_ne np]; exact h1, hl, by rw [upd_ne np]; exact h2, nB p np h3, r.unlock hF⟩
end
def keyV : Key → T
  | .inl i => .int i
  | .inr x => .str x
def fKeys (i : Nat) : Rho → M W (List T) := fun ρ => match ρ[i]? with
  | some (.fz (.dct ks _)) => ret (ks.map keyV)
  | _ => stuck
theorem fKeys_inv {i : Nat} {r : R (List T)} (h : fKeys i ρ w = some (r, w')) : ∃ ks ts, ρ[i]? = some (.fz (.dct ks ts)) ∧ r = .ok (ks.map keyV) ∧ w' = w := by
  unfold fKeys at h
  cases e : ρ[i]? with
  | none => rw [e] at h; cases h
  | some s =>
    rw [e] at h
    cases s with
    | fz t =>
      cases t with
      | dct ks ts =>
        obtain ⟨rfl, rfl⟩ := ret_inv h
        exact ⟨ks, ts, rfl, rfl, rfl⟩
      | _ => cases h
    | _ => cases h
theorem walks_keys {K : PySem.W.Frag} {a : Addr} {o : Obj} {ks : List Key} {vs : List V} (h : F a = some (.frz o (.dK (ks.zip vs)))) (hl : ks.length = vs.length) : Walks K G (Itk a o (ks.zip vs)) F (ks.map keyV) := by
  have hz : (ks.zip vs).length = ks.length := by rw [List.length_zip]; omega
  refine ⟨fun i ρ w σ H F' s S t ht => ?_, fun i ρ w σ H F' s S hi => ?_⟩
  · rw [List.getElem?_map] at ht
    cases e : ks[i]? with
    | none => rw [e] at ht; cases ht
    | some k =>
      rw [e] at ht
      cases ht
      have hi : i < ks.length := (List.getElem?_eq_some_iff.mp e).1
      refine ⟨⟨S.sub _ _ (s _ _ h), by rw [hz]; exact hi⟩, fun x H' hy => ?_⟩
      obtain ⟨rfl, k', v', hk, rfl⟩ := hy
      rw [List.getElem?_zip_eq_some] at hk
      rw [e] at hk
      have e2 : k = k' := Option.some.inj hk.1
      subst e2
      refine ⟨F', .refl, S, ?_⟩
      cases k with
      | inl i => exact .int i
      | inr x => exact .str x
  · exact ⟨S.sub _ _ (s _ _ h), by rw [hz]; simpa using hi⟩
section
variable {elt tg : Expr} {ifs : List Expr} {scope : Scope} {own : List (Str × Nat)} {x : Str} {px pos : Pos} {is : List Nat} {h : T → Rho → Option Rho} {gt : Rho → M W Bool} {ge : Rho → M W T}
/-- [e for k in d if ..], d a frozen dict in the i-th slot -/
theorem keys_core {i : Nat} {a : Addr} {o : Obj} {kvs : List (Key × V)} {Q : VK} {vs : List Nat} (his : ∀ i ∈ is, i ∈ vs) (hv : σ[i]? = some (some (.ref a))) (hH : H a = some (.frz o (.dK kvs))) (q : tF X.K G E (fLc (fKeys i) vs h gt ge) σ H Q) :
    tLc (iKeys (tVar i)) (tG X.K G is h) (tT X.K G E0 gt) (tV X.K G E0 ge) vs σ H Q := by
  have z := tLc.of (is := is) his σ H Q q
  obtain ⟨ρ, w, F, r, w', S, hf, acc⟩ := z
  obtain ⟨ks, ts, hs, rfl, rfl⟩ := fKeys_inv hf
  obtain ⟨v, e, rv⟩ := S.slots i _ hs
  rw [hv] at e
  cases e
  cases rv with
  | @dct _ _ vs' _ hr hl rs =>
    have hF : F a = some (.frz o (.dK kvs)) := by
      rcases hr with hr | ⟨o', hr⟩
      · have := S.sub _ _ hr; rw [hH] at this; cases this
      · have := S.sub _ _ hr; rw [hH] at this; cases this; exact hr
    have ek : kvs = ks.zip vs' := by
      rcases hr with hr | ⟨o', hr⟩
      · rw [hF] at hr; cases hr
      · rw [hF] at hr; cases hr; rfl
    subst ek
    exact ⟨.ref a, hv, a, o, rfl, .inl ⟨_, hH, acc _ H F S .refl (walks_keys hF hl)⟩⟩
theorem pf_lcK (i : Nat) (hc : X.calm = true) (hN : X.N.Nodup) (hi : X.N[i]? = some x) (hvis : Vis X.env.scope x) (ok : BlkOk X.N X.env.scope scope own) (B : ∀ G : Gm W, Blk X G scope tg ifs elt is h gt ge) (his : ∀ i ∈ is, i ∈ own.map (·.2)) (hd : (x == ("__debug__" : Str)) = false := by decide) (hcd : (x == ("__classdict__" : Str)) = false := by decide)
    (hs : ∀ z, foldedSetIterable (.Name x px) X.env z = pure z := by intro _; rfl) : PF X G E (.ListComp elt [⟨tg, .Name x px, ifs, 0⟩] scope pos) (fLc (fKeys i) (own.map (·.2)) h gt ge) := by
  have P : ∀ G : Gm W, PE X (.ListComp elt [⟨tg, .Name x px, ifs, 0⟩] scope pos) (tLc (iKeys (tVar i)) (tG X.K G is h) (tT X.K G E0 gt) (tV X.K G E0 ge) (own.map (·.2))) := fun G =>
    pe_lc hc hN (pi_keys (pe_var hi hvis hd hcd)) ok (fun s H C cl fp => ((B G).tg s H C cl fp).run) (B G).ts (fun s H C cl fp => ((B G).el s H C cl fp).run) hs
  refine ⟨⟨fun pins s σ H Q I q => ?_⟩⟩
  obtain ⟨ρ, w, F, r, w', S, hf, acc⟩ := q
  have hok : ∃ us, r = .ok us := by
    rcases bnd_inv hf with ⟨ts, w1, h1, h2⟩ | ⟨e, h1, rfl⟩
    · split at h2
      · exact compD_ok h2
      · cases h2
    · obtain ⟨_, _, _, z, _⟩ := fKeys_inv h1
      cases z
  obtain ⟨us, rfl⟩ := hok
  have hsl : ∃ ks ts, ρ[i]? = some (.fz (.dct ks ts)) := by
    rcases bnd_inv hf with ⟨ts, w1, h1, h2⟩ | ⟨e, h1, z⟩
    · obtain ⟨ks, ts, e, _⟩ := fKeys_inv h1
      exact ⟨ks, ts, e⟩
    · cases z
  obtain ⟨ks, ts, hsl⟩ := hsl
  obtain ⟨v, hv, rv⟩ := S.slots i _ hsl
  cases rv with
  | @dct a _ vs _ hr hl rs =>
    rcases hr with hr | ⟨o, hr⟩
    · obtain ⟨o, I1⟩ := I.lock (S.sub _ _ hr) trivial
      have S1 := S.lock (o := o) hr
      refine thn ((P (lockG G a (.frz o (.dK (ks.zip vs))))).run pins s σ _ (fun v H' => H' a = some (.frz o (.dK (ks.zip vs))) ∧ Q v (upd H' a (.dK (ks.zip vs)))) I1 (keys_core (E := E) his hv upd_same ⟨ρ, w, _, .ok us, w', S1, hf, fun p vs' H' F' S' g h0 h1 h2 h3 h4 h5 => ?_⟩)) fun v s1 ⟨y, H1, I2, ry, e2, q⟩ => ⟨y, _, I2.unlock e2 (I.nofrz (S.sub _ _ hr) trivial), ry, q⟩
      have hF' : F' a = some (.frz o (.dK (ks.zip vs))) := g.same _ _ upd_same
      have npa : p ≠ a := fun z => by subst z; rw [upd_same] at h0; cases h0
      refine ⟨S'.sub _ _ hF', acc p vs' _ (upd F' a (.dK (ks.zip vs))) (S.unlock hr S' hF') ⟨fun b u e => ?_, fun b u e d => ?_, fun b hb => ?_⟩ (by rw [upd_ne npa] at h0; exact h0) (by rw [upd_ne npa]; exact h1) (by rw [upd_ne npa]; exact h2) (by
        have h3' : chg G.B a _ p = none := h3
        rw [chg_ne npa] at h3'; exact h3') h4 (h5.unlock hF')⟩
      · by_cases z : b = a
        · subst z; rw [hr] at e; cases e; exact upd_same
        · rw [upd_ne z]; exact g.same b u (by rw [upd_ne z]; exact e)
      · by_cases z : b = a
        · subst z
          have := S.sub _ _ hr
          rw [e] at this
          cases this
          exact upd_same
        · rw [upd_ne z]; exact g.keep b u (by rw [upd_ne z]; exact e) d
      · by_cases z : b = a
        · subst z; rw [upd_same, hr]
        · rw [upd_ne z]
          have := g.nof b (by rw [upd_ne z]; exact hb)
          rw [upd_ne z] at this
          exact this
    · exact (P G).run pins s σ H Q I (keys_core (E := E) his hv (S.sub _ _ hr) ⟨ρ, w, F, .ok us, w', S, hf, acc⟩)
end
end
end PL

/-! PLr: repr of data, minus, reversed, smaller calls. -/
namespace PL
open PySem PySem.Spec PyProof.Rows L2
section
variable {prog : Program} {w : World} {A : Around} {E : Value → Shared → Prop} {s : Shared}
theorem adjust_rev (n : Nat) : Builtin.Slice.sliceAdjust none none (-1) (n : Int) = ((n : Int) - 1, -1) := by
  unfold Builtin.Slice.sliceAdjust
  simp
theorem places_rev (n : Nat) : Builtin.Slice.slicePlaces ((n : Int) - 1) (-1) (-1) = n := by
  unfold Builtin.Slice.slicePlaces
  have h1 : ¬ ((-1 : Int) > 0) := by omega
  simp only [h1, if_false]
  split <;> simp <;> omega
theorem applied_rev {sl : Addr} {n : Nat} {u : Tok} {Q : Int × Int × Nat → Shared → Prop} (hs : s.heap.IsSliceOf sl .none .none (.int (-1) u)) (h : Q ((n : Int) - 1, -1, n) s) :
    wpAny (model prog w) A (Builtin.Slice.sliceApplied (.ref sl) (pure (n : Int))) Q E s := by
  obtain ⟨os, hos, hcs, hds⟩ := id hs
  unfold Builtin.Slice.sliceApplied Builtin.Slice.sliceFields
  refine wpAny_bind (wpAny_bind (wpAny_field hos hds (x := .none) rfl (wpAny_bind (wpAny_field hos hds (x := .none) rfl (wpAny_bind (wpAny_field hos hds (x := .int (-1) u) rfl (wpAny_pure ?_)))))))
  refine wpAny_bind (slicePart_int ?_)
  show wpAny _ _ (if ((-1 : Int) == 0) = true then _ else _) _ _ s
  rw [if_neg (by decide)]
  refine wpAny_bind (slicePart_none (wpAny_bind (slicePart_none (wpAny_bind (wpAny_pure ?_)))))
  show wpAny _ _ (match Builtin.Slice.sliceAdjust none none (-1) (n : Int) with | (lo, hi) => pure (lo, (-1 : Int), Builtin.Slice.slicePlaces lo hi (-1))) _ _ s
  rw [adjust_rev n]
  show wpAny _ _ (pure ((n : Int) - 1, (-1 : Int), Builtin.Slice.slicePlaces ((n : Int) - 1) (-1) (-1))) _ _ s
  rw [places_rev n]
  exact wpAny_pure h
theorem pick_rev (xs : Array Value) : ((List.range xs.size).filterMap fun (k : Nat) => xs[(((xs.size : Int) - 1) + (k : Int) * (-1)).toNat]?).toArray = xs.toList.reverse.toArray := by
  have e : (List.range xs.size).filterMap (fun (k : Nat) => xs[(((xs.size : Int) - 1) + (k : Int) * (-1)).toNat]?) = ((List.range xs.size).map fun k => xs.size - 1 - k).filterMap (xs[·]?) := by
    rw [List.filterMap_map]
    congr 1
    funext k
    have : (((xs.size : Int) - 1) + (k : Int) * (-1)).toNat = xs.size - 1 - k := by omega
    rw [this]
    rfl
  rw [e, PySem.W.krv_range, List.filterMap_reverse, PySem.W.krv_all]
theorem getItem_tuple_rev {t sl : Addr} {items : Array Value} {u : Tok} {Q : Value → Shared → Prop} (ht : IsTup s.heap t items) (hs : s.heap.IsSliceOf sl .none .none (.int (-1) u)) (hsz : items.size ≤ sizeLine)
    (h : Q (.ref s.heap.objs.size) { s with heap := s.heap.push { cls := .type "tuple", data := .seq items.toList.reverse.toArray } }) : wpAny (model prog w) A (getItem (.ref t) (.ref sl)) Q E s := by
  have hrev : sizeOk (.seq items.toList.reverse.toArray) := by
    show items.toList.reverse.toArray.size ≤ sizeLine
    rw [List.size_toArray, List.length_reverse, Array.length_toList]
    exact hsz
  obtain ⟨os, hos, hcs, hds⟩ := id hs
  have hTs : s.TypeIs (.ref sl) "slice" := ⟨os, hos, hcs⟩
  unfold getItem
  try with_reducible refine wpAny_holding ?_
  first | refine wpAny_bind (wpAny_pure ?_) | skip
  refine wpAny_bind (wpAny_sequenceKey ht.typeIs (by decide) ?_)
  refine wpAny_bind (wpAny_callSpecial?_slot (name := Str.ofString "__getitem__") ht.typeIs slot_tuple_getitem (wpAny_call_entry slot_tuple_getitem ht.typeIs entry_tuple_getitem ?_ (args_tuple_getitem _ _)))
  show wpAny _ _ (Builtin.Tuple.tupleItemsOf (.ref t) >>= _) _ _ s
  refine wpAny_bind (tupleItemsOf_ ht (wpAny_bind (wpAny_typeOf hTs ?_)))
  rw [if_pos (by decide)]
  refine wpAny_bind (applied_rev hs ?_)
  have hno : ¬ ((((items.size : Int) - 1) == 0 && (-1 : Int) == 1 && items.size == items.size) = true) := by simp
  show wpAny _ _ (if (((items.size : Int) - 1) == 0 && (-1 : Int) == 1 && items.size == items.size) = true then _ else _) _ _ s
  rw [if_neg hno, pick_rev items]
  first
    | exact wpAny_bind (m := Builtin.Tuple.tupleExact _) (wpAny_newObj_type (wpAny_pure ⟨_, rfl, wpAny_pure h⟩) hrev)
    | exact wpAny_bind (m := Builtin.Tuple.tupleExact _) (wpAny_newObj_type (wpAny_bind (wpAny_pure (wpAny_pure ⟨_, rfl, wpAny_pure h⟩))) hrev)
    | exact wpAny_bind (wpAny_bind (m := Builtin.Tuple.tupleExact _) (wpAny_newObj_type (wpAny_pure (wpAny_pure ⟨_, rfl, wpAny_pure h⟩)) hrev))
    | exact wpAny_bind (wpAny_bind (m := Builtin.Tuple.tupleExact _) (wpAny_newObj_type (wpAny_pure ⟨_, rfl, wpAny_pure h⟩) hrev))
end
section
variable {W : Type} {X : Cx} {G : Gm W} {E : XK} {ρ : Rho} {w w' : W} {σ : L2.St} {H F : Hp} {e : Expr} {fa : Rho → M W T} {pos : Pos}
def negT (t : T) : Option T := match t with
  | .int i => some (.int (-i))
  | _ => none
theorem pv_neg (ha : PV X G E e fa) : PV X G E (.UnaryOp .USub e pos) (f1 negT fa) := ⟨(pe_un un_neg ha.run).imp fun σ H Q => by
  rintro ⟨ρ, w, F, q, w', S, hf, acc⟩
  refine tV.bind (X := X) S hf acc.er fun t w1 x H1 F1 S1 s1 r1 hk => ?_
  obtain ⟨z, hz, rfl, rfl⟩ := lift_inv hk
  unfold negT at hz
  split at hz
  · cases hz
    exact ⟨_, r1.int_inv, acc _ H1 F1 S1 s1 (.int _)⟩
  · cases hz⟩
/-! ### reversed -/
theorem pe_revT {te : TE} {k : Nat} {p1 p2 p3 : Pos} (he : PE X e te) : PE X (.Subscript e (.Slice none none (some (.UnaryOp .USub (.Constant (.int 1) k p1) p2)) p3) pos)
    (fun σ H Q => te σ H fun x H1 => ∃ a xs, x = .ref a ∧ SqT X.K H1 a xs ∧ ∀ p, H1 p = none → Q (.ref p) (upd H1 p (.tup xs.reverse))) := by
  refine ⟨fun pins s σ H Q I h => ?_⟩
  refine Subscript_ (thn (he.run pins s σ H _ I h) fun v s1 ⟨x, H1, I1, r1, a, xs, ex, hx, q⟩ => ?_)
  subst ex
  cases r1
  have hst : PO X (some (.UnaryOp .USub (.Constant (.int 1) k p1) p2)) (tPart (tUn (rU fun i => .int (-i)) (tC (.int 1)))) := po_some (pe_un un_neg pe_int)
  refine wpAny_Slice (thn (po_none.run pins s1 σ H1 (fun o H2 => o = none ∧ H2 = H1) I1 ⟨rfl, rfl⟩) fun vl s2 ⟨l, H2, I2, pl, el, e2⟩ => ?_)
  subst el e2
  refine thn (po_none.run pins s2 σ H2 (fun o H3 => o = none ∧ H3 = H2) I2 ⟨rfl, rfl⟩) fun vu s3 ⟨u, H3, I3, pu, eu, e3⟩ => ?_
  subst eu e3
  refine thn (hst.run pins s3 σ H3 (fun o H4 => o = some (-1) ∧ H4 = H3) I3 ⟨1, rfl, -1, rfl, rfl, rfl⟩) fun vs s4 ⟨o, H4, I4, ps, eo, e4⟩ => ?_
  subst eo e4
  have I5 : Inv X pins σ H4 { s4 with heap := s4.heap.push { cls := .type "slice", data := .fields #[vl, vu, vs] } } := I4.kept (t' := s4.toks) fun b ob q => Heap.get?_push_of_some _ q
  obtain ⟨its, r, ht, hz⟩ := I5.tuple hx
  obtain rfl : vl = .none := by cases pl; rfl
  obtain rfl : vu = .none := by cases pu; rfl
  obtain ⟨u, rfl⟩ : ∃ u, vs = .int (-1) u := by cases ps; exact ⟨_, rfl⟩
  have hlen := r.length
  show wpAny (model X.prog X.w) X.A (subscriptTail e (.Slice none none (some (.UnaryOp .USub (.Constant (.int 1) k p1) p2)) p3) (.ref a) (.ref s4.heap.objs.size)) (EP X pins σ Q) X.xe { s4 with heap := s4.heap.push { cls := .type "slice", data := .fields #[.none, .none, .int (-1) u] } }
  refine tail_any (ops := [.ref a, .ref s4.heap.objs.size]) ht.typeIs slot_tuple_getitem.lookup ?_ (by with_unfolding_all rfl)
  refine getItem_tuple_rev ht (Heap.IsSliceOf.new _ .none .none (.int (-1) u)) (by rw [List.size_toArray]; omega) ?_
  refine ⟨.ref _, _, I5.laid (t' := s4.toks) (o := .tup xs.reverse) (fun b ob q => Heap.get?_push_of_some _ q) (Nat.le_refl _) ?_, rfl, q _ (I5.hok.fresh (Nat.le_refl _))⟩
  exact ⟨by rw [List.length_reverse]; exact hz, _, r.reverse, ⟨_, Heap.get?_push_size _ rfl, rfl, _, rfl⟩⟩
theorem _root_.L2.PE.or {e : Expr} {t t' : TE} (h : PE X e t) (h' : PE X e t') : PE X e (fun σ H Q => t σ H Q ∨ t' σ H Q) := ⟨fun pins s σ H Q I q => q.elim (h.run pins s σ H Q I) (h'.run pins s σ H Q I)⟩
def revM (t : T) : M W T := match t with
  | .lst ts => ret (.lst ts.reverse)
  | .tup ts => ret (.tup ts.reverse)
  | _ => stuck
def fRev (fa : Rho → M W T) : Rho → M W T := fun ρ => bnd (fa ρ) revM
theorem pv_rev {k : Nat} {p1 p2 p3 : Pos} (ha : PV X G E e fa) : PV X G E (.Subscript e (.Slice none none (some (.UnaryOp .USub (.Constant (.int 1) k p1) p2)) p3) pos) (fRev fa) := ⟨(PE.or (pe_revL ha.run) (pe_revT ha.run)).imp fun σ H Q => by
  rintro ⟨ρ, w, F, r, w', S, hf, acc⟩
  rcases bnd_inv hf with ⟨t, w1, h1, h2⟩ | ⟨e, h1, rfl⟩
  · cases t with
    | lst ts =>
      obtain ⟨rfl, rfl⟩ := ret_inv h2
      refine .inl ⟨ρ, w, F, .ok _, _, S, h1, fun v H1 F1 S1 s1 rv => ?_⟩
      obtain ⟨a, vs, rfl, hF, rs⟩ := rv.lst_inv
      exact ⟨a, vs, rfl, .of (S1.sub _ _ hF), fun p hp => acc _ _ _ (S1.laidF hp) (s1.trans (.laidF S1 hp) S1.dH) (.lst upd_same (rs.reverse.mono (Same.updN (S1.sub.free hp))))⟩
    | tup ts =>
      obtain ⟨rfl, rfl⟩ := ret_inv h2
      refine .inr ⟨ρ, w, F, .ok _, _, S, h1, fun v H1 F1 S1 s1 rv => ?_⟩
      obtain ⟨a, vs, rfl, hF, rs⟩ := rv.tup_inv
      exact ⟨a, vs, rfl, Same.seqT S1.sub hF, fun p hp => acc _ _ _ (S1.laidF hp) (s1.trans (.laidF S1 hp) S1.dH) (.tup (.of upd_same) (rs.reverse.mono (Same.updN (S1.sub.free hp))))⟩
    | _ => cases h2
  · exact .inl ⟨ρ, w, F, .er e, w', S, h1, acc⟩⟩
/-! ### min of two ints -/
def min2T (t u : T) : Option T := match t, u with
  | .int i, .int j => some (.int (if j < i then j else i))
  | _, _ => none
def f2b (g : T → T → Option T) (fa fb : Rho → M W T) : Rho → M W T := f2 g fa fb
theorem pv_min2 {b : Expr} {fb : Rho → M W T} {p : Pos} (hc : X.calm = true) (hg : Gl X "min") (hm : X.mg "min" = none) (ha : PV X G E e fa) (hb : PV X G E b fb) (he : starEach [e, b] X.env = (false, eval e X.env) :: starEach [b] X.env := by rfl)
    (he2 : starEach [b] X.env = (false, eval b X.env) :: starEach [] X.env := by rfl) (hpl : (backTo pos (starEach [b] X.env)).any (·.1) = false := by rfl) : PV X G E (.Call (.Name "min" p) [e, b] [] pos) (f2 min2T fa fb) :=
  ⟨(pe_callB (call_min2 hc) hg hm boot_min (pa_cons ha.run (pa_cons hb.run pa_nil he2) he) (by decide) (by decide) he hpl).imp fun σ H Q => by
    rintro ⟨ρ, w, F, q, w', S, hf, acc⟩
    refine tV.bind (X := X) S hf acc.er fun t w1 x H1 F1 S1 s1 r1 hk => ?_
    refine tV.bind (X := X) S1 hk (acc.mono s1 S1.dH).er fun u w2 y H2 F2 S2 s2 r2 hk2 => ?_
    obtain ⟨z, hz, rfl, rfl⟩ := lift_inv hk2
    unfold min2T at hz
    split at hz
    · cases hz
      exact ⟨_, _, by rw [r1.int_inv, r2.int_inv], acc _ H2 F2 S2 (s1.trans s2 S1.dH) (.int _)⟩
    · cases hz⟩
/-! ### {} -/
theorem pv_dct0 : PV X G E (.Dict [] [] pos) (fC (.dct [] [])) := ⟨pe_dnewK.imp fun σ H Q => by
  rintro ⟨ρ, w, F, r, w', S, hf, acc⟩
  obtain ⟨rfl, rfl⟩ := ret_inv hf
  intro p hp
  exact acc (.ref p) _ _ (S.laidF hp) (.laidF S hp) (.dct (vs := []) (.inl upd_same) rfl .nil)⟩
/-! ### repr -/
mutual
theorem dataT_noDict : ∀ (t : T) (d : PyData), dataT t = some d → d.hasDict = false
  | .non, _, h => by cases h; rfl
  | .bl b, _, h => by cases h; rfl
  | .int i, _, h => by cases h; rfl
  | .str x, _, h => by cases h; rfl
  | .tup ts, d, h => by
    simp only [dataT, Option.map_eq_some_iff] at h
    obtain ⟨ds, h1, rfl⟩ := h
    exact dataTs_noDict ts ds h1
  | .lst ts, d, h => by
    simp only [dataT, Option.map_eq_some_iff] at h
    obtain ⟨ds, h1, rfl⟩ := h
    exact dataTs_noDict ts ds h1
  | .dct _ _, _, h => by cases h
  | .ins _ _ _, _, h => by cases h
  | .raw _, _, h => by cases h
theorem dataTs_noDict : ∀ (ts : List T) (ds : List PyData), dataTs ts = some ds → PyData.hasDictAll ds = false
  | [], _, h => by cases h; rfl
  | t :: ts, ds, h => by
    simp only [dataTs, Option.bind_eq_some_iff, Option.map_eq_some_iff] at h
    obtain ⟨d, h1, es, h2, rfl⟩ := h
    simp [PyData.hasDictAll, dataT_noDict t d h1, dataTs_noDict ts es h2]
end
def shownT (t : T) : Option T := (dataT t).bind fun d => if d.showable = true ∧ d.shown.length ≤ sizeLine ∧ d.depth ≤ 150 then some (.str d.shown) else none
def reprT (t : T) : Option T := match t with
  | .bl b => some (.str (if b then "True" else "False"))
  | .non => some (.str "None")
  | .int i => if i.natAbs.log2 < 1920 then some (.str (toString i)) else none
  | .str x => if (reprText x).length ≤ sizeLine then some (.str (reprText x)) else none
  | t => shownT t
def rRepr (K : PySem.W.Frag) : List V → Hp → VK → Prop := fun xs H Q => ∃ x, xs = [x] ∧ ((∃ b, x = .bl b ∧ Q (.str (if b then "True" else "False")) H) ∨ (x = .non ∧ Q (.str "None") H) ∨ (∃ i, x = .int i ∧ i.natAbs.log2 < 1920 ∧ Q (.str (toString i)) H) ∨
  (∃ y, x = .str y ∧ (reprText y).length ≤ sizeLine ∧ Q (.str (reprText y)) H) ∨ ∃ a d, x = .ref a ∧ Dp K H x d ∧ d.showable = true ∧ d.hasDict = false ∧ d.shown.length ≤ sizeLine ∧ d.depth ≤ 150 ∧ Q (.str d.shown) H)
theorem call_reprA (hgd : X.A.guards = some []) (hu : X.A.units + 200 < cLine) : CallR X (.builtin "repr") (rRepr X.K) := by
  intro pins s σ H xs us Q I r h
  obtain ⟨x, rfl, h⟩ := h
  obtain ⟨u, rfl, ru⟩ := vals1 r
  rcases h with ⟨b, rfl, q⟩ | ⟨rfl, q⟩ | ⟨i, rfl, hi, q⟩ | ⟨y, rfl, hz, q⟩ | ⟨a, d, rfl, hd, hs, hn, hz, hdp, q⟩
  · cases ru
    exact P.repr_of_bool ⟨.str _, H, I.tok _, ⟨_, rfl⟩, q⟩
  · cases ru
    exact P.repr_of_none ⟨.str _, H, I.tok _, ⟨_, rfl⟩, q⟩
  · obtain ⟨t, rfl⟩ := ru
    exact P.repr_of_int hi ⟨.str _, H, I.tok _, ⟨_, rfl⟩, q⟩
  · obtain ⟨t, rfl⟩ := ru
    exact P.repr_of_str ⟨.str _, H, I.tok _, ⟨_, rfl⟩, q⟩ hz
  · cases ru
    obtain ⟨as, rd⟩ := Dp.reads I d _ _ hd rfl
    exact repr_of_reads' rd hs (fun z => by rw [hn] at z; cases z) hgd (by omega) (fun _ _ e => e) (fun h' u tk hk => ⟨.str d.shown, H, I.kept hk, ⟨_, rfl⟩, q⟩) hz
theorem reprG : CallG X G (rRepr X.K) reprT := by
  intro ρ w σ H F x t z Q S hx hz k
  have big : ∀ {a : Addr}, x = .ref a → shownT t = some z → rRepr X.K [x] H Q := fun {a} e hz => by
    simp only [shownT, Option.bind_eq_some_iff] at hz
    obtain ⟨d, h1, h2⟩ := hz
    split at h2
    · rename_i hh
      cases h2
      exact ⟨x, rfl, .inr (.inr (.inr (.inr ⟨a, d, e, hx.dp S h1, hh.1, dataT_noDict _ _ h1, hh.2.1, hh.2.2, k _ H F S .refl (.str _)⟩)))⟩
    · cases h2
  cases t with
  | bl b => cases hz; exact ⟨x, rfl, .inl ⟨b, hx.bl, k _ H F S .refl (.str _)⟩⟩
  | non => cases hz; exact ⟨x, rfl, .inr (.inl ⟨hx.non, k _ H F S .refl (.str _)⟩)⟩
  | int i =>
    unfold reprT at hz
    simp only at hz
    split at hz
    · cases hz; exact ⟨x, rfl, .inr (.inr (.inl ⟨i, hx.int, ‹_›, k _ H F S .refl (.str _)⟩))⟩
    · cases hz
  | str y =>
    unfold reprT at hz
    simp only at hz
    split at hz
    · cases hz; exact ⟨x, rfl, .inr (.inr (.inr (.inl ⟨y, hx.str, ‹_›, k _ H F S .refl (.str _)⟩)))⟩
    · cases hz
  | lst ts => obtain ⟨a, vs, e, _⟩ := hx.lst S; exact big e hz
  | tup ts => obtain ⟨a, vs, e, _⟩ := hx.tup S; exact big e hz
  | dct ks ts => cases hz
  | ins _ _ _ => cases hz
  | raw _ => cases hz
end
end PL

/-! PLt: a dict looked for in a list of texts. -/
namespace PL
open PySem PySem.Spec PyProof.Rows PySem.SeqAt L2
section
variable {A : Around} {s : Shared}
def IsDict (s : Shared) (l : Addr) : Prop := ∃ o es ep, s.heap.get? l = some o ∧ o.cls = .type "dict" ∧ o.data = .dict es ep
theorem IsDict.ty {l : Addr} (h : IsDict s l) : s.TypeIs (.ref l) "dict" := let ⟨o, _, _, h1, h2, _⟩ := h; ⟨o, h1, h2⟩
theorem str_eq_dict (b : Str) (u : Tok) (l : Addr) : Meets (Builtin.«str.__eq__» ⟨[.str b u, .ref l], []⟩) (fun _ R s => IsDict s l ∧ R (.ok (.ret .notImplemented)) s) :=
  .of_wp fun prog w A R s h => by
    obtain ⟨hp, g, d, tk, os⟩ := s
    obtain ⟨⟨o, es, ep, hl, hc, hd⟩, h⟩ := h
    obtain ⟨c, dd, da, sl⟩ := o
    simp only at hc hd
    subst hc hd
    have f1 := PySem.F.sub_dict_str
    wp_walk using wpAny_loadPart' hl, wpAny_load hl
    exact ⟨_, rfl, h⟩
theorem dict_eq_str (b : Str) (u : Tok) (l : Addr) : Meets (Builtin.«dict.__eq__» ⟨[.ref l, .str b u], []⟩) (fun _ R s => IsDict s l ∧ R (.ok (.ret .notImplemented)) s) :=
  .of_wp fun prog w A R s h => by
    obtain ⟨hI, h⟩ := h
    have hT : s.TypeIs (.ref l) "dict" := hI.ty
    show wpAny _ _ (Builtin.Dict.dictSlotArgs "__eq__" ⟨[.ref l, .str b u], []⟩ >>= _) _ _ s
    refine wpAny_bind ?_
    unfold Builtin.Dict.dictSlotArgs
    refine wpAny_bind (wpAny_notOrdered_dict hT ?_)
    show wpAny _ _ (pure (Value.ref l, Value.str b u)) _ _ s
    refine wpAny_pure ?_
    refine wpAny_bind (wpAny_isInstance (T := "str") (typeIs_str s b u) PySem.F.sub_str_dict ?_)
    simp only [Bool.not_false, if_true]
    wp_walk
    exact ⟨_, rfl, h⟩
theorem RcAt.str_dict {l : Addr} (b : Str) (u : Tok) (hl : IsDict s l) (hu : A.units < cLine) : RcAt A s (.str b u) (.ref l) false := fun prog w E Q h => by
  exact rc_eq_decline_or (k := false) (typeIs_str s b u) hl.ty (by decide) PySem.F.sub_dict_str PySem.F.slot_str_eq PySem.F.slot_dict_eq_refl
    (fun _ hq => call_meets PySem.F.slot_str_eq (typeIs_str s b u) PySem.F.entry_str_eq (PySem.F.args_str_eq_2 _ _) (str_eq_dict b u l) ⟨hl, hq⟩)
    (fun _ hq => call_meets PySem.F.slot_dict_eq_refl hl.ty PySem.F.entry_dict_eq (PySem.F.args_dict_eq_2 _ _) (dict_eq_str b u l) ⟨hl, hq⟩)
    (fun _ hq => wpAny_of_eq (rfl : isSame (.str b u) (.ref l) = pure false) hq) (.inr hu) h
theorem EqAt.str_dict {l : Addr} (b : Str) (u : Tok) (hl : IsDict s l) (hu : A.units < cLine) : EqAt A s (.str b u) (.ref l) false := fun prog w E Q h => by
  unfold eqBool
  refine wpAny_holding ?_
  refine wpAny_ite_split (fun hab => absurd (eq_of_beq hab) nofun) (fun _ => ?_)
  exact wpAny_bind (RcAt.str_dict b u hl hu prog w E _ (wpAny_truthy_bool h))
end
section
variable {W : Type} {X : Cx} {G : Gm W} {E : XK} {ρ : Rho} {w w' : W} {σ : L2.St} {H F : Hp} {a b : Expr} {fa fb : Rho → M W T} {pos : Pos}
def rInD (K : PySem.W.Frag) (neg : Bool) : R2 := fun x y H Q => ∃ d kvs p xs, x = .ref d ∧ Rd H d (.dK kvs) ∧ y = .ref p ∧ SqL K H p (List.map V.str xs) ∧ Q (.bl neg) H
theorem items_dict {pins : List (Addr × Obj)} {s : Shared} {d : Addr} {kvs : List (Key × V)} {xs : List Str} {its : List Value} (I : Inv X pins σ H s) (hd : Rd H d (.dK kvs)) (r : Vals (xs.map V.str) its) (hu : X.A.units + 200 < cLine) :
    ∀ y, y ∈ its.toArray → EqAt X.A.in1 s y (.ref d) ((fun _ => false) y) := by
  intro y hy
  have hy' : y ∈ its := by simpa using hy
  obtain ⟨j, hj⟩ := List.mem_iff_getElem?.mp hy'
  have hjl : j < xs.length := by
    have := (List.getElem?_eq_some_iff.mp hj).1
    have e := r.length
    rw [List.length_map] at e
    omega
  obtain ⟨u, hu', rv⟩ := r.get (i := j) (x := .str xs[j]) (by simp [hjl])
  rw [hj] at hu'
  cases hu'
  obtain ⟨t, rfl⟩ := rv
  obtain ⟨_, _, vs, _, o, es, ep, h1, h2, h3, _⟩ := (show ObjOk X.prog X.w H s.heap d (.dK kvs) from hd.ok I.hok)
  exact EqAt.str_dict _ _ ⟨o, es, ep, h1, h2.1, h3⟩ (by show X.A.units + 1 < cLine; omega)
theorem op_inD' (hu : X.A.units + 200 < cLine) : OpR X (compareOp .In) (rInD X.K false) := by
  intro pins s σ H x y v u Q I rx ry h
  obtain ⟨d, kvs, p, xs, rfl, hd, rfl, hq, q⟩ := h
  cases rx
  cases ry
  obtain ⟨its, r, pl, _⟩ := I.list hq
  exact in_listAt _ pl.isList (items_dict I hd r hu) ⟨.bl false, H, I, by simp [L2.RelV], q⟩
theorem op_notInD' (hu : X.A.units + 200 < cLine) : OpR X (compareOp .NotIn) (rInD X.K true) := by
  intro pins s σ H x y v u Q I rx ry h
  obtain ⟨d, kvs, p, xs, rfl, hd, rfl, hq, q⟩ := h
  cases rx
  cases ry
  obtain ⟨its, r, pl, _⟩ := I.list hq
  exact notIn_listAt _ pl.isList (items_dict I hd r hu) ⟨.bl true, H, I, by simp [L2.RelV], q⟩
/-- in, not in; a dict is in no list of texts -/
def inT2 (neg : Bool) (t u : T) : Option T := match t with
  | .dct _ _ => (lstOf u).bind fun us => (strsT us).map fun _ => .bl neg
  | _ => inT neg t u
theorem inG2 {neg : Bool} : OpG X G (fun x y H Q => rInA X.K neg x y H Q ∨ rInD X.K neg x y H Q) (inT2 neg) := by
  intro ρ w σ H F x y t u z Q S hx hy hz k
  have old : ∀ {t : T}, ShR X.K ρ σ F x t → inT neg t u = some z → rInA X.K neg x y H Q := fun hx hz => inG (X := X) (G := G) ρ w σ H F x y _ u z Q S hx hy hz k
  cases t with
  | dct ks ts =>
    simp only [inT2, Option.bind_eq_some_iff, Option.map_eq_some_iff] at hz
    obtain ⟨us, h1, xs, h2, rfl⟩ := hz
    cases u with
    | lst us' =>
      cases h1
      obtain ⟨d, vs, rfl, hd, _⟩ := hx.dct S
      obtain ⟨p, vs', rfl, hp, rs⟩ := hy.lst S
      have := rs.strs h2
      subst this
      exact .inr ⟨d, _, p, xs, rfl, hd, rfl, .of hp, k _ H F S .refl (.bl _)⟩
    | _ => cases h1
  | non => exact .inl (old hx hz)
  | bl _ => exact .inl (old hx hz)
  | int _ => exact .inl (old hx hz)
  | str _ => exact .inl (old hx hz)
  | tup _ => exact .inl (old hx hz)
  | lst _ => exact .inl (old hx hz)
  | ins _ _ _ => exact .inl (old hx hz)
  | raw _ => exact .inl (old hx hz)
theorem pv_in2 (hu : X.A.units + 200 < cLine) (ha : PVs X G E a fa) (hb : PVs X G E b fb) (hm : behindInMarks .In b = false := by rfl) : PV X G E (.Compare a [.In] [b] pos) (f2 (inT2 false) fa fb) := pv_cmp (OpR.or (OpR.or op_in_str (op_inP hu)) (op_inD' hu)) inG2 ha hb hm
theorem pv_notIn2 (hu : X.A.units + 200 < cLine) (ha : PVs X G E a fa) (hb : PVs X G E b fb) (hm : behindInMarks .NotIn b = false := by rfl) : PV X G E (.Compare a [.NotIn] [b] pos) (f2 (inT2 true) fa fb) := pv_cmp (OpR.or (OpR.or op_notin_str (op_notInP hu)) (op_notInD' hu)) inG2 ha hb hm
theorem pb_in2 (hu : X.A.units + 200 < cLine) (ha : PVs X G E a fa) (hb : PVs X G E b fb) (hm : behindInMarks .In b = false := by rfl) : PB X G E (.Compare a [.In] [b] pos) (fB (f2 (inT2 false) fa fb)) := pb_cmp (OpR.or (OpR.or op_in_str (op_inP hu)) (op_inD' hu)) inG2 ha hb hm
theorem pb_notIn2 (hu : X.A.units + 200 < cLine) (ha : PVs X G E a fa) (hb : PVs X G E b fb) (hm : behindInMarks .NotIn b = false := by rfl) : PB X G E (.Compare a [.NotIn] [b] pos) (fB (f2 (inT2 true) fa fb)) := pb_cmp (OpR.or (OpR.or op_notin_str (op_notInP hu)) (op_notInD' hu)) inG2 ha hb hm
end
end PL

/-! PLu: a, b = x, y through a tuple; a comprehension over a dict's keys, stored at once. -/
namespace PL
open PySem PySem.Spec PyProof.Rows L2
section
variable {W : Type} {X : Cx} {G : Gm W} {E : XK} {ρ : Rho} {w w' : W} {σ : L2.St} {H F : Hp} {fx fy : Rho → M W Sl}
theorem pd_parU (i j : Nat) {x y : Str} {a b : Expr} {px py pt pos : Pos} {kt k2 pt2} (ha : PX X G E a fx) (hb : PX X G E b fy) (hc : X.calm = true) (hN : X.N.Nodup) (hi : X.N[i]? = some x) (hj : X.N[j]? = some y) (hij : i ≠ j)
    (hx : Loc X.env.scope x) (hy : Loc X.env.scope y)
    (hw : swappedStores [.Tuple [.Name x px, .Name y py] kt pt] (.Tuple [a, b] k2 pt2) X.env = pure none := by rfl)
    (hs : swapsWithSole [.Tuple [.Name x px, .Name y py] kt pt] (.Tuple [a, b] k2 pt2) pos.line X.env = pure false := by rfl)
    (hfx : X.fn x = true ∨ X.env.scope.names.lookup x = some .local := by first | exact .inl rfl | exact .inr rfl | assumption) (hfy : X.fn y = true ∨ X.env.scope.names.lookup y = some .local := by first | exact .inl rfl | exact .inr rfl | assumption)
    (hn : (assignEach [.Name x px, .Name y py] X.env).length = 2 := by rfl) (hst : (assignEach [.Name x px, .Name y py] X.env).findIdx? (·.1) = none := by rfl)
    (hs1 : (assignEach [.Name x px, .Name y py] X.env).map (·.2) = assign (.Name x px) X.env :: (assignEach [.Name y py] X.env).map (·.2) := by rfl) (hs2 : (assignEach [.Name y py] X.env).map (·.2) = assign (.Name y py) X.env :: (assignEach [] X.env).map (·.2) := by rfl)
    (h1' : (assignEach [.Tuple [.Name x px, .Name y py] kt pt] X.env).map (·.2) = [assign (.Tuple [.Name x px, .Name y py] kt pt) X.env] := by rfl)
    (h1 : starEach [a, b] X.env = (false, eval a X.env) :: starEach [b] X.env := by rfl) (h2 : starEach [b] X.env = (false, eval b X.env) :: starEach [] X.env := by rfl) :
    PD X G E (.Assign [.Tuple [.Name x px, .Name y py] kt pt] (.Tuple [a, b] k2 pt2) pos) (dPar i j fx fy) :=
  ⟨(ps_asg (pe_tup (pa_cons ha.run (pa_cons hb.run pa_nil h2) h1)) (pg_tup hc (pgs_cons (pg_name hN hi hx hfx) (pgs_cons (pg_name hN hj hy hfy) pgs_nil hs2) hs1) hn hst) hs hw h1').imp fun D σ H => by
    rintro ⟨ρ, w, F, r, w', S, hf, acc⟩
    refine tX.bind (X := X) S hf acc.er fun s w1 v H1 F1 S1 s1 n1 r1 hk => ?_
    refine tX.bind (X := X) S1 hk (AccD.mono (X := X) acc s1.same).er fun t w2 u H2 F2 S2 s2 n2 r2 hk2 => ?_
    obtain ⟨rfl, rfl⟩ := ret_inv hk2
    refine ⟨by show 2 ≤ sizeLine; rw [sizeLine_eq]; omega, fun p hp => ?_⟩
    refine ⟨p, [v, u], rfl, .of upd_same, rfl, v, [u], rfl, u, [], rfl, rfl, ?_⟩
    have S3 := S2.laid (o := .tup [v, u]) hp
    have g3 : Gr G H2 F2 (upd H2 p (.tup [v, u])) F2 := .laid hp
    have r1' := (r1.later S1 s2).later S2 g3
    have r2' := r2.later S2 g3
    refine acc _ _ F2 ?_ (s1.same.trans s2.same)
    refine (S3.set r1' i).set (Rdy.behind S3 r2' fun q ht hso hu hv => ?_) j
    exact r1.there hso hv (n2 q ht hu)⟩
section
variable {elt tg : Expr} {ifs : List Expr} {scope : Scope} {own : List (Str × Nat)} {x y : Str} {px py pos spos : Pos} {is : List Nat} {h : T → Rho → Option Rho} {gt : Rho → M W Bool} {ge : Rho → M W T}
/-- y = [e for k in d if ..] on one line, frozen -/
theorem pd_setLcKF (i j : Nat) (hc : X.calm = true) (hN : X.N.Nodup) (hj : X.N[j]? = some y) (hyl : X.env.scope.names.lookup y = some .local) (hsw : swapsWith (.ListComp elt [⟨tg, .Name x px, ifs, 0⟩] scope pos) (some (.Name y py)) spos.line X.env = pure true)
    (hi : X.N[i]? = some x) (hvis : Vis X.env.scope x) (ok : BlkOk X.N X.env.scope scope own) (B : ∀ G : Gm W, Blk X G scope tg ifs elt is h gt ge) (his : ∀ i ∈ is, i ∈ own.map (·.2)) (hd : (x == ("__debug__" : Str)) = false := by decide) (hcd : (x == ("__classdict__" : Str)) = false := by decide)
    (hs : ∀ z, foldedSetIterable (.Name x px) X.env z = pure z := by intro _; rfl) : PD X G E (.Assign [.Name y py] (.ListComp elt [⟨tg, .Name x px, ifs, 0⟩] scope pos) spos) (dSet j (xFz (asL (fLc (fKeys i) (own.map (·.2)) h gt ge)))) := by
  have P : ∀ G : Gm W, PS X (.Assign [.Name y py] (.ListComp elt [⟨tg, .Name x px, ifs, 0⟩] scope pos) spos) (tAsg (tLc (iKeys (tVar i)) (tG X.K G is h) (tT X.K G E0 gt) (tV X.K G E0 ge) (own.map (·.2))) (gName j)) := fun G =>
    ps_setLc hc hN hj hyl hsw (pi_keys (pe_var hi hvis hd hcd)) ok (fun s H C cl fp => ((B G).tg s H C cl fp).run) (B G).ts (fun s H C cl fp => ((B G).el s H C cl fp).run) hs
  refine ⟨⟨fun pins s σ H D I q => ?_⟩⟩
  obtain ⟨ρ, w, F, r, w', S, hf, acc⟩ := q
  have hin : ∃ us, fLc (fKeys i) (own.map (·.2)) h gt ge ρ w = some (.ok us, w') ∧ r = .ok (.nx (ρ.set j (.fz (.lst us)))) := by
    rcases bnd_inv hf with ⟨sl, w1, h1, h2⟩ | ⟨e, h1, _⟩
    · obtain ⟨rfl, rfl⟩ := ret_inv h2
      rcases bnd_inv h1 with ⟨t, w2, h3, h4⟩ | ⟨e, h3, z⟩
      · obtain ⟨e4, rfl⟩ := ret_inv h4
        cases e4
        rcases bnd_inv h3 with ⟨us, w5, h5, h6⟩ | ⟨e, h5, z⟩
        · obtain ⟨e6, rfl⟩ := ret_inv h6
          cases e6
          exact ⟨us, h5, rfl⟩
        · cases z
      · cases z
    · exfalso
      rcases bnd_inv h1 with ⟨t, w2, h3, h4⟩ | ⟨e', h3, z⟩
      · obtain ⟨e4, _⟩ := ret_inv h4
        cases e4
      · rcases bnd_inv h3 with ⟨us, w5, h5, h6⟩ | ⟨e', h5, _⟩
        · obtain ⟨e6, _⟩ := ret_inv h6
          cases e6
        · rcases bnd_inv h5 with ⟨ts, w1, h1, h2⟩ | ⟨e, h1, _⟩
          · split at h2
            · obtain ⟨_, z⟩ := compD_ok h2
              cases z
            · cases h2
          · obtain ⟨_, _, _, z, _⟩ := fKeys_inv h1
            cases z
  obtain ⟨us, hf2, rfl⟩ := hin
  have hsl : ∃ ks ts, ρ[i]? = some (.fz (.dct ks ts)) := by
    rcases bnd_inv hf2 with ⟨ts, w1, h1, h2⟩ | ⟨e, h1, z⟩
    · obtain ⟨ks, ts, e, _⟩ := fKeys_inv h1
      exact ⟨ks, ts, e⟩
    · cases z
  obtain ⟨ks, ts, hsl⟩ := hsl
  obtain ⟨v, hv, rv⟩ := S.slots i _ hsl
  cases rv with
  | @dct a _ vs _ hr hl rs =>
    rcases hr with hr | ⟨o, hr⟩
    · obtain ⟨o, I1⟩ := I.lock (S.sub _ _ hr) trivial
      have S1 := S.lock (o := o) hr
      refine thn ((P (lockG G a (.frz o (.dK (ks.zip vs))))).run pins s σ _ ⟨fun σ' H' => H' a = some (.frz o (.dK (ks.zip vs))) ∧ D.nx σ' (upd H' a (.dK (ks.zip vs))), fun _ _ => False, fun _ _ => False, fun _ _ => False⟩ I1 (keys_core (E := E) his hv upd_same ⟨ρ, w, _, .ok us, w', S1, hf2, fun p vs' H' F' S' g h0 h1 h2 h3 h4 h5 => ?_⟩)) fun f s1 q => ?_
      · have hF' : F' a = some (.frz o (.dK (ks.zip vs))) := g.same _ _ upd_same
        have npa : p ≠ a := fun z => by subst z; rw [upd_same] at h0; cases h0
        have h3n : G.B p = none := by
          have h3' : chg G.B a _ p = none := h3
          rw [chg_ne npa] at h3'; exact h3'
        have S2 := S.unlock hr S' hF'
        have S3 := (S2.freeze (p := p) (o := .lst vs') (by rw [upd_ne npa]; exact h1) (by rw [upd_ne npa]; exact h2) h3n h4).setF (v := .ref p) (t := .lst us) (.lst upd_same ((h5.unlock hF').mono (Same.updN (by rw [upd_ne npa]; exact h2)))) j
        refine ⟨S'.sub _ _ hF', acc _ _ _ S3 fun b u e => ?_⟩
        have : b ≠ p := fun z => by
          subst z
          have := S.sub _ _ e
          rw [upd_ne npa] at h0
          rw [h0] at this; cases this
        rw [upd_ne this]
        by_cases z : b = a
        · subst z; rw [hr] at e; cases e; exact upd_same
        · rw [upd_ne z]; exact g.same b u (by rw [upd_ne z]; exact e)
      · cases f with
        | next =>
          obtain ⟨σ', H', I2, e2, q⟩ := q
          exact ⟨σ', _, I2.unlock e2 (I.nofrz (S.sub _ _ hr) trivial), q⟩
        | brk => obtain ⟨_, _, _, q⟩ := q; exact q.elim
        | cont => obtain ⟨_, _, _, q⟩ := q; exact q.elim
        | ret v => obtain ⟨_, _, _, _, _, q⟩ := q; exact q.elim
    · refine (P G).run pins s σ H D I (keys_core (E := E) his hv (S.sub _ _ hr) ⟨ρ, w, F, .ok us, w', S, hf2, fun p vs' H' F' S' g h0 h1 h2 h3 h4 h5 => ?_⟩)
      exact acc _ _ _ ((S'.freeze h1 h2 h3 h4).setF (v := .ref p) (t := .lst us) (.lst upd_same (h5.mono (Same.updN h2))) j) (g.same.trans (Same.updN h2))
end
end
end PL

/-! PLw: the dict of draws, read and written. -/
namespace PL
open PySem PySem.Spec PyProof.Rows L2
section
variable {X : Cx} {G : Gm Dr} {E : XK} {ρ : Rho} {w w' : Dr} {σ : L2.St} {H F : Hp}
theorem ne_cl : ¬ ((.inr "cells" : Key) = .inr "large") := by decide +kernel
theorem ne_lc : ¬ ((.inr "large" : Key) = .inr "cells") := by decide +kernel
theorem ne_lr : ¬ ((.inr "large" : Key) = .inr "rest") := by decide +kernel
theorem ne_cr : ¬ ((.inr "cells" : Key) = .inr "rest") := by decide +kernel
theorem ne_tr : ¬ ((.inr "turn" : Key) = .inr "rest") := by decide +kernel
theorem ne_lt : ¬ ((.inr "large" : Key) = .inr "turn") := by decide +kernel
theorem ne_ct : ¬ ((.inr "cells" : Key) = .inr "turn") := by decide +kernel
theorem ne_rt : ¬ ((.inr "rest" : Key) = .inr "turn") := by decide +kernel
theorem get_large (l c : Addr) (w : Dr) : valV (w.dict l c) (.inr "large") = some (.ref l) := valV_pos rfl
theorem get_cells (l c : Addr) (w : Dr) : valV (w.dict l c) (.inr "cells") = some (.ref c) := (valV_neg ne_lc).trans (valV_pos rfl)
theorem get_rest (l c : Addr) (w : Dr) : valV (w.dict l c) (.inr "rest") = some (.int w.rest) := (valV_neg ne_lr).trans ((valV_neg ne_cr).trans (valV_pos rfl))
theorem get_turn (l c : Addr) (w : Dr) : valV (w.dict l c) (.inr "turn") = some (.int w.turn) := (valV_neg ne_lt).trans ((valV_neg ne_ct).trans ((valV_neg ne_rt).trans (valV_pos rfl)))
theorem put_rest (l c : Addr) (w : Dr) (i : Int) : putK (w.dict l c) (.inr "rest") (.int i) = ({ w with rest := i }).dict l c := by
  unfold putK Dr.dict
  rw [if_pos (by simp)]
  simp [show ¬ (("large" : Str) = "rest") by decide +kernel, show ¬ (("cells" : Str) = "rest") by decide +kernel, show ¬ (("turn" : Str) = "rest") by decide +kernel]
theorem put_turn (l c : Addr) (w : Dr) (i : Int) : putK (w.dict l c) (.inr "turn") (.int i) = ({ w with turn := i }).dict l c := by
  unfold putK Dr.dict
  rw [if_pos (by simp)]
  simp [show ¬ (("large" : Str) = "turn") by decide +kernel, show ¬ (("cells" : Str) = "turn") by decide +kernel, show ¬ (("rest" : Str) = "turn") by decide +kernel]
/-- where the draws stand -/
theorem Sd.dr {K : PySem.W.Frag} (S : Sd K G ρ w σ H F) : ∃ l c, (∀ b, G.O.D b ↔ (b = w.d ∨ b = l ∨ b = c)) ∧ (∀ H' w', G.O.ok H' w' ↔ drOk w.d l c H' w') := by
  have ok := S.wok
  obtain ⟨O, B, F0⟩ := G
  obtain ⟨D, ok', live, stay, good⟩ := O
  cases good with
  | dr d l c =>
    have e : w.d = d := ok.1
    subst e
    exact ⟨l, c, fun b => Iff.rfl, fun _ _ => Iff.rfl⟩
/-- a thing of the world is written -/
theorem Sd.world {K : PySem.W.Frag} {d : Addr} {o : HO} (S : Sd K G ρ w σ H F) (hd : G.O.D d) (ok : G.O.ok (upd H d o) w') : Sd K G ρ w' σ (upd H d o) F := by
  have hF := S.dF d hd
  refine ⟨fun b u e => by rw [upd_ne (fun z => by subst z; rw [hF] at e; cases e)]; exact S.sub b u e, ok, S.dF, S.dB, fun b u e nd => by rw [upd_ne (fun z => nd (by rw [z]; exact hd))]; exact S.keep b u e nd, S.grow, S.old, fun i s hs => ?_, S.apart, S.len⟩
  have q := S.slots i s hs
  have np : ∀ p, G.B p = none → p ≠ d := fun p hp z => S.dB d hd (z ▸ hp)
  cases s with
  | un => trivial
  | fz t => exact q
  | ow ts => obtain ⟨p, vs, e, h1, h2, h3, r⟩ := q; exact ⟨p, vs, e, by rw [upd_ne (np p h3)]; exact h1, h2, h3, r⟩
  | od ks ts => obtain ⟨p, vs, e, h1, hl, h2, h3, r⟩ := q; exact ⟨p, vs, e, by rw [upd_ne (np p h3)]; exact h1, hl, h2, h3, r⟩
theorem Gr.world {d : Addr} {o : HO} (hd : G.O.D d) : Gr G H F (L2.upd H d o) F := ⟨Same.refl F, fun b u e nd => by rw [upd_ne (fun z => nd (by rw [z]; exact hd))]; exact e, fun _ _ => rfl⟩
/-- the state of draws, in the i-th slot -/
def onW {β : Type} (i : Nat) (ρ : Rho) (k : M Dr β) : M Dr β := fun w => match ρ[i]? with
  | some (.fz (.raw (.ref a))) => if a = w.d then k w else none
  | _ => none
theorem onW_inv {β : Type} {i : Nat} {k : M Dr β} {r : R β} (h : onW i ρ k w = some (r, w')) : ρ[i]? = some (.fz (.raw (.ref w.d))) ∧ k w = some (r, w') := by
  unfold onW at h
  split at h
  · rename_i a e
    split at h
    · rename_i q
      subst q
      exact ⟨e, h⟩
    · cases h
  · cases h
theorem Sd.raw {K : PySem.W.Frag} {i : Nat} {v : V} (S : Sd K G ρ w σ H F) (h : ρ[i]? = some (.fz (.raw v))) : σ[i]? = some (some v) := by
  obtain ⟨v', e, r⟩ := S.slots i _ h
  cases r
  exact e
section
variable {e : Expr} {fa : Rho → M Dr T} {x : Str} {px pos pos' : Pos}
def fRest (i : Nat) : Rho → M Dr T := fun ρ => onW i ρ fun w => some (.ok (.int w.rest), w)
def fTurn (i : Nat) : Rho → M Dr T := fun ρ => onW i ρ fun w => some (.ok (.int w.turn), w)
theorem pv_rest (i : Nat) (hu : X.A.units + 1 < cLine) (hx : PE X (.Name x px) (tVar i)) {j p2} : PV X G E (.Subscript (.Name x px) (.Constant (.str "rest") j p2) pos) (fRest i) := ⟨(pe_dget hu hx pe_str (fun _ _ => rfl)).imp fun σ H Q => by
  rintro ⟨ρ, w, F, r, w', S, hf, acc⟩
  obtain ⟨hi, hf⟩ := onW_inv hf
  cases hf
  obtain ⟨l, c, hD, hok⟩ := S.dr
  obtain ⟨_, _, _, _, h1, _⟩ := (hok H w).mp S.wok
  exact ⟨_, S.raw hi, w.d, .int w.rest, rfl, .inl ⟨_, .inr "rest", .inl h1, rfl, (get_rest l c w).symm⟩, acc _ H F S .refl (.int _)⟩⟩
theorem pv_turn (i : Nat) (hu : X.A.units + 1 < cLine) (hx : PE X (.Name x px) (tVar i)) {j p2} : PV X G E (.Subscript (.Name x px) (.Constant (.str "turn") j p2) pos) (fTurn i) := ⟨(pe_dget hu hx pe_str (fun _ _ => rfl)).imp fun σ H Q => by
  rintro ⟨ρ, w, F, r, w', S, hf, acc⟩
  obtain ⟨hi, hf⟩ := onW_inv hf
  cases hf
  obtain ⟨l, c, hD, hok⟩ := S.dr
  obtain ⟨_, _, _, _, h1, _⟩ := (hok H w).mp S.wok
  exact ⟨_, S.raw hi, w.d, .int w.turn, rfl, .inl ⟨_, .inr "turn", .inl h1, rfl, (get_turn l c w).symm⟩, acc _ H F S .refl (.int _)⟩⟩
/-- state['rest'] = e -/
def dRest (i : Nat) (fa : Rho → M Dr T) : Rho → M Dr Fl := fun ρ => bnd (fa ρ) fun t => bnd (intM t) fun n => onW i ρ fun w => some (.ok (.nx ρ), { w with rest := n })
def dTurn (i : Nat) (fa : Rho → M Dr T) : Rho → M Dr Fl := fun ρ => bnd (fa ρ) fun t => bnd (intM t) fun n => onW i ρ fun w => some (.ok (.nx ρ), { w with turn := n })
theorem four : (4 : Nat) < sizeLine := by rw [sizeLine_eq]; omega
theorem pd_rest (i : Nat) (hu : X.A.units + 1 < cLine) (hx : PE X (.Name x px) (tVar i)) (ha : PV X G E e fa) {j p2} (hs : swapsWith e (some (.Subscript (.Name x px) (.Constant (.str "rest") j p2) pos')) pos.line X.env = pure false := by rfl) :
    PD X G E (.Assign [.Subscript (.Name x px) (.Constant (.str "rest") j p2) pos'] e pos) (dRest i fa) := ⟨(ps_dput hu hx pe_str ha.run hs).imp fun D σ H => by
  rintro ⟨ρ, w, F, r, w', S, hf, acc⟩
  refine tV.bind (X := X) S hf acc.er fun t w1 y H1 F1 S1 s1 r1 hk => ?_
  obtain ⟨n, rfl, hk2⟩ := intM_bnd hk
  obtain ⟨hi, hk3⟩ := onW_inv hk2
  cases hk3
  obtain ⟨l, c, hD, hok⟩ := S1.dr
  obtain ⟨a0, a1, a2, a3, h1, h2, h3, h4⟩ := (hok H1 w1).mp S1.wok
  obtain rfl := r1.int_inv
  refine ⟨_, S1.raw hi, w1.d, _, rfl, .inl ⟨_, .inr "rest", h1, rfl, four, rfl⟩, ?_⟩
  rw [put_rest]
  have hd : G.O.D w1.d := (hD _).mpr (.inl rfl)
  refine acc _ _ F1 (S1.world hd ((hok _ _).mpr ⟨rfl, a1, a2, a3, upd_same, by rw [upd_ne (Ne.symm a1)]; exact h2, by rw [upd_ne (Ne.symm a2)]; exact h3, h4⟩)) s1.same⟩
theorem pd_turn (i : Nat) (hu : X.A.units + 1 < cLine) (hx : PE X (.Name x px) (tVar i)) (ha : PV X G E e fa) {j p2} (hs : swapsWith e (some (.Subscript (.Name x px) (.Constant (.str "turn") j p2) pos')) pos.line X.env = pure false := by rfl) :
    PD X G E (.Assign [.Subscript (.Name x px) (.Constant (.str "turn") j p2) pos'] e pos) (dTurn i fa) := ⟨(ps_dput hu hx pe_str ha.run hs).imp fun D σ H => by
  rintro ⟨ρ, w, F, r, w', S, hf, acc⟩
  refine tV.bind (X := X) S hf acc.er fun t w1 y H1 F1 S1 s1 r1 hk => ?_
  obtain ⟨n, rfl, hk2⟩ := intM_bnd hk
  obtain ⟨hi, hk3⟩ := onW_inv hk2
  cases hk3
  obtain ⟨l, c, hD, hok⟩ := S1.dr
  obtain ⟨a0, a1, a2, a3, h1, h2, h3, h4⟩ := (hok H1 w1).mp S1.wok
  obtain rfl := r1.int_inv
  refine ⟨_, S1.raw hi, w1.d, _, rfl, .inl ⟨_, .inr "turn", h1, rfl, four, rfl⟩, ?_⟩
  rw [put_turn]
  have hd : G.O.D w1.d := (hD _).mpr (.inl rfl)
  refine acc _ _ F1 (S1.world hd ((hok _ _).mpr ⟨rfl, a1, a2, a3, upd_same, by rw [upd_ne (Ne.symm a1)]; exact h2, by rw [upd_ne (Ne.symm a2)]; exact h3, h4⟩)) s1.same⟩
/-! ### the two lists -/
theorem dpInts {K : PySem.W.Frag} : ∀ ns : List Int, DpAll K H (ns.map V.int) (ns.map PyData.int)
  | [] => .nil
  | n :: ns => .cons (.int n) (dpInts ns)
theorem plainInts : ∀ ns : List Int, PyData.plainAll (ns.map PyData.int) = true
  | [] => rfl
  | n :: ns => by simp [PyData.plainAll, PyData.plain, plainInts ns]
theorem eqvNil : ∀ ns : List Int, PyData.eqv (.list (ns.map PyData.int)) (.list []) = ns.isEmpty
  | [] => by simp [PyData.eqv, PyData.eqvAll]
  | n :: ns => by simp [PyData.eqv, PyData.eqvAll]
def fNe (sel : Dr → List Int) (i : Nat) : Rho → M Dr T := fun ρ => onW i ρ fun w => some (.ok (.bl (!(sel w).isEmpty)), w)
theorem tWne {k : Str} {sel : Dr → List Int} {a : Addr → Addr → Addr} (i : Nat) (hsel : ∀ l c w, valV (Dr.dict l c w) (.inr k) = some (.ref (a l c))) (hat : ∀ d l c H w, drOk d l c H w → H (a l c) = some (.lst ((sel w).map V.int))) :
    ∀ σ H Q, tV X.K G E (fNe sel i) σ H Q → tOp (rEqP X.K true) (tDGet (tVar i) (tC (.str k))) (tLst tNil) σ H Q := fun σ H Q => by
  rintro ⟨ρ, w, F, r, w', S, hf, acc⟩
  obtain ⟨hi, hf⟩ := onW_inv hf
  cases hf
  obtain ⟨l, c, hD, hok⟩ := S.dr
  have ok := (hok H w).mp S.wok
  obtain ⟨_, _, _, _, h1, _⟩ := id ok
  have hl := hat _ _ _ _ _ ok
  refine ⟨_, S.raw hi, w.d, .ref (a l c), rfl, .inl ⟨_, .inr k, .inl h1, rfl, (hsel l c w).symm⟩, by show 0 ≤ sizeLine; omega, fun p hp => ?_⟩
  have S2 := S.laid (o := .lst []) hp
  have ne : a l c ≠ p := ne_of_none hl hp
  refine ⟨.list ((sel w).map PyData.int), .list [], .lst (.of (by rw [upd_ne ne]; exact hl)) (dpInts _), .lst (.of upd_same) .nil, plainInts _, rfl, ?_, ?_⟩
  · have : (PyData.list []).depth ≤ 150 := by simp [PyData.depth, PyData.depthAll]
    omega
  · rw [eqvNil]
    exact acc _ _ F S2 (.laid hp) (.bl _)
theorem pv_wne {k : Str} {sel : Dr → List Int} {a : Addr → Addr → Addr} (i : Nat) (hsel : ∀ l c w, valV (Dr.dict l c w) (.inr k) = some (.ref (a l c))) (hat : ∀ d l c H w, drOk d l c H w → H (a l c) = some (.lst ((sel w).map V.int))) (hu : X.A.units + 200 < cLine) (hx : PE X (.Name x px) (tVar i)) {j p2 p3} :
    PV X G E (.Compare (.Subscript (.Name x px) (.Constant (.str k) j p2) pos) [.NotEq] [.List [] p3] pos') (fNe sel i) := ⟨(pe_cmpR (op_neP hu) (pe_dget (by omega) hx pe_str (fun _ _ => rfl)) (pe_lst pa_nil) (nomark _)).imp (tWne i hsel hat)⟩
theorem pv_wlarge (i : Nat) (hu : X.A.units + 200 < cLine) (hx : PE X (.Name x px) (tVar i)) {j p2 p3} : PV X G E (.Compare (.Subscript (.Name x px) (.Constant (.str "large") j p2) pos) [.NotEq] [.List [] p3] pos') (fNe Dr.large i) :=
  pv_wne (a := fun l _ => l) i get_large (fun _ _ _ _ _ ⟨_, _, _, _, _, h, _⟩ => h) hu hx
theorem pv_wcells (i : Nat) (hu : X.A.units + 200 < cLine) (hx : PE X (.Name x px) (tVar i)) {j p2 p3} : PV X G E (.Compare (.Subscript (.Name x px) (.Constant (.str "cells") j p2) pos) [.NotEq] [.List [] p3] pos') (fNe Dr.cells i) :=
  pv_wne (a := fun _ c => c) i get_cells (fun _ _ _ _ _ ⟨_, _, _, _, _, _, h, _⟩ => h) hu hx
/-- len(state['cells']) -/
def fLenC (i : Nat) : Rho → M Dr T := fun ρ => onW i ρ fun w => some (.ok (.int (w.cells.length : Nat)), w)
theorem pv_lenC (i : Nat) (hu : X.A.units + 1 < cLine) (hx : PE X (.Name x px) (tVar i)) (hg : Gl X "len") (hm : X.mg "len" = none) {j p2 p3 p4}
    (he : starEach [.Subscript (.Name x px) (.Constant (.str "cells") j p2) p3] X.env = (false, eval (.Subscript (.Name x px) (.Constant (.str "cells") j p2) p3) X.env) :: starEach [] X.env := by rfl) (hpl : (backTo pos (starEach [] X.env)).any (·.1) = false := by rfl) :
    PV X G E (.Call (.Name "len" p4) [.Subscript (.Name x px) (.Constant (.str "cells") j p2) p3] [] pos) (fLenC i) := ⟨(pe_callB call_len hg hm PySem.boot_len (pa_cons (pe_dget hu hx pe_str (fun _ _ => rfl)) pa_nil he) (by decide) (by decide) he hpl).imp fun σ H Q => by
  rintro ⟨ρ, w, F, r, w', S, hf, acc⟩
  obtain ⟨hi, hf⟩ := onW_inv hf
  cases hf
  obtain ⟨l, c, hD, hok⟩ := S.dr
  obtain ⟨_, _, _, _, h1, h2, h3, _⟩ := (hok H w).mp S.wok
  refine ⟨_, S.raw hi, w.d, .ref c, rfl, .inl ⟨_, .inr "cells", .inl h1, rfl, (get_cells l c w).symm⟩, _, (w.cells.map V.int).length, rfl, .inl ⟨_, .of h3, rfl⟩, ?_⟩
  rw [List.length_map]
  exact acc _ H F S .refl (.int _)⟩
/-- state['cells'][e] -/
def fCell (i : Nat) (fa : Rho → M Dr T) : Rho → M Dr T := fun ρ => onW i ρ (bnd (fa ρ) fun t => bnd (intM t) fun n => onW i ρ fun w => if 0 ≤ n then match w.cells[n.toNat]? with
  | some x => some (.ok (.int x), w)
  | none => none else none)
theorem pv_cell (i : Nat) (hu : X.A.units + 1 < cLine) (hx : PE X (.Name x px) (tVar i)) (ha : PV X G E e fa) {j p2 p3} (hs : PlainIx e := by intro _ _; rfl) : PV X G E (.Subscript (.Subscript (.Name x px) (.Constant (.str "cells") j p2) p3) e pos) (fCell i fa) :=
  ⟨(pe_ix ix_list (pe_dget hu hx pe_str (fun _ _ => rfl)) ha.run hs).imp fun σ H Q => by
    rintro ⟨ρ, w, F, r, w', S, hf, acc⟩
    obtain ⟨hi, hf⟩ := onW_inv hf
    obtain ⟨l, c, hD, hok⟩ := S.dr
    obtain ⟨_, _, _, _, h1, h2, h3, _⟩ := (hok H w).mp S.wok
    refine ⟨_, S.raw hi, w.d, .ref c, rfl, .inl ⟨_, .inr "cells", .inl h1, rfl, (get_cells l c w).symm⟩, ?_⟩
    refine tV.bind (X := X) S hf acc.er fun t w1 y H1 F1 S1 s1 r1 hk => ?_
    obtain ⟨n, rfl, hk2⟩ := intM_bnd hk
    obtain ⟨hi1, hk3⟩ := onW_inv hk2
    obtain rfl := r1.int_inv
    split at hk3
    · rename_i hn
      split at hk3
      · rename_i z hz
        cases hk3
        obtain ⟨_, _, _, _, _, _, c3, _⟩ := (hok H1 _).mp S1.wok
        refine ⟨c, _, n, .int z, rfl, rfl, .of c3, ?_, acc _ H1 F1 S1 s1 (.int _)⟩
        have hlt : n < ((w'.cells.map V.int).length : Int) := by
          have := (List.getElem?_eq_some_iff.mp hz).1
          rw [List.length_map]
          omega
        unfold atI ixN
        rw [if_pos hn, if_pos hlt]
        show (w'.cells.map V.int)[n.toNat]? = _
        rw [List.getElem?_map, hz]
        rfl
      · cases hk3
    · cases hk3⟩
/-- state['rest'] = state['large'].pop(0) -/
def dRestPop (i : Nat) : Rho → M Dr Fl := fun ρ => onW i ρ fun w => match w.large with
  | x :: r => some (.ok (.nx ρ), { w with rest := x, large := r })
  | [] => none
theorem pd_restPop (i : Nat) (hu : X.A.units + 1 < cLine) (hx : PE X (.Name x px) (tVar i)) {y : Str} {py : Pos} (hy : PE X (.Name y py) (tVar i)) {j p2 j2 p3 p4 ap cp j3 p5}
    (hpop : ∀ {to te : TE}, PE X (.Subscript (.Name y py) (.Constant (.str "large") j2 p3) p4) to → PE X (.Constant (.int 0) j3 p5) te → PE X (.Call (.Attribute (.Subscript (.Name y py) (.Constant (.str "large") j2 p3) p4) "pop" ap) [.Constant (.int 0) j3 p5] [] cp) (tBM X.K "list" rPopAt to (tCons te tNil)))
    (hs : swapsWith (.Call (.Attribute (.Subscript (.Name y py) (.Constant (.str "large") j2 p3) p4) "pop" ap) [.Constant (.int 0) j3 p5] [] cp) (some (.Subscript (.Name x px) (.Constant (.str "rest") j p2) pos')) pos.line X.env = pure false := by rfl) :
    PD X G E (.Assign [.Subscript (.Name x px) (.Constant (.str "rest") j p2) pos'] (.Call (.Attribute (.Subscript (.Name y py) (.Constant (.str "large") j2 p3) p4) "pop" ap) [.Constant (.int 0) j3 p5] [] cp) pos) (dRestPop i) :=
  ⟨(ps_dput hu hx pe_str (hpop (pe_dget hu hy pe_str (fun _ _ => rfl)) pe_int) hs).imp fun D σ H => by
    rintro ⟨ρ, w, F, r, w', S, hf, acc⟩
    obtain ⟨hi, hf2⟩ := onW_inv hf
    obtain ⟨l, c, hD, hok⟩ := S.dr
    obtain ⟨a0, a1, a2, a3, h1, h2, h3, h4, h5⟩ := (hok H w).mp S.wok
    cases hL : w.large with
    | nil => rw [hL] at hf2; cases hf2
    | cons z rr =>
      rw [hL] at hf2 h2 h5
      cases hf2
      refine ⟨_, S.raw hi, w.d, .ref l, rfl, .inl ⟨_, .inr "large", .inl h1, rfl, (get_large l c w).symm⟩, (.inl ⟨rfl, _, .of h2⟩), ?_⟩
      have hdl : G.O.D l := (hD _).mpr (.inr (.inl rfl))
      have hdd : G.O.D w.d := (hD _).mpr (.inl rfl)
      refine ⟨l, _, 0, 0, .int z, rfl, rfl, h2, by simp, by simp, by simp [seqIndex?]; try omega, rfl, ?_⟩
      have g1 : upd H l (.lst (rr.map V.int)) w.d = some (.dK (w.dict l c)) := by rw [upd_ne a1]; exact h1
      refine ⟨_, S.raw hi, w.d, _, rfl, .inl ⟨_, .inr "rest", g1, rfl, four, rfl⟩, ?_⟩
      rw [put_rest]
      have ok1 : G.O.ok (upd H l (.lst (rr.map V.int))) { w with large := rr } := (hok _ _).mpr ⟨rfl, a1, a2, a3, g1, upd_same, by rw [upd_ne (Ne.symm a3)]; exact h3, h4, by simp at h5; show rr.length ≤ 1000; omega⟩
      have S1 := S.world hdl ok1
      have ok2 : G.O.ok (upd (upd H l (.lst (rr.map V.int))) w.d (.dK (({ w with rest := z } : Dr).dict l c))) { w with rest := z, large := rr } :=
        (hok _ _).mpr ⟨rfl, a1, a2, a3, upd_same, by rw [upd_ne (Ne.symm a1)]; exact upd_same, by rw [upd_ne (Ne.symm a2), upd_ne (Ne.symm a3)]; exact h3, h4, by simp at h5; show rr.length ≤ 1000; omega⟩
      exact acc _ _ F (S1.world hdd ok2) (Same.refl F)⟩
end
end
section
variable {X : Cx} {G : Gm Dr} {E : XK} {pos p2 p4 : Pos} {x : Str}
/-- len of the script, the list at a -/
def fScr (i : Nat) (a : Addr) (n : Nat) : Rho → M Dr T := fun ρ w => match ρ[i]? with
  | some (.fz (.raw (.ref b))) => if b = a then some (.ok (.int (n : Nat)), w) else none
  | _ => none
/-- the script at a, which the world leaves alone -/
def ScrOk (K : PySem.W.Frag) (G : Gm Dr) (a : Addr) (vs : List V) : Prop := (Rd G.B a (.lst vs) ∧ ¬ G.O.D a) ∨ SqL K (fun _ => none) a vs
theorem ScrOk.at {K : PySem.W.Frag} {a : Addr} {vs : List V} {ρ : Rho} {w : Dr} {σ : L2.St} {H F : Hp} (h : ScrOk K G a vs) (S : Sd K G ρ w σ H F) : SqL K H a vs := by
  rcases h with ⟨h | ⟨o, h⟩, d⟩ | (h | ⟨o, h⟩) | h
  · exact .inl (.inl (S.keep _ _ h d))
  · exact .inl (.inr ⟨o, S.keep _ _ h d⟩)
  · cases h
  · cases h
  · exact .inr h
theorem pv_scr (i : Nat) {a : Addr} {vs : List V} {n : Nat} (hS : ScrOk X.K G a vs) (hn : vs.length = n) (hx : PE X (.Name x p2) (tVar i)) (hg : Gl X "len") (hm : X.mg "len" = none)
    (he : starEach [.Name x p2] X.env = (false, eval (.Name x p2) X.env) :: starEach [] X.env := by rfl) (hpl : (backTo pos (starEach [] X.env)).any (·.1) = false := by rfl) :
    PV X G E (.Call (.Name "len" p4) [.Name x p2] [] pos) (fScr i a n) := ⟨(pe_callB call_len hg hm PySem.boot_len (pa_cons hx pa_nil he) (by decide) (by decide) he hpl).imp fun σ H Q => by
  rintro ⟨ρ, w, F, r, w', S, hf, acc⟩
  unfold fScr at hf
  split at hf
  · rename_i b hi
    split at hf
    case isFalse => cases hf
    rename_i hb
    subst hb
    cases hf
    exact ⟨_, S.raw hi, .ref _, vs.length, rfl, .inl ⟨vs, hS.at S, rfl⟩, by rw [hn]; exact acc _ H F S .refl (.int _)⟩
  · cases hf⟩
end
section
variable {W : Type} {X : Cx} {G : Gm W} {E : XK} {op : CmpOp} {r : R2} {a b : Expr} {ta tb : TE} {f : Rho → M W T} {pos : Pos}
/-- a comparison as a test -/
theorem pb_ofOp (ho : OpR X (compareOp op) r) (ha : PE X a ta) (hb : PE X b tb) (hm : behindInMarks op b = false) (imp : ∀ σ H Q, tV X.K G E f σ H Q → tOp r ta tb σ H Q) : PB X G E (.Compare a [op] [b] pos) (fB f) :=
  ⟨(pt_cmpR ho ha hb hm).imp fun σ H Q => by
    rintro ⟨ρ, w, F, q, w', S, hf, acc⟩
    refine imp σ H _ (tV.bind (X := X) S hf acc.er fun t w1 x H1 F1 S1 s1 r1 hk => ?_)
    cases t with
    | bl k =>
      obtain ⟨rfl, rfl⟩ := ret_inv hk
      exact ⟨k, r1.bl_inv, acc H1 F1 S1 s1⟩
    | _ => cases hk⟩
end
section
variable {W : Type} {X : Cx} {G : Gm W} {E : XK} {k g : Nat} {Fn : List T → M W T} {C : Addr} {ns : List Str} {a b : Expr} {pos : Pos} {fa fb : Rho → M W T}
theorem pb_eqI (c : ClsF X.K C ns) (D : MethOk X.prog X.w X.K X.mg X.base k g 2 Fn) (m : SpecM X.K C "__eq__" g) (hr : Room k X.A) (hgd : X.A.guards = some []) (ha : PV X G E a fa) (hb : PV X G E b fb) (hm : behindInMarks .Eq b = false := by rfl) : PB X G E (.Compare a [.Eq] [b] pos) (fB (fEqI false C ns Fn fa fb)) := by
  obtain ⟨fd, ps, Fm, hbi⟩ := D.ex
  exact pb_ofOp (op_eqI Fm hr hgd hbi m) ha.run hb.run hm (tEqI c)
theorem pb_neI (c : ClsF X.K C ns) (D : MethOk X.prog X.w X.K X.mg X.base k g 2 Fn) (m : SpecM X.K C "__eq__" g) (hne : PySem.W.findIn X.K (.ref C) "__ne__" = some (some (.builtin "object.__ne__"))) (hr : Room (k + 1) X.A) (hgd : X.A.guards = some []) (ha : PV X G E a fa) (hb : PV X G E b fb) (hm : behindInMarks .NotEq b = false := by rfl) : PB X G E (.Compare a [.NotEq] [b] pos) (fB (fEqI true C ns Fn fa fb)) := by
  obtain ⟨fd, ps, Fm, hbi⟩ := D.ex
  exact pb_ofOp (op_neI (k' := 0) Fm hr hgd hbi m c hne) ha.run hb.run hm (tEqI c)
theorem pb_inI (D : MethOk X.prog X.w X.K X.mg X.base k g 2 Fn) (m : SpecM X.K C "__contains__" g) (hr : Room k X.A) (hgd : X.A.guards = some []) (ha : PV X G E a fa) (hb : PV X G E b fb) (hm : behindInMarks .In b = false := by rfl) : PB X G E (.Compare a [.In] [b] pos) (fB (fInI false C ns Fn fa fb)) := by
  obtain ⟨fd, ps, Fm, hbi⟩ := D.ex
  exact pb_ofOp (op_inI Fm hr hgd hbi m) ha.run hb.run hm tInI
theorem pb_notInI (D : MethOk X.prog X.w X.K X.mg X.base k g 2 Fn) (m : SpecM X.K C "__contains__" g) (hr : Room k X.A) (hgd : X.A.guards = some []) (ha : PV X G E a fa) (hb : PV X G E b fb) (hm : behindInMarks .NotIn b = false := by rfl) : PB X G E (.Compare a [.NotIn] [b] pos) (fB (fInI true C ns Fn fa fb)) := by
  obtain ⟨fd, ps, Fm, hbi⟩ := D.ex
  exact pb_ofOp (op_notInI Fm hr hgd hbi m) ha.run hb.run hm tInI
end
section
variable {X : Cx} {G : Gm Dr} {E : XK} {x : Str} {px pos pos' : Pos}
theorem pb_wne {k : Str} {sel : Dr → List Int} {a : Addr → Addr → Addr} (i : Nat) (hsel : ∀ l c w, valV (Dr.dict l c w) (.inr k) = some (.ref (a l c))) (hat : ∀ d l c H w, drOk d l c H w → H (a l c) = some (.lst ((sel w).map V.int))) (hu : X.A.units + 200 < cLine) (hx : PE X (.Name x px) (tVar i)) {j p2 p3} :
    PB X G E (.Compare (.Subscript (.Name x px) (.Constant (.str k) j p2) pos) [.NotEq] [.List [] p3] pos') (fB (fNe sel i)) := pb_ofOp (op_neP hu) (pe_dget (by omega) hx pe_str (fun _ _ => rfl)) (pe_lst pa_nil) (nomark _) (tWne i hsel hat)
theorem pb_wlarge (i : Nat) (hu : X.A.units + 200 < cLine) (hx : PE X (.Name x px) (tVar i)) {j p2 p3} : PB X G E (.Compare (.Subscript (.Name x px) (.Constant (.str "large") j p2) pos) [.NotEq] [.List [] p3] pos') (fB (fNe Dr.large i)) :=
  pb_wne (a := fun l _ => l) i get_large (fun _ _ _ _ _ ⟨_, _, _, _, _, h, _⟩ => h) hu hx
theorem pb_wcells (i : Nat) (hu : X.A.units + 200 < cLine) (hx : PE X (.Name x px) (tVar i)) {j p2 p3} : PB X G E (.Compare (.Subscript (.Name x px) (.Constant (.str "cells") j p2) pos) [.NotEq] [.List [] p3] pos') (fB (fNe Dr.cells i)) :=
  pb_wne (a := fun _ c => c) i get_cells (fun _ _ _ _ _ ⟨_, _, _, _, _, _, h, _⟩ => h) hu hx
end
end PL

/-! PLx: from the law's promise (FnG) to what the row's head asks. -/
namespace PL
open PySem PySem.Spec PyProof.Rows L2
theorem law_callG {P : Program} {w : World} {K : PySem.W.Frag} {mg mb : Str → Option Value} {CX : CXT} {k : Nat} {fa a : Addr} {fd : FuncData} {x : Str} {sp : Sp} {s1 : Shared} {vs : List Value} {ns : List Int}
    (KX : K.In s1.heap) (hns : s1.heap.Ns mainGlobals mg) (hb : s1.heap.Ns builtinsNs mb) (hbb : ∀ x : Str, x ≠ "__name__" → mb x = bootBuiltins x) (hlim : s1.heap.NoLimit) (hg : s1.gens = #[])
    (ha : s1.heap.get? a = some { cls := .type "list", data := .seq vs.toArray }) (hi : IntsAre vs ns) (hl : ns.length ≤ sizeLine) (hr : Room k callerA)
    (F : ∀ base : Heap, K.In base → base.Ns mainGlobals mg → FnG P w K mg base CX k fa fd [x] sp) (hbind : ∀ (s : Shared) (u : Value), BindsTo s fd ⟨[u], []⟩ [(x, u)])
    (hsp : ∀ H : Hp, Only H → SqL K H a (ns.map V.int) → sp [.ref a] H (fun v _ => v = .bl true) fun _ _ _ => False)
    (hCX : ∀ H e s', CX [] H s1 (fun _ _ _ => False) e s' → False) :
    codeAny (model P w) callerA (.call (.ref fa) ⟨[.ref a], []⟩) (fun r s' => r = .ok (.ret (.bool true)) ∧ OldK s1.heap s'.heap ∧ s'.os = s1.os ∧ AllBare s'.gens) s1 := by
  have rv := vals_ints hi
  have core : ∀ H : Hp, Only H → SqL K H a (ns.map V.int) → HOk P w H s1.heap → (∀ b, H b ≠ none → b = a) → (H a ≠ none → K.lookup a = none) →
      codeAny (model P w) callerA (.call (.ref fa) ⟨[.ref a], []⟩) (fun r s' => r = .ok (.ret (.bool true)) ∧ OldK s1.heap s'.heap ∧ s'.os = s1.os ∧ AllBare s'.gens) s1 := by
    intro H hO hS hok hA hK
    have only : ∀ {b : Addr}, b ≠ a → H b = none := fun {b} ne => by
      cases q : H b with
      | none => rfl
      | some u => exact absurd (hA b (by rw [q]; simp)) ne
    have dictFree : ∀ {b : Addr} {o : Obj} {es : Array DictEntry} {ep : Nat}, s1.heap.get? b = some o → o.data = .dict es ep → H b = none := fun {b o es ep} e d => only fun z => by
      rw [z, ha] at e
      cases e
      have d' : Data.seq vs.toArray _ = Data.dict es ep := d
      cases d'
    have nsK : ∀ {b : Addr} {m : Str → Option Value}, s1.heap.Ns b m → (hidT s1.heap H).Ns b m := fun {b m} ⟨o, es, ep, e, d, r⟩ => ⟨o, es, ep, hidT_get e (dictFree e d), d, r⟩
    have hKb : K.In (hidT s1.heap H) := fun b o e => hidT_get (KX b o e) (by
      by_cases z : b = a
      · cases q : H b with
        | none => rfl
        | some u => rw [z] at q e; rw [hK (by rw [q]; simp)] at e; cases e
      · exact only z)
    have hM : Mod K mg (hidT s1.heap H) := ⟨hKb, nsK hns, ⟨mb, nsK hb, hbb⟩, let ⟨mc, h1, h2⟩ := hlim; ⟨mc, nsK h1, h2⟩⟩
    have e0 : Env0 P w K mg (hidT s1.heap H) callerA [] s1 H := ⟨rfl, hM, fun b o e => of_hidT e, Nat.le_of_eq (hidT_size _ _), trivial, fun b hb => absurd (show b ∈ ([] : List Addr) from hb) (by simp), hok, .of_eq hg⟩
    refine codeAny_mono ((F _ hKb (nsK hns)).run callerA [] s1 H ⟨[.ref a], []⟩ [.ref a] [.ref a] _ _ hr rfl e0 (hbind s1 (.ref a)) (.cons rfl .nil) (hsp H hO hS)) fun r s' h => ?_
    cases r with
    | error e => exact (hCX H e s' h).elim
    | ok fl =>
      cases fl with
      | next => exact False.elim h
      | brk => exact False.elim h
      | cont => exact False.elim h
      | ret u =>
        obtain ⟨v, H', os, bare, un, hok', r', q⟩ := h
        obtain rfl : v = .bl true := q
        obtain rfl : u = Value.bool true := r'
        refine ⟨rfl, OldK.of_keep fun b o e => ?_, os, bare⟩
        rcases hO b with z | ⟨ob, xs, z⟩
        · exact un.keep b o e z (fun z => absurd (show b ∈ ([] : List Addr) from z) (by simp)) (by simp)
        · obtain ⟨e1, _⟩ := hok b _ z
          obtain ⟨e2, _⟩ := hok' b _ (un.frzs b ob _ z)
          rw [e] at e1
          cases e1
          exact e2
  cases hk : K.lookup a with
  | some o =>
    have e := KX a o hk
    rw [ha] at e
    cases e
    exact core (fun _ => none) (fun _ => .inl rfl) (.inr ⟨_, vs.toArray, _, hk, rfl, rfl, rfl, by rw [List.size_toArray, hi.length]; exact hl, by simpa using rv⟩) (fun b u z => nomatch z) (fun b z => absurd rfl z) fun z => absurd rfl z
  | none =>
    let H : Hp := fun b => if b = a then some (.frz { cls := .type "list", data := .seq vs.toArray } (.lst (ns.map V.int))) else none
    have h1 : H a = some (.frz { cls := .type "list", data := .seq vs.toArray } (.lst (ns.map V.int))) := if_pos rfl
    have h2 : ∀ b, b ≠ a → H b = none := fun b hb => if_neg hb
    refine core H (fun b => ?_) (.inl (.inr ⟨_, h1⟩)) (fun b u z => ?_) (fun b z => ?_) fun _ => hk
    · by_cases hb : b = a
      · subst hb; exact .inr ⟨_, _, h1⟩
      · exact .inl (h2 b hb)
    · by_cases hb : b = a
      · subst hb
        rw [h1] at z
        cases z
        exact ⟨ha, by rw [List.length_map]; exact hl, vs, _, rv, ha⟩
      · rw [h2 b hb] at z; cases z
    · by_cases hb : b = a
      · exact hb
      · exact absurd (h2 b hb) z
theorem walk_ofG {l : PySem.W.OpenLaw} {n k : Nat} {q : Program} {loose : List Str} {XP : (Str → Option Value) → Heap → Prop} {YP : World → Heap → Prop} {d : DefRec} {K : Params → PySem.W.Frag} {CX : World → CXT} {sp : World → Sp} {x : Str}
    (hn : l.most = some n) (hn2 : n ≤ sizeLine) (hdf : d.params.defaults = []) (hr : Room k callerA)
    (hY : ∀ (w : World) (h : Heap), YP w h → (K w.params).In h)
    (F : ∀ (w : World) (mg : Str → Option Value) (fa : Addr) (h : Heap), (K w.params).In h → h.Ns mainGlobals mg → mg d.name = some (.ref fa) →
      ∃ fd : FuncData, (∀ (s : Shared) (u : Value), BindsTo s fd ⟨[u], []⟩ [(x, u)]) ∧
        ∀ base : Heap, (K w.params).In base → base.Ns mainGlobals mg → FnG l.prog w (K w.params) mg base (CX w) k fa fd [x] (sp w))
    (hsp : ∀ (w : World) (H : Hp) (a : Addr) (ns : List Int), ns.length ≤ n → Only H → SqL (K w.params) H a (ns.map V.int) → sp w [.ref a] H (fun v _ => v = .bl true) fun _ _ _ => False)
    (hCX : ∀ (w : World) (H : Hp) (s : Shared) (e : Value) (s' : Shared), CX w [] H s (fun _ _ _ => False) e s' → False) :
    PySem.W.WalkO q loose XP YP l.row.toRowW d [] (fun f vs => PySem.call f vs) := by
  refine Att.attach_call hn hdf fun w s₀ s₁ mg mb fa o pm cd doc a vs ns G Y ho hd hcd hmg hobj hints hlen hg => ?_
  have KX := hY w _ Y
  obtain ⟨fd, hb, hF⟩ := F w mg fa _ KX G.T.g hmg
  exact law_callG KX G.T.g G.T.b G.T.builtins G.T.nolimit hg hobj hints (Nat.le_trans hlen hn2) hr hF hb (fun H hO hS => hsp w H a ns hlen hO hS) fun H e s' => hCX w H s₁ e s'
/-- THE RULE for a def: its body's reading is chosen for each entry -/
theorem fn_ofG {P : Program} {w : World} {K : PySem.W.Frag} {mg : Str → Option Value} {base : Heap} {x qual : Str} {st : Stmt} {f : Addr} {fd : FuncData} {N ps : List Str} {k : Nat} {sp : Sp} (Fu : Fun K x qual st f fd) (S : FnScope N ps (defScope st)) (hlen : ∀ vs H Q E, sp vs H Q E → vs.length = ps.length)
    (hbody : ∀ (cdv : Value) (A : Around) (outer : List PySem.Env) (s : Shared) (H : Hp) (vs : List V) (Q : VK) (E : XK), Room k (A.deeper (envOfC qual (defScope st) s.heap.objs.size f cdv)) → (A.deeper (envOfC qual (defScope st) s.heap.objs.size f cdv)).guards = some [] → sp vs H Q E →
      ∃ t, PSs (cxOf (L2.CX P w) P w K mg base N qual (defScope st) f cdv A outer s H E) (defBody st) t ∧ t { nx := fun _ H' => Q .non H', rt := Q } (start N vs) H) :
    FnG P w K mg base (L2.CX P w) (k + 1) f fd ps sp := by
  obtain ⟨oc, od, kV, doc, pm, an, cdv, ct, osl, rfl, lk, hcd⟩ := Fu.ex
  refine ⟨hlen, fun A outer s H args us vs Q E hr hgd e0 hb r hsp => ?_⟩
  have KX : K.In s.heap := e0.mod.kin.keeps fun b o e => (e0.bs b o e).1
  have hkind : ∀ y ∈ ps.zip us, (defScope st).names.lookup y.1 = some .local ∨ ((defScope st).names.lookup y.1 = some .cell ∧ ((cellsFrom (s.heap.objs.size + 1) (defScope st).names []).lookup y.1).isSome = true) := fun ⟨z, v⟩ hy =>
    (S.par z (List.of_mem_zip hy).1).imp id fun q => ⟨q, PySem.W.cellsFrom_some _ _ _ (.inl q)⟩
  refine codeAny_call_function hr.depth (KX _ _ lk) rfl S.co S.gen rfl (PySem.W.codeRec_of KX hcd) (hb _ _ _ _ (wpAny_newFunctionEnv_cells S.kind hkind fun env he s1 e1 => ?_))
  subst he
  obtain ⟨t, ht, hq⟩ := hbody cdv A outer s H vs Q E (hr.deeper _) hgd hsp
  have I : Inv (cxOf (L2.CX P w) P w K mg base N qual (defScope st) f cdv A outer s H E) [] (start N vs) H s1 := inv_start S hr.hd e0 (hlen _ _ _ _ hsp) r e1
  refine ⟨(e0.mod.nolimit.keeps fun b o e => (e0.bs b o e).1).keeps e1.toInCall.keep, codeAny_func (wpAny_mono (ht.run [] s1 (start N vs) H _ I hq) (fun fl s' hs => ?_) fun e s' hs => hs)⟩
  cases fl with
  | ret u =>
    obtain ⟨v, σ', H', J, rv, q⟩ := hs
    exact ⟨v, H', J.os, J.bare, J.base, J.hok, rv, q⟩
  | next =>
    obtain ⟨σ', H', J, q⟩ := hs
    exact ⟨.non, H', J.os, J.bare, J.base, J.hok, rfl, q⟩
  | brk =>
    obtain ⟨_, _, _, q⟩ := hs
    exact q.elim
  | cont =>
    obtain ⟨_, _, _, q⟩ := hs
    exact q.elim
end PL

/-! PLz: what the mirrors compute, in plain Lean. -/
namespace PL
open PySem L2
section
variable {W α β : Type}
theorem bnd_ret' {a : α} {k : α → M W β} {m : M W α} (h : m = ret a) : bnd m k = k a := by rw [h]; rfl
theorem ret_bnd (a : α) (k : α → M W β) : bnd (ret a) k = k a := rfl
theorem lift_some (a : α) : (lift (some a) : M W α) = ret a := rfl
theorem noEr_ret (a : α) : noEr (ret a : M W α) = ret a := rfl
/-- a comprehension whose parts only compute -/
theorem compD_pure {vs : List Nat} {i : Nat} {gt : Rho → M W Bool} {ge : Rho → M W T} {ρ : Rho} (p : T → Bool) (f : T → T) : ∀ ts : List T,
    (∀ t ∈ ts, gt ((wipeR ρ vs).set i (.fz t)) = ret (p t)) → (∀ t ∈ ts, p t = true → ge ((wipeR ρ vs).set i (.fz t)) = ret (f t)) → compD vs (gN i) gt ge ρ ts = ret ((ts.filter p).map f)
  | [], _, _ => rfl
  | t :: ts, h1, h2 => by
    have ih := compD_pure p f ts (fun u hu => h1 u (List.mem_cons_of_mem _ hu)) fun u hu => h2 u (List.mem_cons_of_mem _ hu)
    unfold compD
    show bnd (lift (some ((wipeR ρ vs).set i (.fz t)))) _ = _
    rw [lift_some, ret_bnd, h1 t List.mem_cons_self, noEr_ret, ret_bnd]
    cases hp : p t with
    | true =>
      rw [if_pos rfl, h2 t List.mem_cons_self hp, noEr_ret, ret_bnd, ih, ret_bnd]
      simp [hp]
    | false =>
      rw [if_neg (by simp), ih]
      simp [hp]
theorem fLc_pure {fi : Rho → M W (List T)} {vs : List Nat} {i : Nat} {gt : Rho → M W Bool} {ge : Rho → M W T} {ρ : Rho} {ts : List T} (p : T → Bool) (f : T → T) (hi : fi ρ = ret ts) (hl : ts.length ≤ sizeLine)
    (h1 : ∀ t ∈ ts, gt ((wipeR ρ vs).set i (.fz t)) = ret (p t)) (h2 : ∀ t ∈ ts, p t = true → ge ((wipeR ρ vs).set i (.fz t)) = ret (f t)) : fLc fi vs (gN i) gt ge ρ = ret ((ts.filter p).map f) := by
  unfold fLc
  rw [hi, ret_bnd, if_pos hl, compD_pure p f ts h1 h2]
/-- without a test -/
theorem fLc_map {fi : Rho → M W (List T)} {vs : List Nat} {i : Nat} {ge : Rho → M W T} {ρ : Rho} {ts : List T} (f : T → T) (hi : fi ρ = ret ts) (hl : ts.length ≤ sizeLine) (h2 : ∀ t ∈ ts, ge ((wipeR ρ vs).set i (.fz t)) = ret (f t)) :
    fLc fi vs (gN i) tYesM ge ρ = ret (ts.map f) := by
  rw [fLc_pure (fun _ => true) f hi hl (fun _ _ => rfl) fun t ht _ => h2 t ht]
  rw [List.filter_eq_self.mpr fun _ _ => rfl]
/-- two clauses whose parts only compute -/
theorem comp2D_pure {vs vs1 : List Nat} {i i1 : Nat} {fi1 : Rho → M W (List T)} {ge : Rho → M W T} {ρ : Rho} (g : T → List T) (f : T → T) : ∀ ts : List T,
    (∀ t ∈ ts, fi1 ((wipeR ρ vs).set i (.fz t)) = ret (g t)) → (∀ t ∈ ts, ∀ u ∈ g t, ge ((wipeR ((wipeR ρ vs).set i (.fz t)) vs1).set i1 (.fz u)) = ret (f u)) →
    comp2D vs (gN i) fi1 vs1 (gN i1) tYesM ge ρ ts = ret (ts.flatMap fun t => (g t).map f)
  | [], _, _ => rfl
  | t :: ts, h1, h2 => by
    have ih := comp2D_pure g f ts (fun u hu => h1 u (List.mem_cons_of_mem _ hu)) fun u hu => h2 u (List.mem_cons_of_mem _ hu)
    unfold comp2D
    show bnd (lift (some ((wipeR ρ vs).set i (.fz t)))) _ = _
    rw [lift_some, ret_bnd, h1 t List.mem_cons_self, noEr_ret, ret_bnd]
    have e : compD vs1 (gN i1) tYesM ge ((wipeR ρ vs).set i (.fz t)) (g t) = ret ((g t).map f) := by
      rw [compD_pure (fun _ => true) f (g t) (fun _ _ => rfl) fun u hu _ => h2 t List.mem_cons_self u hu, List.filter_eq_self.mpr fun _ _ => rfl]
    rw [e, ret_bnd, ih, ret_bnd]
    simp
theorem fLc2_pure {fi fi1 : Rho → M W (List T)} {vs vs1 : List Nat} {i i1 : Nat} {ge : Rho → M W T} {ρ : Rho} {ts : List T} (g : T → List T) (f : T → T) (hi : fi ρ = ret ts) (h1 : ∀ t ∈ ts, fi1 ((wipeR ρ vs).set i (.fz t)) = ret (g t))
    (h2 : ∀ t ∈ ts, ∀ u ∈ g t, ge ((wipeR ((wipeR ρ vs).set i (.fz t)) vs1).set i1 (.fz u)) = ret (f u)) (hl : (ts.flatMap fun t => (g t).map f).length ≤ sizeLine) :
    fLc2 fi vs (gN i) fi1 vs1 (gN i1) tYesM ge ρ = ret (ts.flatMap fun t => (g t).map f) := by
  unfold fLc2
  rw [hi, ret_bnd, comp2D_pure g f ts h1 h2, ret_bnd, if_pos hl]
/-- two clauses, over what a list tells -/
theorem comp2D_map {β : Type} {vs vs1 : List Nat} {i i1 : Nat} {fi1 : Rho → M W (List T)} {ge : Rho → M W T} {ρ : Rho} (hh : β → T) (g : β → List T) : ∀ ps : List β,
    (∀ p ∈ ps, fi1 ((wipeR ρ vs).set i (.fz (hh p))) = ret (g p)) → (∀ p ∈ ps, ∀ u ∈ g p, ge ((wipeR ((wipeR ρ vs).set i (.fz (hh p))) vs1).set i1 (.fz u)) = ret u) →
    comp2D vs (gN i) fi1 vs1 (gN i1) tYesM ge ρ (ps.map hh) = ret (ps.flatMap g)
  | [], _, _ => rfl
  | p :: ps, h1, h2 => by
    have ih := comp2D_map hh g ps (fun u hu => h1 u (List.mem_cons_of_mem _ hu)) fun u hu => h2 u (List.mem_cons_of_mem _ hu)
    rw [List.map_cons]
    unfold comp2D
    show bnd (lift (some ((wipeR ρ vs).set i (.fz (hh p))))) _ = _
    rw [lift_some, ret_bnd, h1 p List.mem_cons_self, noEr_ret, ret_bnd]
    have e : compD vs1 (gN i1) tYesM ge ((wipeR ρ vs).set i (.fz (hh p))) (g p) = ret (g p) := by
      rw [compD_pure (fun _ => true) id (g p) (fun _ _ => rfl) fun u hu _ => h2 p List.mem_cons_self u hu, List.filter_eq_self.mpr fun _ _ => rfl, List.map_id]
    rw [e, ret_bnd, ih, ret_bnd]
    simp
theorem fLc2_map {β : Type} {fi fi1 : Rho → M W (List T)} {vs vs1 : List Nat} {i i1 : Nat} {ge : Rho → M W T} {ρ : Rho} {ps : List β} (hh : β → T) (g : β → List T) (hi : fi ρ = ret (ps.map hh)) (h1 : ∀ p ∈ ps, fi1 ((wipeR ρ vs).set i (.fz (hh p))) = ret (g p))
    (h2 : ∀ p ∈ ps, ∀ u ∈ g p, ge ((wipeR ((wipeR ρ vs).set i (.fz (hh p))) vs1).set i1 (.fz u)) = ret u) (hl : (ps.flatMap g).length ≤ sizeLine) : fLc2 fi vs (gN i) fi1 vs1 (gN i1) tYesM ge ρ = ret (ps.flatMap g) := by
  unfold fLc2
  rw [hi, ret_bnd, comp2D_map hh g ps h1 h2, ret_bnd, if_pos hl]
end

/-! ### told forms as trees -/
inductive Tr where
  | leaf (s : Str)
  | join (w : Str) (ps : List Tr)
  | again (a b : Tr)
mutual
def Tr.T : Tr → PL.T
  | .leaf s => .str s
  | .join w ps => .tup [.str w, .tup (Tr.Ts ps)]
  | .again a b => .tup [.str "again", a.T, b.T]
def Tr.Ts : List Tr → List PL.T
  | [] => []
  | t :: ts => t.T :: Tr.Ts ts
end
mutual
def Tr.steps : Tr → List Str
  | .leaf s => [s]
  | .join _ ps => Tr.stepss ps
  | .again a b => a.steps ++ b.steps
def Tr.stepss : List Tr → List Str
  | [] => []
  | t :: ts => t.steps ++ Tr.stepss ts
end
mutual
def Tr.depth : Tr → Nat
  | .leaf _ => 1
  | .join _ ps => Tr.depths ps + 1
  | .again a b => max a.depth b.depth + 1
def Tr.depths : List Tr → Nat
  | [] => 0
  | t :: ts => max t.depth (Tr.depths ts)
end
end PL

set_option maxHeartbeats 4000000
/-! PLy: sorted(xs, key=f), f a def of the module. -/
namespace PL
open PySem PySem.Spec PyProof.Rows L2
section
variable {W : Type}
/-- the keys of some things, one behind another -/
def keysM (Fn : List T → M W T) : List T → M W (List T)
  | [] => ret []
  | t :: ts => bnd (noEr (Fn [t])) fun k => bnd (keysM Fn ts) fun ks => ret (k :: ks)
def sortBy (ts ks : List T) : List T := ((ts.zip ks).mergeSort (PySem.W.dataLe false fun p => dat p.2)).map (·.1)
def sortKs (ts ks : List T) : M W (List T) := match dataTs ks with
  | some ds => if sortableB ds = true ∧ ts.length ≤ sizeLine then ret (sortBy ts ks) else stuck
  | none => stuck
def sortKM (Fn : List T → M W T) (t : T) : M W (List T) := match lstOf t with
  | some ts => bnd (keysM Fn ts) (sortKs ts)
  | none => stuck
def fSortK (Fn : List T → M W T) (fa : Rho → M W T) : Rho → M W (List T) := fun ρ => bnd (fa ρ) (sortKM Fn)
theorem keysM_inv {Fn : List T → M W T} : ∀ {ts : List T} {w w' : W} {r : R (List T)}, keysM Fn ts w = some (r, w') → ∃ (ks : List T) (ws : Nat → W), r = .ok ks ∧ ks.length = ts.length ∧ ws 0 = w ∧ ws ts.length = w' ∧ ∀ (j : Nat) (t k : T), ts[j]? = some t → ks[j]? = some k → Fn [t] (ws j) = some (.ok k, ws (j + 1))
  | [], w, w', r, h => by
    obtain ⟨rfl, rfl⟩ := ret_inv h
    exact ⟨[], fun _ => w', rfl, rfl, rfl, rfl, fun j t k e => by simp at e⟩
  | t :: ts, w, w', r, h => by
    unfold keysM at h
    obtain ⟨k, w1, h1, h2⟩ := noEr_bnd h
    rcases bnd_inv h2 with ⟨ks, w2, h3, h4⟩ | ⟨e, h3, _⟩
    · obtain ⟨rfl, rfl⟩ := ret_inv h4
      obtain ⟨ks', ws, e1, e2, e3, e4, e5⟩ := keysM_inv h3
      cases e1
      refine ⟨k :: ks, fun j => match j with | 0 => w | j + 1 => ws j, rfl, by rw [List.length_cons, List.length_cons, e2], rfl, e4, fun j u l hu hl => ?_⟩
      cases j with
      | zero =>
        cases hu
        cases hl
        show Fn [t] w = some (.ok k, ws 0)
        rw [e3]
        exact h1
      | succ j => exact e5 j u l (by simpa using hu) (by simpa using hl)
    · obtain ⟨_, _, e1, _⟩ := keysM_inv h3
      cases e1
theorem HOk.tracked {P : Program} {w : World} {H : Hp} {h h' : Heap} (x : HOk P w H h) (k : ∀ b u, H b ≠ none → h.get? b = some u → h'.get? b = some u) : HOk P w H h' := fun a o e =>
  (x a o e).stay (fun b u hb => k b u (by rcases hb with rfl | hb <;> simp [*])) (fun _ q => q) fun _ _ q => q
theorem HOk.put {P : Program} {w : World} {H : Hp} {h : Heap} {p : Addr} {o : HO} (x : HOk P w H h) (hn : H p = none) (new : ObjOk P w (upd H p o) h p o) : HOk P w (upd H p o) h := fun b u e => by
  by_cases hb : b = p
  · subst hb
    rw [upd_same] at e
    cases e
    exact new
  · rw [upd_ne hb] at e
    exact (x b u e).stay (fun _ _ _ q => q) (fun c hc => by rw [upd_ne (fun z => by rw [z, hn] at hc; cases hc)]; exact hc) (fun c xs hc => by rw [upd_ne (fun z => by rw [z, hn] at hc; cases hc)]; exact hc)
theorem Un.turned {fs : List Addr} {H H' : Hp} {h h1 h2 : Heap} (u : Un fs [] H H' h h1) (k : ∀ b o o1, h.get? b = some o → h1.get? b = some o1 → h2.get? b = some o1) : Un fs [] H H' h h2 :=
  ⟨fun b o e n hb hx => k b o _ e (u.keep b o e n hb hx), fun b o e n hb hx => let ⟨sl, q⟩ := u.slot b o e n hb hx; ⟨sl, k b o _ e q⟩, u.free, fun b o e hx => let ⟨o1, q⟩ := u.there b o e hx; ⟨o1, k b o _ e q⟩, u.tups, u.frzs, u.tbls⟩
variable {X : Cx} {k : Nat} {f : Addr} {fd : FuncData} {ps : List Str} {Fn : List T → M W T} {O : Wd W}
theorem Out.refl' {H F : Hp} {w : W} (sub : Same F H) (wok : O.ok H w) (dF : ∀ b, O.D b → F b = none) : Out O H F w H F := ⟨sub, Same.refl F, fun _ _ => rfl, fun _ _ e _ => e, wok, dF⟩
theorem Out.trans' {H F H1 F1 H2 F2 : Hp} {w1 w2 : W} (a : Out O H F w1 H1 F1) (b : Out O H1 F1 w2 H2 F2) : Out O H F w2 H2 F2 := by
  refine ⟨b.sub, a.same.trans b.same, fun c hc => ?_, fun c o e nd => b.keep c o (a.keep c o e nd) nd, b.wok, b.dF⟩
  have : H1 c ≠ none := by
    by_cases d : O.D c
    · exact O.live a.wok d
    · cases q : H c with
      | none => exact absurd q hc
      | some o => rw [a.keep c o q d]; simp
  rw [b.nof c this, a.nof c hc]
/-- one key -/
theorem run_key (Fm : FnG X.prog X.w X.K X.mg X.base (L2.CX X.prog X.w) k f fd ps (spF X.K 1 Fn)) (hb : Binds X.K fd ps []) {A : Around} (hr : Room k A) (hgd : A.guards = some []) (hf : A.frames = X.A.frames)
    {pins : List (Addr × Obj)} {s : Shared} {σ : L2.St} {H F : Hp} {u : Value} {v : V} {t z : T} {w w' : W} (I : Inv X pins σ H s) (rv : RelV v u) (sub : Same F H) (wok : O.ok H w) (dF : ∀ b, O.D b → F b = none) (r : Rep X.K F v t) (e : Fn [t] w = some (.ok z, w')) :
    wpAny (model X.prog X.w) A (call (.ref f) [u]) (fun q s' => ∃ y H' F', s'.os = s.os ∧ AllBare s'.gens ∧ Un (frs X.stack) [] H H' s.heap s'.heap ∧ HOk X.prog X.w H' s'.heap ∧ RelV y q ∧ Out O H F w' H' F' ∧ Rep X.K F' y z) (fun _ _ => False) s := by
  have hsp : spF X.K 1 Fn [v] H (fun y H' => ∃ F', Out O H F w' H' F' ∧ Rep X.K F' y z) (fun _ _ _ => False) := ⟨O, F, [t], w, .ok z, w', rfl, sub, wok, dF, .cons r .nil, e, fun y H' F' o q => ⟨F', o, q⟩⟩
  have hl : ([u] : List Value).length = ps.length := Fm.len _ _ _ _ hsp
  have hb' := hb s [u] I.kIn (by simpa using hl)
  rw [List.append_nil] at hb'
  have e0 := I.env0
  refine wpAny_call (codeAny_mono (Fm.run A X.stack s H ⟨[u], []⟩ [u] [v] _ _ hr hgd ⟨by rw [hf]; exact e0.frames, e0.mod, e0.bs, e0.bsz, e0.funs, e0.frf, e0.hok, e0.bare⟩ hb' (.cons rv .nil) hsp) fun q s' hq => ?_)
  cases q with
  | error er =>
    obtain ⟨_, _, _, _, _, _, _, _, _, _, _, _, no⟩ := hq
    exact no.elim
  | ok fl =>
    cases fl with
    | ret q =>
      obtain ⟨y, H', os, bare, un, hok, rr, F', o, re⟩ := hq
      exact ⟨y, H', F', os, bare, un, hok, rr, o, re⟩
    | next => exact False.elim hq
    | brk => exact False.elim hq
    | cont => exact False.elim hq
theorem Un.more {fs : List Addr} {H H' : Hp} {h h1 : Heap} {p : Addr} {o : HO} (u : Un fs [] H H' h h1) (hp : h.get? p = none) (hn : H p = none) : Un fs [] H (upd H' p o) h h1 := by
  have ne : ∀ {b : Addr} {q : Obj}, h.get? b = some q → b ≠ p := fun e z => by rw [z, hp] at e; cases e
  have ne2 : ∀ {b : Addr} {q : HO}, H b = some q → b ≠ p := fun e z => by rw [z, hn] at e; cases e
  exact ⟨u.keep, u.slot, fun b q e n hx => by rw [upd_ne (ne e)]; exact u.free b q e n hx, u.there, fun b xs e => by rw [upd_ne (ne2 e)]; exact u.tups b xs e, fun b q x e => by rw [upd_ne (ne2 e)]; exact u.frzs b q x e,
    fun b ps e => by rw [upd_ne (ne2 e)]; exact u.tbls b ps e⟩
theorem Vals.getU {vs : List V} {us : List Value} {i : Nat} {u : Value} (r : Vals vs us) (e : us[i]? = some u) : ∃ v, vs[i]? = some v ∧ RelV v u := by
  cases q : vs[i]? with
  | none => rw [r.none_of q] at e; cases e
  | some v =>
    obtain ⟨u', e', rv⟩ := r.get q
    rw [e] at e'
    cases e'
    exact ⟨v, rfl, rv⟩
/-- items and keys, as the sort finds them -/
theorem each_pairs {K : PySem.W.Frag} {F : Hp} : ∀ {us : List Value} {ts ks : List T}, ks.length = ts.length → PySem.W.EachIs (fun u t => ∃ v, RelV v u ∧ Rep K F v t) us ts → PySem.W.EachIs (fun u (p : T × T) => ∃ v, RelV v u ∧ Rep K F v p.1) us (ts.zip ks)
  | _, _, _, _, .nil => .nil
  | _, _, [], h, .cons _ _ => by cases h
  | _, _, _ :: _, h, .cons q r => .cons q (each_pairs (by simpa using h) r)
theorem of_pairs {K : PySem.W.Frag} {F : Hp} : ∀ {us : List Value} {ps : List (T × T)}, PySem.W.EachIs (fun u (p : T × T) => ∃ v, RelV v u ∧ Rep K F v p.1) us ps → ∃ vs, Vals vs us ∧ Reps K F vs (ps.map (·.1))
  | _, _, .nil => ⟨[], .nil, .nil⟩
  | _, _, .cons ⟨v, q, h⟩ t => by
    obtain ⟨vs, h1, h2⟩ := of_pairs t
    exact ⟨v :: vs, .cons q h1, .cons h h2⟩
theorem keys_data : ∀ {ts : List T} {ds : List PyData}, dataTs ts = some ds → ∀ t ∈ ts, ∃ d, dataT t = some d
  | [], _, _, _, z => by cases z
  | t :: ts, ds, e, t', ht => by
    simp only [dataTs, Option.bind_eq_some_iff, Option.map_eq_some_iff] at e
    obtain ⟨d, h1, es, h2, rfl⟩ := e
    rcases List.mem_cons.mp ht with rfl | ht
    · exact ⟨d, h1⟩
    · exact keys_data h2 t' ht
theorem keys_reads {pins : List (Addr × Obj)} {s : Shared} {σ : L2.St} {H F : Hp} (I : Inv X pins σ H s) (sub : Same F H) : ∀ {us : List Value} {ys : List V} {ks : List T}, Vals ys us → Reps X.K F ys ks → (∀ t ∈ ks, ∃ d, dataT t = some d) → PySem.W.EachIs (fun v d => ∃ as, Reads s.heap v d as) us (ks.map dat)
  | _, _, _, .nil, .nil, _ => .nil
  | _, _, _, .cons q r, .cons h t, hh => by
    refine .cons ?_ (keys_reads I sub r t fun u hu => hh u (List.mem_cons_of_mem _ hu))
    obtain ⟨d, hd⟩ := hh _ List.mem_cons_self
    rw [show dat _ = d by unfold dat; rw [hd]; rfl]
    exact Dp.reads I d _ _ (Rep.dp sub _ _ _ h hd) q
theorem run_sortK (Fm : FnG X.prog X.w X.K X.mg X.base (L2.CX X.prog X.w) k f fd ps (spF X.K 1 Fn)) (hb : Binds X.K fd ps []) (hr : Room (k + 2) X.A) (hgd : X.A.guards = some [])
    {pins : List (Addr × Obj)} {s : Shared} {σ : L2.St} {H F : Hp} {l : Addr} {vs : List V} {ts us : List T} {w w' : W} {Q : VK} (I : Inv X pins σ H s) (hs : SqL X.K H l vs) (sub : Same F H) (wok : O.ok H w) (dF : ∀ b, O.D b → F b = none) (rs : Reps X.K F vs ts) (e : sortKM Fn (.lst ts) w = some (.ok us, w'))
    (q : ∀ p ys H' F', Out O H F w' H' F' → H p = none → H' p = none → Reps X.K F' ys us → Q (.ref p) (upd H' p (.lst ys))) :
    wpAny (model X.prog X.w) X.A (call (.builtin "sorted") [.ref l] [(Str.ofString "key", .ref f)]) (EP X pins σ Q) X.xe s := by
  obtain ⟨its, rv, pl, hz⟩ := I.list hs
  have hz' : its.length ≤ sizeLine := by rw [← rv.length]; exact hz
  obtain ⟨ks, ws, hkl, hw0, hwn, hstep, hd, hb1, hb2, rfl, rfl⟩ : ∃ (ks : List T) (ws : Nat → W), ks.length = ts.length ∧ ws 0 = w ∧ ws ts.length = w' ∧ (∀ (j : Nat) (t k : T), ts[j]? = some t → ks[j]? = some k → Fn [t] (ws j) = some (.ok k, ws (j + 1))) ∧
      (∃ ds, dataTs ks = some ds) ∧ sortableB (ks.map dat) = true ∧ ts.length ≤ sizeLine ∧ us = sortBy ts ks ∧ w' = ws ts.length := by
    have e1 : bnd (keysM Fn ts) (sortKs ts) w = some (.ok us, w') := e
    rcases bnd_inv e1 with ⟨ks, w1, hk, hq⟩ | ⟨er, _, no⟩
    · obtain ⟨ks', ws, h1, hkl, hw0, hwn, hstep⟩ := keysM_inv hk
      cases h1
      unfold sortKs at hq
      cases hds : dataTs ks with
      | none => rw [hds] at hq; cases hq
      | some ds =>
        rw [hds] at hq
        by_cases hso : sortableB ds = true ∧ ts.length ≤ sizeLine
        · simp only [if_pos hso] at hq
          obtain ⟨h3, h4⟩ := ret_inv hq
          cases h3
          exact ⟨ks, ws, hkl, hw0, by rw [hwn, h4], hstep, ⟨ds, hds⟩, by rw [← dataTs_map hds]; exact hso.1, hso.2, rfl, by rw [hwn, h4]⟩
        · simp only [if_neg hso] at hq
          cases hq
    · cases no
  obtain ⟨ds, hds⟩ := hd
  unfold sortableB at hb1
  simp only [Bool.and_eq_true, List.all_eq_true, decide_eq_true_eq, Bool.or_eq_true] at hb1
  obtain ⟨⟨hal, hk⟩, hdp⟩ := hb1
  have hvl : vs.length = ts.length := rs.length
  have hil : its.length = ts.length := by rw [← rv.length, hvl]
  refine PySem.W.sorted_of_sort pl.isList hz' (ksk_s1 _ _) (fun _ => ksk_l1 _ _) fun E' => ?_
  rw [ksk_t1]
  have ho := PySem.W.copyHeap_at s.heap its
  have hplt : s.heap.objs.size + 1 < (PySem.W.copyHeap s.heap its).objs.size := Heap.lt_size ho
  obtain ⟨n1, ho1⟩ : ∃ n1, ((PySem.W.copyHeap s.heap its).update (s.heap.objs.size + 1) (Obj.mapSeq fun _ => (#[] : Array Value))).get? (s.heap.objs.size + 1) = some (seqObj "list" #[] n1) := ⟨_, get?_update_seq ho fun _ => #[]⟩
  unfold ksk_tree
  (refine wpAny_bind (listItems_at ho rfl ?_)); (refine wpAny_bind (listUpdate_at ho rfl ?_ (by rw [List.size_toArray]; exact hz') (Nat.zero_le _))); (refine wpAny_bind (seqEpoch_at ho1 rfl ?_))
  (refine wpAny_bind (wpAny_newTuple ?_ (by simpa using hz'))); (refine wpAny_bind (wpAny_newList ?_ (Nat.zero_le _))); (refine wpAny_holding ?_)
  generalize hH1 : (((PySem.W.copyHeap s.heap its).update (s.heap.objs.size + 1) (Obj.mapSeq fun _ => (#[] : Array Value))).push { cls := .type "tuple", data := .seq its.toArray.toList.toArray }) = h1
  have hks1 : h1.objs.size = (PySem.W.copyHeap s.heap its).objs.size + 1 := by rw [← hH1, size_push', Heap.size_update]
  have old1 : ∀ b u, s.heap.get? b = some u → (h1.push { cls := .type "list", data := .seq ([] : List Value).toArray }).get? b = some u := fun b u eb => by
    have hlt : b < s.heap.objs.size := Heap.lt_size eb
    rw [← hH1]
    refine Heap.get?_push_of_some _ (Heap.get?_push_of_some _ ?_)
    rw [Heap.get?_update_ne _ _ _ _ (Nat.ne_of_lt (Nat.lt_succ_of_lt hlt))]
    exact PySem.W.copyHeap_old eb
  have ne_old : ∀ {b : Addr} {u : Obj}, s.heap.get? b = some u → b ≠ s.heap.objs.size + 1 ∧ b ≠ h1.objs.size := fun {b u} eb => by
    have hlt : b < s.heap.objs.size := Heap.lt_size eb
    exact ⟨Nat.ne_of_lt (Nat.lt_succ_of_lt hlt), Nat.ne_of_lt (Nat.lt_of_lt_of_le hlt (by omega))⟩
  have nf : ∀ b, s.heap.objs.size ≤ b → b ∉ frs X.stack := fun b hb z => by
    obtain ⟨_, o, eo, _⟩ := I.stack.mem z
    have hlo : b < s.heap.objs.size := Heap.lt_size eo
    exact absurd (Nat.lt_of_lt_of_le hlo hb) (Nat.lt_irrefl _)
  have nfp := nf (s.heap.objs.size + 1) (by omega)
  have nfk := nf h1.objs.size (by omega)
  have hkp : h1.objs.size ≠ s.heap.objs.size + 1 := by omega
  unfold ksk_rest
  refine wpAny_bind (wpAny_rule ?_)
  first
    | rw [List.forIn_toArray] | (rw [← Array.forIn_toList]; simp only [List.toList_toArray])
  let J : Nat → Shared → Prop := fun i s' => ∃ (H' F' : Hp) (kA : Array Value) (n : Nat) (ys : List V), s'.os = s.os ∧ AllBare s'.gens ∧ Un (frs X.stack) [] H H' s.heap s'.heap ∧ HOk X.prog X.w H' s'.heap ∧ Out O H F (ws i) H' F' ∧
    s'.heap.get? h1.objs.size = some (seqObj "list" kA n) ∧ s'.heap.get? (s.heap.objs.size + 1) = some (seqObj "list" #[] n1) ∧ H' h1.objs.size = none ∧ H' (s.heap.objs.size + 1) = none ∧ Vals ys kA.toList ∧ Reps X.K F' ys (ks.take i)
  have J0 : J 0 { s with heap := h1.push { cls := .type "list", data := .seq ([] : List Value).toArray } } :=
    ⟨H, F, #[], 0, [], rfl, I.bare, Un.kept old1, I.hok.kept old1, by rw [hw0]; exact Out.refl' sub wok dF, Heap.get?_push_size _ rfl, by rw [← hH1]; exact Heap.get?_push_of_some _ (Heap.get?_push_of_some _ ho1), I.hok.fresh (by omega), I.hok.fresh (by omega), .nil, .nil⟩
  refine wpAny_bind (ksk_fold J its 0 _ J0 ?step ?done)
  case step =>
    rintro j x s' hx ⟨H', F', kA, n, ys, os, bare, un, hok, out, gk, gp, nk, np, rys, reps⟩
    simp only [Nat.zero_add] at out reps ⊢
    have I' : Inv X pins σ H' s' := I.call' os un hok bare fun b z => absurd z (by simp)
    obtain ⟨v, hv, rvx⟩ := Vals.getU rv hx
    obtain ⟨t, ht, rt⟩ := rs.getV hv
    have hjl : j < ts.length := (List.getElem?_eq_some_iff.mp ht).1
    have hkj : ks[j]? = some ks[j] := List.getElem?_eq_getElem (by omega)
    have hyl : ys.length ≤ ts.length := by
      rw [reps.length, List.length_take]
      omega
    have hkA : kA.size ≤ sizeLine := by
      rw [← Array.length_toList, ← rys.length]
      omega
    refine wpAny_bind (wpAny_attempt (wpAny_mono (run_key Fm hb (A := X.A.in1.in1) hr.in1.in1 hgd rfl I' rvx out.sub out.wok out.dF (rt.mono out.same) (hstep j t _ ht hkj)) (fun qv s2 hq => ?_) fun _ _ no => no.elim))
    obtain ⟨y, H2, F2, os2, bare2, un2, hok2, ry, out2, rep2⟩ := hq
    try dsimp only
    have gk2 := un2.keep _ _ gk nk nfk (by simp)
    have gp2 := un2.keep _ _ gp np nfp (by simp)
    obtain ⟨c2, hc2⟩ : ∃ c2, (s2.heap.update h1.objs.size (Obj.mapSeq (·.push qv))).get? h1.objs.size = some (seqObj "list" (kA.push qv) c2) := ⟨_, get?_update_seq gk2 (·.push qv)⟩
    have same2 : ∀ b, b ≠ h1.objs.size → (s2.heap.update h1.objs.size (Obj.mapSeq (·.push qv))).get? b = s2.heap.get? b := fun b hb => Heap.get?_update_ne _ _ _ _ hb
    have nk2 := un2.free _ _ gk nk (by simp)
    refine wpAny_bind (listUpdate_at gk2 rfl (wpAny_pure ⟨rfl, H2, F2, kA.push qv, c2, ys ++ [y], os2.trans os, bare2, ?_, ?_, out.trans' out2, hc2, ?_, nk2, un2.free _ _ gp np (by simp), ?_, ?_⟩) hkA (by rw [Array.size_push]; omega))
    · exact Un.turned (un.trans un2) fun b o o1 e1 e2 => by rw [same2 b (ne_old e1).2]; exact e2
    · exact HOk.tracked hok2 fun b u hb e1 => by rw [same2 b (fun z => hb (by rw [z]; exact nk2))]; exact e1
    · rw [same2 _ (Ne.symm hkp)]; exact gp2
    · rw [Array.toList_push]; exact rys.append (.cons ry .nil)
    · have : ks.take (j + 1) = ks.take j ++ [ks[j]] := by rw [List.take_add_one, hkj]; rfl
      rw [this]
      exact (reps.mono out2.same).append (.cons rep2 .nil)
  case done =>
    rintro s' ⟨H', F', kA, n, ys, os, bare, un, hok, out, gk, gp, nk, np, rys, reps⟩
    rw [Nat.zero_add, hil] at out reps
    rw [List.take_of_length_le (by omega)] at reps
    have I' : Inv X pins σ H' s' := I.call' os un hok bare fun b z => absurd z (by simp)
    have hreads := keys_reads I' out.sub rys reps (keys_data hds)
    have hkA : kA.size = its.length := by
      rw [← Array.length_toList, ← rys.length, reps.length]
      omega
    try dsimp only
    refine wpAny_bind (listItems_at gk rfl ?_)
    obtain ⟨G, g1, g2⟩ := L2.restrict s'.heap fun b => decide (b ≠ h1.objs.size)
    have gG : ∀ b, b ≠ h1.objs.size → G.get? b = s'.heap.get? b := fun b hb => g1 b (decide_eq_true hb)
    have gN : G.get? h1.objs.size = none := g2 _ (decide_eq_false fun z => z rfl)
    have kpG : PySem.W.KeepsBut (s.heap.objs.size + 1) G s'.heap := fun b o _ e1 => by
      by_cases hbk : b = h1.objs.size
      · rw [hbk, gN] at e1; cases e1
      · rw [← gG b hbk]; exact e1
    have hal' : PySem.W.AllAlike (ks.map dat) := fun d hd' e he => hal d hd' e he
    have hso : PySem.W.Sortable (ks.map dat) := by
      rcases hk with hk | hk
      · refine .inl fun d hd' => ?_
        have := hk d hd'
        split at this
        · exact ⟨_, _, rfl⟩
        · cases this
      · refine .inr fun d hd' => ?_
        have := hk d hd'
        exact ⟨(fun z => by subst z; cases this), (fun xs z => by subst z; cases this)⟩
    have hun := hr.un
    refine PySem.W.keyH_end (κ := PySem.W.dataKind s'.heap (ks.map dat)) (h₁ := G) kpG gN gk gp hkp (PySem.W.SortsAt.data (s := s') hreads hal' hso fun d hd' => ?_) hkA hz' fun h3 tk3 c k3 n3 => ⟨rfl, ?_⟩
    · have := hdp d hd'
      show X.A.units + 1 + 1 + d.depth < cLine
      omega
    have ko : PySem.W.KeyedOut false (ks.map dat) its (PySem.W.sortVals (PySem.W.dataKind s'.heap (ks.map dat)) false kA.toList its) := ⟨s'.heap, kA.toList, hal', rfl, hreads⟩
    have ez : (ts.zip ks).map (fun p : T × T => dat p.2) = ks.map dat := by
      have h2 : (ts.zip ks).map Prod.snd = ks := List.map_snd_zip (by omega)
      conv => rhs; rw [← h2, List.map_map]
      rfl
    have eo := PySem.W.keyedOut_each (rev := false) (fun p : T × T => dat p.2) (by rw [ez]; exact ko) (each_pairs hkl (eachIs_of (rs.mono out.same) rv))
    obtain ⟨zs, hv, hzr⟩ := of_pairs eo
    have keep3 : ∀ b o, b ≠ s.heap.objs.size + 1 → b ≠ h1.objs.size → s'.heap.get? b = some o → h3.get? b = some o := fun b o b1 b2 e1 => k3 b o b1 (by rw [gG b b2]; exact e1)
    have hlen : zs.length ≤ sizeLine := by
      rw [hzr.length, List.length_map, List.length_mergeSort, List.length_zip]
      omega
    have hok3 : HOk X.prog X.w H' h3 := HOk.tracked hok fun b u hb e1 => keep3 b u (fun z => hb (by rw [z]; exact np)) (fun z => hb (by rw [z]; exact nk)) e1
    refine ⟨.ref _, upd H' (s.heap.objs.size + 1) (.lst zs), I.call' (s' := { s' with heap := h3, toks := tk3 }) os (Un.more (Un.turned un fun b o o1 e1 e2 => keep3 b o1 (ne_old e1).1 (ne_old e1).2 e2) (Heap.get?_none_of_le (Nat.le_succ _)) (I.hok.fresh (Nat.le_succ _))) ?_ bare (fun b z => absurd z (by simp)), rfl, q _ zs H' F' out (I.hok.fresh (Nat.le_succ _)) np hzr⟩
    exact HOk.put hok3 np ⟨hlen, _, c, hv, by simpa [seqObj] using n3⟩
end
end PL

set_option maxHeartbeats 4000000
/-! PLv: sorted(e, key=f) as a new list; a def called by names. -/
namespace PL
open PySem PySem.Spec PyProof.Rows L2
section
variable {W : Type} {X : Cx} {G : Gm W} {E : XK}
def rSortK (X : Cx) (f : Addr) (Fn : List T → M W T) : List V → List V → Hp → VK → Prop := fun xs zs H Q => ∃ (O : Wd W) (F : Hp) (l : Addr) (vs : List V) (ts us : List T) (w w' : W), xs = [.ref l] ∧ zs = [.ref f] ∧ SqL X.K H l vs ∧ Same F H ∧ O.ok H w ∧ (∀ b, O.D b → F b = none) ∧ Reps X.K F vs ts ∧
  sortKM Fn (.lst ts) w = some (.ok us, w') ∧ ∀ p ys H' F', Out O H F w' H' F' → H p = none → H' p = none → Reps X.K F' ys us → Q (.ref p) (upd H' p (.lst ys))
theorem sortKM_inv {Fn : List T → M W T} {t : T} {w w' : W} {r : R (List T)} (h : sortKM Fn t w = some (r, w')) : ∃ ts us, t = .lst ts ∧ r = .ok us := by
  unfold sortKM at h
  cases t with
  | lst ts =>
    have h' : bnd (keysM Fn ts) (sortKs ts) w = some (r, w') := h
    rcases bnd_inv h' with ⟨ks, w1, _, hq⟩ | ⟨er, hk, _⟩
    · unfold sortKs at hq
      cases hds : dataTs ks with
      | none => rw [hds] at hq; cases hq
      | some ds =>
        rw [hds] at hq
        by_cases hso : sortableB ds = true ∧ ts.length ≤ sizeLine
        · simp only [if_pos hso] at hq
          exact ⟨ts, _, rfl, (ret_inv hq).1⟩
        · simp only [if_neg hso] at hq
          cases hq
    · obtain ⟨ks, _, e, _⟩ := keysM_inv hk
      cases e
  | _ => cases h
theorem pf_sortK {k : Nat} {y : Str} {Fn : List T → M W T} {e : Expr} {fa : Rho → M W T} {p pos py pk : Pos} (D : DefOk (L2.CX X.prog X.w) X.prog X.w X.K X.mg X.base k y 1 Fn) (hr : Room (k + 2) X.A) (hgd : X.A.guards = some []) (hg : Gl X "sorted") (hm : X.mg "sorted" = none) (hgy : Gl X y) (ha : PVs X G E e fa)
    (hdb : (y == ("__debug__" : Str)) = false := by decide) (he : starEach [e] X.env = (false, eval e X.env) :: starEach [] X.env := by rfl) (heb : backTo pos (starEach [e] X.env) = (false, eval e X.env) :: backTo pos (starEach [] X.env) := by rfl) (hpl : (backTo pos (starEach [e] X.env)).any (·.1) = false := by rfl)
    (hall : (backToKw pos (keywordEach [⟨some "key", .Name y py, pk⟩] X.env)).all (·.1.isSome) = true := by rfl) (hnone : (backToKw pos (keywordEach [⟨some "key", .Name y py, pk⟩] X.env)).any (·.1.isNone) = false := by rfl) (hks : (backToKw pos (keywordEach [⟨some "key", .Name y py, pk⟩] X.env)).filterMap (·.1) = [Str.ofString "key"] := by rfl) :
    PF X G E (.Call (.Name "sorted" p) [e] [⟨some "key", .Name y py, pk⟩] pos) (fSortK Fn fa) := by
  obtain ⟨f, fd, ps, Fm, hmy, hkp, hb⟩ := D.ex
  have hc : CallRK X (.builtin "sorted") [Str.ofString "key"] (rSortK X f Fn) := by
    intro pins s σ H xs zs us ws Q I r rz h
    obtain ⟨O, F, l, vs, ts, us', w, w', rfl, rfl, hs, sub, wok, dF, rs, hk, q⟩ := h
    rw [Vals.ref1 r, Vals.ref1 rz]
    exact run_sortK Fm hb hr hgd I hs sub wok dF rs hk q
  have hy : PV X G E (.Name y py) (fC (.raw (.ref f))) := pv_glob (v := .ref f) hgy hmy rfl (fun F => .raw _) hdb
  refine ⟨(pe_callBK hc hg hm boot_sorted (pa_cons ha.run pa_nil he) (pk_cons hy.run pk_nil) (by decide) (by decide) heb hpl hall hnone hks).imp fun σ H Q => ?_⟩
  rintro ⟨ρ, w, F, r, w', S, hf, acc⟩
  refine tVs.bind (X := X) S hf acc.er fun t w1 x H1 F1 S1 s1 r1 hk => ?_
  obtain ⟨ts, us, rfl, rfl⟩ := sortKM_inv hk
  refine ⟨ρ, w1, F1, .ok (.raw (.ref f)), w1, S1, rfl, fun v H2 F2 S2 g2 rv => ?_⟩
  obtain ⟨l, vs, rfl, hH, rs⟩ := (r1.mono g2.same).lst S2
  cases rv with
  | raw =>
    refine ⟨G.O, F2, l, vs, ts, us, w1, w', rfl, rfl, SqL.of hH, S2.sub, S2.wok, S2.dF, rs, hk, fun p ys H' F' o hp hp' rys => ?_⟩
    have S3 := o.sd S2
    have hgr := s1.trans (g2.trans o.gr S2.dH) S1.dH
    exact acc p ys _ F' (S3.laid hp') (hgr.trans (.laid hp') S3.dH) (hgr.free0 S3.dH hp') upd_same (S3.sub.free hp') (S3.fresh hp').2.1 (S3.noSlot hp') rys
/-- a def of the module, by names -/
structure DefOkK (CX : CXT) (P : Program) (w : World) (K : PySem.W.Frag) (mg : Str → Option Value) (base : Heap) (k : Nat) (x : Str) (n : Nat) (ks : List Str) (Fn : List T → M W T) : Prop where
  ex : ∃ f fd ps, FnG P w K mg base CX k f fd ps (spF K n Fn) ∧ mg x = some (.ref f) ∧ PySem.W.keepIn K (.ref f) = true ∧ KBinds K fd ps ks (fun us ws => us ++ ws) (fun vs zs => vs ++ zs)
theorem pv_callN {k j n : Nat} {x : Str} {kws : List Keyword} {ks : List Str} {fa : Rho → M W (List T)} {Fn : List T → M W T} {p pos : Pos} {tk : TA} (D : DefOkK (L2.CX X.prog X.w) X.prog X.w X.K X.mg X.base k x n ks Fn) (hr : Room j X.A) (hgd : X.A.guards = some []) (hk : k ≤ j) (hg : Gl X x) (hx : Passes (L2.CX X.prog X.w) X E)
    (hkw : PK X kws tk) (htk : ∀ σ H Q, tA X.K G E fa σ H Q → tk σ H Q) (hall : (backToKw pos (keywordEach kws X.env)).all (·.1.isSome) = true := by rfl) (hks : (backToKw pos (keywordEach kws X.env)).filterMap (·.1) = ks := by rfl) (hdb : (x == ("__debug__" : Str)) = false := by decide)
    (hpl : ((backTo pos (starEach [] X.env)).any (·.1) || (backToKw pos (keywordEach kws X.env)).any (·.1.isNone)) = false := by rfl) :
    PV X G E (.Call (.Name x p) [] kws pos) (fCall n fa Fn) := by
  obtain ⟨f, fd, ps, Fm, hm, hkp, hb⟩ := D.ex
  refine ⟨⟨fun pins s σ H Q I h => ?_⟩⟩
  obtain ⟨ρ, w, F, q, w', S, hf, acc⟩ := h
  refine wpAny_Call_Name_kw (ld_glob I hg hm ?_ hdb)
  refine PySem.W.callWith_KW0 (first := []) (h₀ := X.base) I.ok.mod.kin hkp hall (thn (hkw.run pos pins s σ H _ I (htk _ _ _ (tA.bind (X := X) (Q := fun vs H1 => spF X.K n Fn vs H1 Q E) S hf acc.er fun ts w1 vs H1 F1 S1 s1 r1 hk => ?_))) fun us s1 ⟨vs, H1, I1, r, q⟩ => ⟨I1.kIn, ?_⟩) hpl
  · split at hk
    · rename_i hl
      exact spF.of S1 r1 hl hk (fun t ht v H' F' S' s' rv => by subst ht; exact acc v H' F' S' (s1.trans s' S1.dH) rv) (acc.mono s1 S1.dH).er
    · cases hk
  · rw [hks]
    have r2 := hb.rel (vs := []) (us := []) .nil r
    have hl : (([] : List Value) ++ us).length = ps.length := by rw [← r2.length]; exact Fm.len _ _ _ _ q
    exact wpAny_call (FnG.out hx I1 (Fm.run X.A X.stack s1 H1 ⟨[], ks.zip us⟩ ([] ++ us) ([] ++ vs) Q E (hr.mono hk) hgd I1.env0 (hb.to s1 [] us I1.kIn hl) r2 q))
end
section
variable {W : Type} {P : Program} {w : World} {K : PySem.W.Frag} {mg : Str → Option Value} {base : Heap}
theorem def_okK {x : Str} {st : Stmt} {N ps ks : List Str} {n m k : Nat} {g : Rho → M W Fl} (D : DefAt K mg x st) (S : FnScope N ps (defScope st)) (hps : ps.length = n) (hN : N.length = n + m)
    (hb : ∀ (kV doc pm : Value) (an : Option Addr) (cdv ct : Value) (us ws : List Value), (us ++ ws).length = ps.length → bindArgs (PySem.W.fnOf x x (defArgs st) (defBody st) (defScope st) .none kV doc pm an cdv ct) ⟨us, ks.zip ws⟩ = pure (ps.zip (us ++ ws)))
    (hbody : ∀ (f : Addr) (cdv : Value) (A : Around) (outer : List PySem.Env) (s : Shared) (H : Hp) (E : XK) (G : Gm W), Room k (A.deeper (envOfC x (defScope st) s.heap.objs.size f cdv)) → (A.deeper (envOfC x (defScope st) s.heap.objs.size f cdv)).guards = some [] →
      PDs (cxOf (L2.CX P w) P w K mg base N x (defScope st) f cdv A outer s H E) G E (defBody st) g) :
    DefOkK (L2.CX P w) P w K mg base (k + 1) x n ks (run m g) := by
  obtain ⟨f, fd, F, hm⟩ := D.ex
  obtain ⟨fd', ps', h1, h2⟩ := meth_okK ⟨fd, F⟩ S hps hN hb fun cdv A outer s H E G => hbody f cdv A outer s H E G
  exact ⟨f, fd', ps', h1, hm, F.kp, h2⟩
end
end PL

set_option maxHeartbeats 4000000
/-! PM: < of texts, + of lists as a new list, a, b, c = x, y, z, defs that give a new list. -/
namespace PL
open PySem PySem.Spec PyProof.Rows L2
section
variable {W : Type} {X : Cx} {G : Gm W} {E : XK} {a b : Expr} {fa fb : Rho → M W T} {pos : Pos}
def ltS : T → T → Option T
  | .str i, .str j => some (.bl (decide (i.cps.toList < j.cps.toList)))
  | _, _ => none
theorem ltSG : OpG X G (fun x y H Q => ∃ i j, x = .str i ∧ y = .str j ∧ Q (.bl (decide (i.cps.toList < j.cps.toList))) H) ltS := by
  intro ρ w σ H F x y t u z Q S hx hy hz k
  unfold ltS at hz
  split at hz
  · cases hz
    exact ⟨_, _, hx.str, hy.str, k _ H F S .refl (.bl _)⟩
  · cases hz
theorem pv_ltS (ha : PVs X G E a fa) (hb : PVs X G E b fb) : PV X G E (.Compare a [.Lt] [b] pos) (f2 ltS fa fb) := pv_cmp op_lt_str ltSG ha hb (nomark b)
theorem pb_ltS (ha : PVs X G E a fa) (hb : PVs X G E b fb) : PB X G E (.Compare a [.Lt] [b] pos) (fB (f2 ltS fa fb)) := pb_cmp op_lt_str ltSG ha hb (nomark b)
/-! ### a list made of two -/
def catT : T → T → Option (List T)
  | .lst xs, .lst ys => if xs.length + ys.length ≤ sizeLine then some (xs ++ ys) else none
  | _, _ => none
def f2l (g : T → T → Option (List T)) (fa fb : Rho → M W T) : Rho → M W (List T) := fun ρ => bnd (fa ρ) fun t => bnd (fb ρ) fun u => lift (g t u)
theorem pf_cat (ha : PVs X G E a fa) (hb : PVs X G E b fb) : PF X G E (.BinOp a .Add b pos) (f2l catT fa fb) := ⟨(pe_op op_cat ha.run hb.run).imp fun σ H Q => by
  rintro ⟨ρ, w, F, q, w', S, hf, acc⟩
  refine tVs.bind (X := X) S hf acc.er fun t w1 x H1 F1 S1 s1 r1 hk => ?_
  have ac1 : AccF X.K G E ρ σ H1 F1 Q q w' := by
    cases q with
    | ok ts => exact fun p vs H2 F2 S2 g hp => acc p vs H2 F2 S2 (s1.trans g S1.dH) (s1.free0 S1.dH hp)
    | er e => exact AccE.mono (X := X) acc s1.same
  refine tVs.bind (X := X) S1 hk ac1.er fun u w2 y H2 F2 S2 s2 r2 hk2 => ?_
  obtain ⟨z, hz, rfl, rfl⟩ := lift_inv hk2
  unfold catT at hz
  split at hz
  · rename_i xs ys
    split at hz
    · rename_i hl
      cases hz
      obtain ⟨a, vs, rfl, hH, q1⟩ := (r1.mono s2.same).lst S2
      obtain ⟨b, us, rfl, hH2, q2⟩ := r2.lst S2
      refine ⟨a, b, vs, us, rfl, rfl, hH, hH2, by rw [q1.length, q2.length]; exact hl, fun p hp => ?_⟩
      have g := s1.trans s2 S1.dH
      exact acc p _ _ F2 (S2.laid hp) (g.trans (.laid hp) S2.dH) (g.free0 S2.dH hp) upd_same (S2.sub.free hp) (S2.fresh hp).2.1 (S2.noSlot hp) (q1.append q2)
    · cases hz
  · cases hz⟩
/-! ### three names at once -/
def dPar3 (i j l : Nat) (fx fy fz : Rho → M W Sl) : Rho → M W Fl := fun ρ => bnd (fx ρ) fun s => bnd (fy ρ) fun t => bnd (fz ρ) fun u => ret (.nx (((ρ.set i s).set j t).set l u))
theorem pd_par3 (i j l : Nat) {x y z : Str} {a b c : Expr} {fx fy fz : Rho → M W Sl} {px py pz pt pos : Pos} {kt k2 pt2} (ha : PX X G E a fx) (hb : PX X G E b fy) (hcc : PX X G E c fz) (hc : X.calm = true) (hN : X.N.Nodup) (hi : X.N[i]? = some x) (hj : X.N[j]? = some y) (hl : X.N[l]? = some z) (hij : i ≠ j) (hil : i ≠ l) (hjl : j ≠ l)
    (hx : X.env.scope.names.lookup x = some .local) (hy : X.env.scope.names.lookup y = some .local) (hz : X.env.scope.names.lookup z = some .local)
    (hw : swappedStores [.Tuple [.Name x px, .Name y py, .Name z pz] kt pt] (.Tuple [a, b, c] k2 pt2) X.env = pure (some [x, y, z]))
    (hs : swapsWithSole [.Tuple [.Name x px, .Name y py, .Name z pz] kt pt] (.Tuple [a, b, c] k2 pt2) pos.line X.env = pure false := by rfl)
    (h1 : starEach [a, b, c] X.env = (false, eval a X.env) :: starEach [b, c] X.env := by rfl) (h2 : starEach [b, c] X.env = (false, eval b X.env) :: starEach [c] X.env := by rfl) (h3 : starEach [c] X.env = (false, eval c X.env) :: starEach [] X.env := by rfl) :
    PD X G E (.Assign [.Tuple [.Name x px, .Name y py, .Name z pz] kt pt] (.Tuple [a, b, c] k2 pt2) pos) (dPar3 i j l fx fy fz) := ⟨(ps_par3 hc hN hi hj hl hij hil hjl hx hy hz (pa_cons ha.run (pa_cons hb.run (pa_cons hcc.run pa_nil h3) h2) h1) hw hs).imp fun D σ H => by
  rintro ⟨ρ, w, F, r, w', S, hf, acc⟩
  refine tX.bind (X := X) S hf acc.er fun s w1 v H1 F1 S1 s1 n1 r1 hk => ?_
  refine tX.bind (X := X) S1 hk (AccD.mono (X := X) acc s1.same).er fun t w2 u H2 F2 S2 s2 n2 r2 hk2 => ?_
  refine tX.bind (X := X) S2 hk2 (AccD.mono (X := X) acc (s1.same.trans s2.same)).er fun q w3 m H3 F3 S3 s3 n3 r3 hk3 => ?_
  obtain ⟨rfl, rfl⟩ := ret_inv hk3
  refine ⟨v, u, m, rfl, acc _ H3 F3 ?_ ((s1.same.trans s2.same).trans s3.same)⟩
  have r1' := r1.later S1 s2
  have r1'' := r1'.later S2 s3
  have r2' := r2.later S2 s3
  have a2 : ∀ p, t.owns = true → s.owns = true → u = .ref p → v ≠ .ref p := fun p ht hso hu hv => r1.there hso hv (n2 p ht hu)
  have a31 : ∀ p, q.owns = true → s.owns = true → m = .ref p → v ≠ .ref p := fun p hq hso hm hv => r1'.there hso hv (n3 p hq hm)
  have a32 : ∀ p, q.owns = true → t.owns = true → m = .ref p → u ≠ .ref p := fun p hq hto hm hu => r2.there hto hu (n3 p hq hm)
  have T1 := S3.set r1'' i
  have T2 := T1.set (Rdy.behind S3 r2' a2) j
  exact T2.set (Rdy.behind T1 (Rdy.behind S3 r3 a31) a32) l⟩
end
/-! ### a def that gives a new list -/
section
variable {W : Type}
inductive Fg where
  | nx (ρ : Rho) | rl (ts : List T)
def AccG (K : PySem.W.Frag) (G : Gm W) (E : XK) (D : Ends) (F : Hp) (r : R Fg) (w' : W) : Prop := match r with
  | .ok (.nx ρ') => ∀ σ' H' F', Sd K G ρ' w' σ' H' F' → Same F F' → D.nx σ' H'
  | .ok (.rl ts) => ∀ p vs ρ' σ' H' F', Sd K G ρ' w' σ' H' F' → Same F F' → H' p = some (.lst vs) → F' p = none → G.B p = none → Reps K F' vs ts → D.rt (.ref p) H'
  | .er e => AccE K G E F e w'
def tG2 (K : PySem.W.Frag) (G : Gm W) (E : XK) (g : Rho → M W Fg) : TS := fun D σ H => ∃ ρ w F r w', Sd K G ρ w σ H F ∧ g ρ w = some (r, w') ∧ AccG K G E D F r w'
theorem AccG.mono {X : Cx} {G : Gm W} {E : XK} {D : Ends} {F F' : Hp} {r : R Fg} {w' : W} (h : AccG X.K G E D F r w') (s : Same F F') : AccG X.K G E D F' r w' := by
  cases r with
  | ok f =>
    cases f with
    | nx ρ2 => exact fun σ2 H2 F2 S2 s2 => h σ2 H2 F2 S2 (s.trans s2)
    | rl ts => exact fun p vs ρ2 σ2 H2 F2 S2 s2 => h p vs ρ2 σ2 H2 F2 S2 (s.trans s2)
  | er e => exact PL.AccE.mono (X := X) h s
structure PGs (X : Cx) (G : Gm W) (E : XK) (s : List Stmt) (g : Rho → M W Fg) : Prop where
  run : PSs X s (tG2 X.K G E g)
structure PG1 (X : Cx) (G : Gm W) (E : XK) (s : Stmt) (g : Rho → M W Fg) : Prop where
  run : PS X s (tG2 X.K G E g)
variable {X : Cx} {G : Gm W} {E : XK} {st : Stmt} {sts sa sb : List Stmt} {pos : Pos}
theorem pgs_nil : PGs X G E [] fun ρ => ret (.nx ρ) := ⟨pss_nil.imp fun D σ H => by
  rintro ⟨ρ, w, F, r, w', S, hf, acc⟩
  obtain ⟨rfl, rfl⟩ := ret_inv hf
  exact acc σ H F S (Same.refl F)⟩
/-- behind a statement that returns nothing -/
def seqG (g : Rho → M W Fl) (h : Rho → M W Fg) : Rho → M W Fg := fun ρ => bnd (g ρ) fun fl => match fl with
  | .nx ρ' => h ρ'
  | _ => stuck
theorem pgs_cons {g : Rho → M W Fl} {h : Rho → M W Fg} (h1 : PD X G E st g) (h2 : PGs X G E sts h) : PGs X G E (st :: sts) (seqG g h) := ⟨(pss_cons h1.run h2.run).imp fun D σ H => by
  rintro ⟨ρ, w, F, r, w', S, hf, acc⟩
  rcases bnd_inv hf with ⟨fl, w1, h1, h2⟩ | ⟨er, h1, rfl⟩
  · refine ⟨ρ, w, F, .ok fl, w1, S, h1, ?_⟩
    cases fl with
    | nx ρ' =>
      intro σ' H' F' S' s'
      exact ⟨ρ', w1, F', r, w', S', h2, AccG.mono (X := X) acc s'⟩
    | rt t => cases h2
    | bk ρ' => cases h2
    | ct ρ' => cases h2
  · exact ⟨ρ, w, F, .er er, w', S, h1, acc⟩⟩
def seqGG (g h : Rho → M W Fg) : Rho → M W Fg := fun ρ => bnd (g ρ) fun fl => match fl with
  | .nx ρ' => h ρ'
  | o => ret o
theorem pgs_consG {g h : Rho → M W Fg} (h1 : PG1 X G E st g) (h2 : PGs X G E sts h) : PGs X G E (st :: sts) (seqGG g h) := ⟨(pss_cons h1.run h2.run).imp fun D σ H => by
  rintro ⟨ρ, w, F, r, w', S, hf, acc⟩
  rcases bnd_inv hf with ⟨fl, w1, h1, h2⟩ | ⟨er, h1, rfl⟩
  · refine ⟨ρ, w, F, .ok fl, w1, S, h1, ?_⟩
    cases fl with
    | nx ρ' =>
      intro σ' H' F' S' s'
      exact ⟨ρ', w1, F', r, w', S', h2, AccG.mono (X := X) acc s'⟩
    | rl ts =>
      obtain ⟨rfl, rfl⟩ := ret_inv h2
      exact acc
  · exact ⟨ρ, w, F, .er er, w', S, h1, acc⟩⟩
theorem pgs_one {g : Rho → M W Fg} (h1 : PG1 X G E st g) : PGs X G E [st] g := ⟨pss_one h1.run⟩
def gRet (fl : Rho → M W (List T)) : Rho → M W Fg := fun ρ => bnd (fl ρ) fun ts => ret (.rl ts)
theorem pg_ret {e : Expr} {fl : Rho → M W (List T)} (h : PF X G E e fl) : PG1 X G E (.Return (some e) pos) (gRet fl) := ⟨(ps_ret h.run).imp fun D σ H => by
  rintro ⟨ρ, w, F, r, w', S, hf, acc⟩
  rcases bnd_inv hf with ⟨ts, w1, h1, h2⟩ | ⟨er, h1, rfl⟩
  · obtain ⟨rfl, rfl⟩ := ret_inv h2
    exact ⟨ρ, w, F, .ok ts, _, S, h1, fun p vs H1 F1 S1 g hp h1 hF hB hn rs => acc p vs ρ σ H1 F1 S1 g.same h1 hF hB rs⟩
  · exact ⟨ρ, w, F, .er er, w', S, h1, acc⟩⟩
def gOwn (i : Nat) : Rho → M W Fg := fun ρ => owM i ρ fun ts => ret (.rl ts)
theorem pg_own (i : Nat) {x : Str} {px : Pos} (hx : PE X (.Name x px) (tVar i)) : PG1 X G E (.Return (some (.Name x px)) pos) (gOwn i) := ⟨(ps_ret hx).imp fun D σ H => by
  rintro ⟨ρ, w, F, r, w', S, hf, acc⟩
  have hf' : owM i ρ (fun ts => ret (.rl ts)) w = some (r, w') := hf
  unfold owM at hf'
  cases hs : ρ[i]? with
  | none => rw [hs] at hf'; cases hf'
  | some s =>
    rw [hs] at hf'
    cases s with
    | ow ts =>
      obtain ⟨rfl, rfl⟩ := ret_inv hf'
      obtain ⟨p, vs, e, h1, h2, h3, h4⟩ := S.slots i _ hs
      exact ⟨_, e, acc p vs ρ σ H F S (Same.refl F) h1 h2 h3 h4⟩
    | _ => cases hf'⟩
def gIf (gc : Rho → M W Bool) (g h : Rho → M W Fg) : Rho → M W Fg := fun ρ => bnd (gc ρ) fun b => if b = true then g ρ else h ρ
theorem pg_if {c : Expr} {gc : Rho → M W Bool} {g h : Rho → M W Fg} (hc : PB X G E c gc) (ha : PGs X G E sa g) (hb : PGs X G E sb h) : PG1 X G E (.If c sa sb pos) (gIf gc g h) := ⟨(ps_if hc.run ha.run hb.run).imp fun D σ H => by
  rintro ⟨ρ, w, F, r, w', S, hf, acc⟩
  have er : ∀ e, r = .er e → AccE X.K G E F e w' := fun e z => by subst z; exact acc
  refine tT.bind (X := X) S hf er fun b w1 H1 F1 S1 s1 hk => ?_
  have acc' := AccG.mono (X := X) acc s1.same
  cases b with
  | true => exact ⟨ρ, w1, F1, r, w', S1, hk, acc'⟩
  | false => exact ⟨ρ, w1, F1, r, w', S1, hk, acc'⟩⟩
/-- the promise of such a def -/
def spFL (K : PySem.W.Frag) (n : Nat) (Fn : List T → M W (List T)) : Sp := fun vs H Q E => ∃ (O : Wd W) (F : Hp) (ts : List T) (w : W) (r : R (List T)) (w' : W), vs.length = n ∧ Same F H ∧ O.ok H w ∧ (∀ b, O.D b → F b = none) ∧ Reps K F vs ts ∧ Fn ts w = some (r, w') ∧
  match r with
  | .ok us => ∀ p zs H' F', Out O H F w' H' F' → H p = none → H' p = some (.lst zs) → F' p = none → Reps K F' zs us → Q (.ref p) H'
  | .er e => ∀ d H' F', Out O H F w' H' F' → ErAt K H' F' e d → E (.ref e.C) d H'
structure DefOkL (CX : CXT) (P : Program) (w : World) (K : PySem.W.Frag) (mg : Str → Option Value) (base : Heap) (k : Nat) (x : Str) (n : Nat) (Fn : List T → M W (List T)) : Prop where
  ex : ∃ f fd ps, FnG P w K mg base CX k f fd ps (spFL K n Fn) ∧ mg x = some (.ref f) ∧ PySem.W.keepIn K (.ref f) = true ∧ Binds K fd ps []
def fCallL (n : Nat) (fa : Rho → M W (List T)) (Fn : List T → M W (List T)) : Rho → M W (List T) := fun ρ => bnd (fa ρ) fun ts => if ts.length = n then Fn ts else stuck
theorem pf_call {k j n : Nat} {x : Str} {e : Expr} {es : List Expr} {fa : Rho → M W (List T)} {Fn : List T → M W (List T)} {p : Pos} (D : DefOkL (L2.CX X.prog X.w) X.prog X.w X.K X.mg X.base k x n Fn) (hr : Room j X.A) (hgd : X.A.guards = some []) (hk : k ≤ j) (hg : Gl X x) (hx : Passes (L2.CX X.prog X.w) X E) (ha : PAs X G E (e :: es) fa)
    (hdb : (x == ("__debug__" : Str)) = false := by decide) (he : starEach (e :: es) X.env = (false, eval e X.env) :: starEach es X.env := by rfl) (hpl : (backTo pos (starEach es X.env)).any (·.1) = false := by rfl) :
    PF X G E (.Call (.Name x p) (e :: es) [] pos) (fCallL n fa Fn) := by
  obtain ⟨f, fd, ps, hF, hm, hkp, hb⟩ := D.ex
  refine ⟨(pe_callG hF (hr.mono hk) hgd hg hm hkp hb hx ha.run hdb he hpl).imp fun σ H Q => ?_⟩
  rintro ⟨ρ, w, F, r, w', S, hf, acc⟩
  refine tA.bind (X := X) S hf acc.er fun ts w1 vs H1 F1 S1 s1 r1 hk => ?_
  split at hk
  · rename_i hl
    rw [List.append_nil]
    refine ⟨G.O, F1, ts, w1, r, w', by rw [r1.length]; exact hl, S1.sub, S1.wok, S1.dF, r1, hk, ?_⟩
    cases r with
    | ok us => exact fun p zs H' F' o hp hp' hF' rz => acc p zs H' F' (o.sd S1) (s1.trans o.gr S1.dH) (s1.free0 S1.dH hp) hp' hF' (S1.fresh hp).2.1 (S.noSlot (s1.free0 S1.dH hp)) rz
    | er e' => exact fun d H' F' o ea => AccE.mono (X := X) acc s1.same d H' F' ρ σ (o.sd S1) o.same ea
  · cases hk
/-- what such a body gives; m: how many names it has besides -/
def runL (m : Nat) (g : Rho → M W Fg) : List T → M W (List T) := fun ts => bnd (g (ts.map Sl.fz ++ List.replicate m Sl.un)) fun fl => match fl with
  | .rl us => ret us
  | _ => stuck
theorem spFL.len {K : PySem.W.Frag} {n : Nat} {Fn : List T → M W (List T)} : ∀ vs H Q E, spFL K n Fn vs H Q E → vs.length = n := fun _ _ _ _ ⟨_, _, _, _, _, _, h, _⟩ => h
theorem spFL.body {n m : Nat} {N : List Str} {g : Rho → M W Fg} {vs : List V} {H : Hp} {Q : VK} (h : spFL X.K n (runL m g) vs H Q E) (hN : N.length = n + m) :
    ∃ (G : Gm W), tG2 X.K G E g { nx := fun _ _ => False, rt := Q } (L2.start N vs) H := by
  obtain ⟨O, F, ts, w, r, w', hl, sub, wok, dF, rs, e, acc⟩ := h
  have hts : ts.length = n := by rw [← rs.length]; exact hl
  have S := Sd.start (K := X.K) (N := N) sub wok dF rs (by omega)
  have hm : N.length - ts.length = m := by omega
  rw [hm] at S
  refine ⟨⟨O, H, F⟩, ts.map Sl.fz ++ List.replicate m Sl.un, w, F, ?_⟩
  have out : ∀ {ρ' : Rho} {σ' : L2.St} {H' F' : Hp} {w' : W}, Sd X.K ⟨O, H, F⟩ ρ' w' σ' H' F' → Same F F' → Out O H F w' H' F' := fun S' s' => ⟨S'.sub, s', S'.old, S'.keep, S'.wok, S'.dF⟩
  rcases bnd_inv e with ⟨fl, w1, h1, h2⟩ | ⟨er, h1, rfl⟩
  · refine ⟨.ok fl, w1, S, h1, ?_⟩
    cases fl with
    | nx ρ' => cases h2
    | rl us =>
      obtain ⟨rfl, rfl⟩ := ret_inv h2
      exact fun p zs ρ' σ' H' F' S' s' hp hF hB rz => acc p zs H' F' (out S' s') hB hp hF rz
  · exact ⟨.er er, w', S, h1, fun d H' F' ρ' σ' S' s' ea => acc d H' F' (out S' s') ea⟩
end
section
variable {W : Type} {P : Program} {w : World} {K : PySem.W.Frag} {mg : Str → Option Value} {base : Heap}
theorem def_okL {x : Str} {st : Stmt} {N ps : List Str} {n m k : Nat} {g : Rho → M W Fg} (D : DefAt K mg x st) (S : FnScope N ps (defScope st)) (hps : ps.length = n) (hN : N.length = n + m)
    (hb : ∀ (kV doc pm : Value) (an : Option Addr) (cdv ct : Value) (us : List Value), us.length = ps.length → bindArgs (PySem.W.fnOf x x (defArgs st) (defBody st) (defScope st) .none kV doc pm an cdv ct) ⟨us, []⟩ = pure (ps.zip us))
    (hbody : ∀ (f : Addr) (cdv : Value) (A : Around) (outer : List PySem.Env) (s : Shared) (H : Hp) (E : XK) (G : Gm W), Room k (A.deeper (envOfC x (defScope st) s.heap.objs.size f cdv)) → (A.deeper (envOfC x (defScope st) s.heap.objs.size f cdv)).guards = some [] →
      PGs (cxOf (L2.CX P w) P w K mg base N x (defScope st) f cdv A outer s H E) G E (defBody st) g) :
    DefOkL (L2.CX P w) P w K mg base (k + 1) x n (runL m g) := by
  obtain ⟨f, fd, Fu, hm⟩ := D.ex
  refine ⟨f, fd, ps, ?_, hm, Fu.kp, Fu.binds hb⟩
  obtain ⟨oc, od, kV, doc, pm, an, cdv, ct, osl, rfl, lk, hcd⟩ := Fu.ex
  have hlen : ∀ vs H Q E, spFL K n (runL m g) vs H Q E → vs.length = ps.length := fun vs H Q E h => by rw [spFL.len _ _ _ _ h, hps]
  refine ⟨hlen, fun A outer s H args us vs Q E hr hgd e0 hbn r hsp => ?_⟩
  have KX : K.In s.heap := e0.mod.kin.keeps fun b o e => (e0.bs b o e).1
  have hkind : ∀ y ∈ ps.zip us, (defScope st).names.lookup y.1 = some .local ∨ ((defScope st).names.lookup y.1 = some .cell ∧ ((cellsFrom (s.heap.objs.size + 1) (defScope st).names []).lookup y.1).isSome = true) := fun ⟨z, v⟩ hy =>
    (S.par z (List.of_mem_zip hy).1).imp id fun q => ⟨q, PySem.W.cellsFrom_some _ _ _ (.inl q)⟩
  refine codeAny_call_function hr.depth (KX _ _ lk) rfl S.co S.gen rfl (PySem.W.codeRec_of KX hcd) (hbn _ _ _ _ (wpAny_newFunctionEnv_cells S.kind hkind fun env he s1 e1 => ?_))
  subst he
  obtain ⟨G, hG⟩ := spFL.body (X := cxOf (L2.CX P w) P w K mg base N x (defScope st) f cdv A outer s H E) (E := E) (N := N) hsp hN
  have I : Inv (cxOf (L2.CX P w) P w K mg base N x (defScope st) f cdv A outer s H E) [] (start N vs) H s1 := inv_start S hr.hd e0 (hlen _ _ _ _ hsp) r e1
  refine ⟨(e0.mod.nolimit.keeps fun b o e => (e0.bs b o e).1).keeps e1.toInCall.keep, codeAny_func (wpAny_mono ((hbody f cdv A outer s H E G (hr.deeper _) hgd).run.run [] s1 (start N vs) H _ I hG) (fun fl s' hs => ?_) fun e s' hs => hs)⟩
  cases fl with
  | ret u =>
    obtain ⟨v, σ', H', J, rv, q⟩ := hs
    exact ⟨v, H', J.os, J.bare, J.base, J.hok, rv, q⟩
  | next =>
    obtain ⟨σ', H', J, q⟩ := hs
    exact q.elim
  | brk =>
    obtain ⟨_, _, _, q⟩ := hs
    exact q.elim
  | cont =>
    obtain ⟨_, _, _, q⟩ := hs
    exact q.elim
end
end PL

set_option maxHeartbeats 4000000
/-! PN: xs.extend(ys), ys a list or a tuple. -/
namespace PySem.PLx
open PySem PySem.AutoSeq1
theorem ext_tup {ys zs : Array Value} {m k : Nat} {q r : Addr} {dd : Option Addr} {sl : Array (Option Value)} (e1 : ¬(!ys.isEmpty && Builtin.List.listTooLong (ys.size + zs.size)) = true)
    (e2 : ys.size ≤ sizeLine) (e3 : ys.size + zs.size ≤ sizeLine + 1) :
    Meets (Builtin.«list.extend» ⟨[.ref q, .ref r], []⟩) fun _ R s =>
      s.heap.get? q = some { cls := .type "list", dict := none, data := .seq ys m, slots := #[] } ∧
      s.heap.get? r = some { cls := .type "tuple", dict := dd, data := .seq zs k, slots := sl } ∧
      R (.ok (.ret Value.none)) { s with heap := s.heap.update q (Obj.mapSeq fun x => x ++ zs), toks := s.toks } :=
  .of_wp fun prog w A R s h => by
    obtain ⟨hp, g, d, tk, os⟩ := s
    obtain ⟨hl, hb, h⟩ := h
    have f1 := idx_int
    have f2 := sub_tuple_tuple
    have f3 := sub_list_list
    have f4 := sub_tuple_list
    have f5 := sub_list_tuple
    have hz' : (ys ++ zs).size ≤ sizeLine + 1 := by rw [Array.size_append]; exact e3
    wp_walk using (wpAny_updateSeq hl rfl (hz := e2) (_hz' := hz')), wpAny_loadPart' hl, wpAny_loadPart' hb
    exact ⟨_, rfl, h⟩
end PySem.PLx
namespace PL
open PySem PySem.Spec PyProof.Rows L2
section
variable {X : Cx}
def rExtB (K : PySem.W.Frag) : V → List V → Hp → VK → Prop := fun x vs H Q => ∃ l b xs zs, x = .ref l ∧ vs = [.ref b] ∧ H l = some (.lst xs) ∧ (H b = some (.lst zs) ∨ SqT K H b zs) ∧ xs.length + zs.length ≤ sizeLine ∧ Q .non (upd H l (.lst (xs ++ zs)))
theorem mt_extB : MtM X "list.extend" (rExtB X.K) := by
  intro pins s σ H x vs v us Q I rx rv h
  obtain ⟨l, b, xs, zs, e1, e2, hH, hB | hB, hz, q⟩ := h
  · exact mt_extend pins s σ H x vs v us Q I rx rv ⟨l, b, xs, zs, e1, e2, hH, hB, hz, q⟩
  · subst e1
    subst e2
    cases rx
    obtain ⟨u, rfl, ru⟩ := rv.one
    cases ru
    obtain ⟨z, its, n, r, hl, e⟩ := I.lstM hH
    obtain ⟨its2, r2, ⟨⟨oc, od, ob, os⟩, g2, c2, n2, d2⟩, _⟩ := I.tuple hB
    have hl2 := r2.length
    have hsz : its.toArray.size + its2.toArray.size ≤ sizeLine := by simp only [List.size_toArray]; omega
    have hlong : ¬ (!its.toArray.isEmpty && Builtin.List.listTooLong (its.toArray.size + its2.toArray.size)) = true := by rw [notLongL hsz, Bool.and_false]; simp
    have c2' : oc = .type "tuple" := c2
    have d2' : ob = .seq its2.toArray n2 := d2
    subst c2'
    subst d2'
    refine call_meets F.slot_list_extend ⟨_, e, rfl⟩ F.entry_list_extend (F.args_list_extend_2 _ _) (PySem.PLx.ext_tup hlong (by simp only [List.size_toArray]; omega) (by omega)) ⟨e, g2, ?_⟩
    exact ⟨.non, _, I.lset (its' := its ++ its2) hH e (by simp) (r.append r2) (by simp only [List.length_append]; omega), rfl, q⟩
end
section
variable {W : Type} {X : Cx} {G : Gm W} {E : XK} {e : Expr} {fa : Rho → M W T} {pos : Pos}
def itsM (t : T) : M W (List T) := match t with
  | .lst ts => ret ts
  | .tup ts => ret ts
  | _ => stuck
/-- xs.extend(e), e a list or a tuple -/
def dExtB (i : Nat) (fa : Rho → M W T) : Rho → M W Fl := fun ρ => owM i ρ fun ts => bnd (fa ρ) fun t => bnd (itsM t) fun us => if ts.length + us.length ≤ sizeLine then ret (.nx (ρ.set i (.ow (ts ++ us)))) else stuck
theorem pd_extB (i : Nat) {x : Str} {px ap cp : Pos} (ha : PVs X G E e fa) (hN : X.N[i]? = some x) (hv : Vis X.env.scope x)
    (hs : swapsWith (.Call (.Attribute (.Name x px) "extend" ap) [e] [] cp) none pos.line X.env = pure false := by rfl) (hst : starEach [e] X.env = (false, eval e X.env) :: starEach [] X.env := by rfl)
    (hpe : ∀ {te : TE}, PE X e te → PE X (.Call (.Attribute (.Name x px) "extend" ap) [e] [] cp) (tBM X.K "list" (rExtB X.K) (tVar i) (tCons te tNil))) :
    PD X G E (.Expr (.Call (.Attribute (.Name x px) "extend" ap) [e] [] cp) pos) (dExtB i fa) := ⟨(ps_expr (hpe ha.run) hs).imp fun D σ H => by
  rintro ⟨ρ, w, F, r, w', S, hf, acc⟩
  obtain ⟨ts, hi, hf⟩ := owM_inv hf
  obtain ⟨p, vs, h0, h1, h2, h3, rv⟩ := S.own hi
  refine ⟨.ref p, h0, .inl ⟨rfl, vs, .of h1⟩, ?_⟩
  refine tVs.bind (X := X) S hf acc.er fun t w1 y H1 F1 S1 s1 r1 hk => ?_
  have h1' : H1 p = some (.lst vs) := s1.keep p _ h1 (S.ndB h3)
  cases t with
  | lst us =>
    obtain ⟨b, zs, rfl, hb, rz⟩ := r1.lst S1
    have hk2 : (if ts.length + us.length ≤ sizeLine then ret (.nx (ρ.set i (.ow (ts ++ us)))) else stuck : M W Fl) w1 = some (r, w') := hk
    split at hk2
    · rename_i hl
      obtain ⟨rfl, rfl⟩ := ret_inv hk2
      exact ⟨p, b, vs, zs, rfl, rfl, h1', .inl hb, by rw [rv.length, rz.length]; exact hl, acc _ _ F1 (S1.putL hi h0 h1' ((rv.mono s1.same).append rz)) s1.same⟩
    · cases hk2
  | tup us =>
    obtain ⟨b, zs, rfl, _, hb, rz⟩ := r1.tup S1
    have hk2 : (if ts.length + us.length ≤ sizeLine then ret (.nx (ρ.set i (.ow (ts ++ us)))) else stuck : M W Fl) w1 = some (r, w') := hk
    split at hk2
    · rename_i hl
      obtain ⟨rfl, rfl⟩ := ret_inv hk2
      exact ⟨p, b, vs, zs, rfl, rfl, h1', .inr hb, by rw [rv.length, rz.length]; exact hl, acc _ _ F1 (S1.putL hi h0 h1' ((rv.mono s1.same).append rz)) s1.same⟩
    · cases hk2
  | _ => cases hk⟩
end
end PL

set_option maxHeartbeats 4000000
namespace PL
open PySem PySem.Spec PyProof.Rows L2
def top (i : Nat) : Stmt := PySem.Challenge.pw_nextsteps_k06_plain_forms.main.body.getD i (.Pass ⟨0, 0, 0, 0⟩)
def c_LETTERS : T := .str "abcdefghijklmnopqrstuvwxyz"
def c_MOST_LETTERS : T := .int 6
def c_MOST_STEPS : T := .int 10
def c_JOINS : T := .tup [.str "behind", .str "either", .str "beside"]
structure Cs where
  Form : Addr
  Form___init__ : Addr
  Form_told : Addr
  Form_told_rec : Addr
  Form_of : Addr
  Form_of_rec : Addr
  Form___eq__ : Addr
def ns_Form : List Str := ["own_told", "own_steps"]
structure Txt (K : PySem.W.Frag) (mg : Str → Option Value) (c : Cs) : Prop where
  c_LETTERS : ConstAt K mg "LETTERS" c_LETTERS
  c_MOST_LETTERS : ConstAt K mg "MOST_LETTERS" c_MOST_LETTERS
  c_MOST_STEPS : ConstAt K mg "MOST_STEPS" c_MOST_STEPS
  c_JOINS : ConstAt K mg "JOINS" c_JOINS
  n_all : mg "all" = none
  n_int : mg "int" = none
  n_isinstance : mg "isinstance" = none
  n_len : mg "len" = none
  n_list : mg "list" = none
  n_min : mg "min" = none
  n_range : mg "range" = none
  n_repr : mg "repr" = none
  n_sorted : mg "sorted" = none
  n_str : mg "str" = none
  n_tuple : mg "tuple" = none
  cls_Form : ClsF K c.Form ns_Form
  m_Form : mg "Form" = some (.ref c.Form)
  ne_Form : PySem.W.findIn K (.ref c.Form) "__ne__" = some (some (.builtin "object.__ne__"))
  mk_Form : Mk K c.Form c.Form___init__
  p_Form_told : PropOf K c.Form "told" c.Form_told_rec c.Form_told
  s_Form_of : SmM K c.Form "of" c.Form_of_rec c.Form_of
  s_Form___eq__ : SpecM K c.Form "__eq__" c.Form___eq__
abbrev s_is_step : Stmt := top 12
theorem sc_is_step : FnScope ["thing", "letter"] ["thing"] (defScope s_is_step) := ⟨rfl, rfl, rfl, by decide +kernel, rfl, by decide +kernel, by decide +kernel⟩
noncomputable def g_is_step {W : Type} (c : Cs) : Rho → M W Fl := (seqD (dIf (bOr (bNot (fB (f1 (isaT "str") (fVar 0)))) (bNot (fB (fChain (ltT fun i j => decide (i ≤ j)) (ltT fun i j => decide (i ≤ j)) (fC (.int 1)) (f1 lenT (fVar 0)) (fC c_MOST_LETTERS))))) (dRet (fC (.bl false))) (fun ρ => ret (.nx ρ))) (dRet (f1 allT (asL (fLc (fItems (fVar 0)) [1] (gN 1) tYesM (f2 (inT false) (fVar 1) (fC c_LETTERS)))))))
noncomputable def F_is_step {W : Type} (c : Cs) : List T → M W T := run 1 (g_is_step c)
theorem ok_is_step {P : Program} {w : World} {K : PySem.W.Frag} {mg : Str → Option Value} {base : Heap} {c : Cs} {W : Type} (TX : Txt K mg c) (D : DefAt K mg "is_step" s_is_step)  : DefOk (L2.CX P w) P w K mg base 1 "is_step" 1 (F_is_step c : List T → M W T) := by
  refine def_ok (k := 0) D sc_is_step rfl rfl (fun _ _ _ _ _ _ us hl => match us, hl with | [_], _ => rfl) fun f cdv A outer s H E G hr hgd => ?_
  · show PDs _ G E (defBody s_is_step) (g_is_step c)
    have hu := hu200 hr
    have hu1 := hu_of hr
    have sc := sc_is_step
    have hp : PassesOwn _ _ _ _ := passes_of (K := fun e s'' => L2.CX P w outer H s E e s'') (X := (cxOf (L2.CX P w) P w K mg base ["thing", "letter"] "is_step" (defScope s_is_step) f cdv A outer s H E)) rfl
    have hx : Passes (L2.CX P w) (cxOf (L2.CX P w) P w K mg base ["thing", "letter"] "is_step" (defScope s_is_step) f cdv A outer s H E) E := passes_call (takes_of rfl rfl rfl rfl) fun _ _ _ _ h => h
    exact (pds_cons (pd_if (pbw_or (pb_not (pb_val (pv_isa (by rfl) TX.n_isinstance (by rfl) TX.n_str (by decide +kernel) ((pvv 0)).sh))) (pbw_or1 (pb_not (pb_chain op_le op_le cmpG cmpG (pv_int).sh ((pv_b1 call_lenA lenG (by rfl) TX.n_len PySem.boot_len ((pvv 0)).sh)).sh ((pv_gl TX.c_MOST_LETTERS)).sh)))).pb (pds_one (pd_ret pv_bl)) pds_nil) (pds_one (pd_ret (pv_b1 (cr_all rfl) allG (by rfl) TX.n_all boot_all ((pf_lc (own := [("letter", 1)]) (is := [1]) rfl sc.nd (pit_seq (pvv 0)) (blkOk_by (N := ["thing", "letter"]) (sc := defScope s_is_step) (by decide +kernel)) ⟨fun _ _ _ _ _ => (pgt_name 1 sc.nd rfl (Or.inl rfl)), fun _ _ _ _ _ => pts_nilM, fun _ _ _ _ _ => (pv_in hu ((pvv 1)).sh ((pv_gl TX.c_LETTERS)).sh)⟩ (by decide))).sh))))

abbrev s_is_told : Stmt := top 13
theorem sc_is_told : FnScope ["thing", "part"] ["thing"] (defScope s_is_told) := ⟨rfl, rfl, rfl, by decide +kernel, rfl, by decide +kernel, by decide +kernel⟩
noncomputable def g_is_told {W : Type} (c : Cs) (rec : List T → M W T) : Rho → M W Fl := (seqD (dIf (fB (f1 (isaT "str") (fVar 0))) (dRet (fCall 1 (aCons (fVar 0) aNil) (F_is_step c))) (fun ρ => ret (.nx ρ))) (seqD (dIf (bOr (bNot (fB (f1 (isaT "tuple") (fVar 0)))) (bOr (fB (f2 (ltT fun i j => decide (i < j)) (f1 lenT (fVar 0)) (fC (.int 2)))) (bNot (fB (f1 (isaT "str") (f2 ixT (fVar 0) (fC (.int 0)))))))) (dRet (fC (.bl false))) (fun ρ => ret (.nx ρ))) (seqD (dIf (fB (f2 (eqT false) (f2 ixT (fVar 0) (fC (.int 0))) (fC (.str "again")))) (dRet (fAnd (f2 (eqT false) (f1 lenT (fVar 0)) (fC (.int 3))) (fAnd (fCall 1 (aCons (f2 ixT (fVar 0) (fC (.int 1))) aNil) rec) (fCall 1 (aCons (f2 ixT (fVar 0) (fC (.int 2))) aNil) rec)))) (fun ρ => ret (.nx ρ))) (seqD (dIf (bOr (fB (f2 (inT true) (f2 ixT (fVar 0) (fC (.int 0))) (fC c_JOINS))) (bOr (fB (f2 (eqT true) (f1 lenT (fVar 0)) (fC (.int 2)))) (bOr (bNot (fB (f1 (isaT "tuple") (f2 ixT (fVar 0) (fC (.int 1)))))) (fB (f2 (ltT fun i j => decide (i < j)) (f1 lenT (f2 ixT (fVar 0) (fC (.int 1)))) (fC (.int 2))))))) (dRet (fC (.bl false))) (fun ρ => ret (.nx ρ))) (dRet (f1 allT (asL (fLc (fItems (f2 ixT (fVar 0) (fC (.int 1)))) [1] (gN 1) tYesM (fCall 1 (aCons (fVar 1) aNil) rec)))))))))
noncomputable def F_is_told {W : Type} (c : Cs) : Nat → List T → M W T
  | 0 => fun _ => stuck
  | n + 1 => run 1 (g_is_told c (F_is_told c n))
theorem ok_is_told {P : Program} {w : World} {K : PySem.W.Frag} {mg : Str → Option Value} {base : Heap} {c : Cs} {W : Type} (TX : Txt K mg c) (D : DefAt K mg "is_told" s_is_told) (D_is_step : DefOk (L2.CX P w) P w K mg base 1 "is_step" 1 ((F_is_step c) : List T → M W T)) : ∀ n, DefOk (L2.CX P w) P w K mg base (1 + n) "is_told" 1 (F_is_told c n : List T → M W T)
  | 0 => def_stuck (ps := ["thing"]) D rfl (fun _ _ _ _ _ _ us hl => match us, hl with | [_], _ => rfl)
  | n + 1 => by
    have D_is_told := ok_is_told (P := P) (w := w) (base := base) (W := W) TX D D_is_step n
    refine def_ok (k := 1 + n) D sc_is_told rfl rfl (fun _ _ _ _ _ _ us hl => match us, hl with | [_], _ => rfl) fun f cdv A outer s H E G hr hgd => ?_
    show PDs _ G E (defBody s_is_told) (g_is_told c (F_is_told c n))
    have hu := hu200 hr
    have hu1 := hu_of hr
    have sc := sc_is_told
    have hp : PassesOwn _ _ _ _ := passes_of (K := fun e s'' => L2.CX P w outer H s E e s'') (X := (cxOf (L2.CX P w) P w K mg base ["thing", "part"] "is_told" (defScope s_is_told) f cdv A outer s H E)) rfl
    have hx : Passes (L2.CX P w) (cxOf (L2.CX P w) P w K mg base ["thing", "part"] "is_told" (defScope s_is_told) f cdv A outer s H E) E := passes_call (takes_of rfl rfl rfl rfl) fun _ _ _ _ h => h
    exact (pds_cons (pd_if (pb_val (pv_isa (by rfl) TX.n_isinstance (by rfl) TX.n_str (by decide +kernel) ((pvv 0)).sh)) (pds_one (pd_ret (pv_call D_is_step hr hgd (by omega) (by rfl) hx (pas_cons (pvv 0) pas_nil)))) pds_nil) (pds_cons (pd_if (pbw_or (pb_not (pb_val (pv_isa (by rfl) TX.n_isinstance (by rfl) TX.n_tuple (by decide +kernel) ((pvv 0)).sh))) (pbw_or (pb_lt ((pv_b1 call_lenA lenG (by rfl) TX.n_len PySem.boot_len ((pvv 0)).sh)).sh (pv_int).sh) (pbw_or1 (pb_not (pb_val (pv_isa (by rfl) TX.n_isinstance (by rfl) TX.n_str (by decide +kernel) ((pv_ix ((pvv 0)).sh (pv_int).sh)).sh)))))).pb (pds_one (pd_ret pv_bl)) pds_nil) (pds_cons (pd_if (pb_eq hu ((pv_ix ((pvv 0)).sh (pv_int).sh)).sh (pv_str).sh) (pds_one (pd_ret (pv_and (pv_eq hu ((pv_b1 call_lenA lenG (by rfl) TX.n_len PySem.boot_len ((pvv 0)).sh)).sh (pv_int).sh) (pv_and (pv_call D_is_told hr hgd (by omega) (by rfl) hx (pas_cons (pv_ix ((pvv 0)).sh (pv_int).sh) pas_nil)) (pv_one (pv_call D_is_told hr hgd (by omega) (by rfl) hx (pas_cons (pv_ix ((pvv 0)).sh (pv_int).sh) pas_nil))))))) pds_nil) (pds_cons (pd_if (pbw_or (pb_notIn hu ((pv_ix ((pvv 0)).sh (pv_int).sh)).sh ((pv_gl TX.c_JOINS)).sh) (pbw_or (pb_ne hu ((pv_b1 call_lenA lenG (by rfl) TX.n_len PySem.boot_len ((pvv 0)).sh)).sh (pv_int).sh) (pbw_or (pb_not (pb_val (pv_isa (by rfl) TX.n_isinstance (by rfl) TX.n_tuple (by decide +kernel) ((pv_ix ((pvv 0)).sh (pv_int).sh)).sh))) (pbw_or1 (pb_lt ((pv_b1 call_lenA lenG (by rfl) TX.n_len PySem.boot_len ((pv_ix ((pvv 0)).sh (pv_int).sh)).sh)).sh (pv_int).sh))))).pb (pds_one (pd_ret pv_bl)) pds_nil) (pds_one (pd_ret (pv_b1 (cr_all rfl) allG (by rfl) TX.n_all boot_all ((pf_lc (own := [("part", 1)]) (is := [1]) rfl sc.nd (pit_seq (pv_ix ((pvv 0)).sh (pv_int).sh)) (blkOk_by (N := ["thing", "part"]) (sc := defScope s_is_told) (by decide +kernel)) ⟨fun _ _ _ _ _ => (pgt_name 1 sc.nd rfl (Or.inl rfl)), fun _ _ _ _ _ => pts_nilM, fun _ _ _ _ _ => (pv_call D_is_told hr hgd (by omega) (by rfl) passL (pas_cons (pvv 1) pas_nil))⟩ (by decide))).sh)))))))

abbrev s_parts_of : Stmt := top 14
theorem sc_parts_of : FnScope ["told"] ["told"] (defScope s_parts_of) := ⟨rfl, rfl, rfl, by decide +kernel, rfl, by decide +kernel, by decide +kernel⟩
noncomputable def g_parts_of {W : Type} (c : Cs) : Rho → M W Fl := (dRet (fIf (fB (f2 (eqT false) (f2 ixT (fVar 0) (fC (.int 0))) (fC (.str "again")))) (fSlice (fVar 0) (fPart (fC (.int 1))) fNoPart) (f2 ixT (fVar 0) (fC (.int 1)))))
noncomputable def F_parts_of {W : Type} (c : Cs) : List T → M W T := run 0 (g_parts_of c)
theorem ok_parts_of {P : Program} {w : World} {K : PySem.W.Frag} {mg : Str → Option Value} {base : Heap} {c : Cs} {W : Type} (TX : Txt K mg c) (D : DefAt K mg "parts_of" s_parts_of)  : DefOk (L2.CX P w) P w K mg base 1 "parts_of" 1 (F_parts_of c : List T → M W T) := by
  refine def_ok (k := 0) D sc_parts_of rfl rfl (fun _ _ _ _ _ _ us hl => match us, hl with | [_], _ => rfl) fun f cdv A outer s H E G hr hgd => ?_
  · show PDs _ G E (defBody s_parts_of) (g_parts_of c)
    have hu := hu200 hr
    have hu1 := hu_of hr
    have sc := sc_parts_of
    have hp : PassesOwn _ _ _ _ := passes_of (K := fun e s'' => L2.CX P w outer H s E e s'') (X := (cxOf (L2.CX P w) P w K mg base ["told"] "parts_of" (defScope s_parts_of) f cdv A outer s H E)) rfl
    have hx : Passes (L2.CX P w) (cxOf (L2.CX P w) P w K mg base ["told"] "parts_of" (defScope s_parts_of) f cdv A outer s H E) E := passes_call (takes_of rfl rfl rfl rfl) fun _ _ _ _ h => h
    exact (pds_one (pd_ret (pv_if (pb_eq hu ((pv_ix ((pvv 0)).sh (pv_int).sh)).sh (pv_str).sh) (pv_slice ((pvv 0)).sh (pp_some pv_int) pp_none) (pv_ix ((pvv 0)).sh (pv_int).sh))))

abbrev s_steps_in : Stmt := top 15
theorem sc_steps_in : FnScope ["told", "part", "step"] ["told"] (defScope s_steps_in) := ⟨rfl, rfl, rfl, by decide +kernel, rfl, by decide +kernel, by decide +kernel⟩
noncomputable def g_steps_in {W : Type} (c : Cs) (rec : List T → M W T) : Rho → M W Fl := (seqD (dIf (fB (f1 (isaT "str") (fVar 0))) (dRet (asL (fLst (aCons (fVar 0) aNil)))) (fun ρ => ret (.nx ρ))) (dRet (asL (fLc2 (fItems (fCall 1 (aCons (fVar 0) aNil) (F_parts_of c))) [1, 2] (gN 1) (fItems (fCall 1 (aCons (fVar 1) aNil) rec)) [2] (gN 2) tYesM (fVar 2)))))
noncomputable def F_steps_in {W : Type} (c : Cs) : Nat → List T → M W T
  | 0 => fun _ => stuck
  | n + 1 => run 2 (g_steps_in c (F_steps_in c n))
theorem ok_steps_in {P : Program} {w : World} {K : PySem.W.Frag} {mg : Str → Option Value} {base : Heap} {c : Cs} {W : Type} (TX : Txt K mg c) (D : DefAt K mg "steps_in" s_steps_in) (D_parts_of : DefOk (L2.CX P w) P w K mg base 1 "parts_of" 1 ((F_parts_of c) : List T → M W T)) : ∀ n, DefOk (L2.CX P w) P w K mg base (1 + n) "steps_in" 1 (F_steps_in c n : List T → M W T)
  | 0 => def_stuck (ps := ["told"]) D rfl (fun _ _ _ _ _ _ us hl => match us, hl with | [_], _ => rfl)
  | n + 1 => by
    have D_steps_in := ok_steps_in (P := P) (w := w) (base := base) (W := W) TX D D_parts_of n
    refine def_ok (k := 1 + n) D sc_steps_in rfl rfl (fun _ _ _ _ _ _ us hl => match us, hl with | [_], _ => rfl) fun f cdv A outer s H E G hr hgd => ?_
    show PDs _ G E (defBody s_steps_in) (g_steps_in c (F_steps_in c n))
    have hu := hu200 hr
    have hu1 := hu_of hr
    have sc := sc_steps_in
    have hp : PassesOwn _ _ _ _ := passes_of (K := fun e s'' => L2.CX P w outer H s E e s'') (X := (cxOf (L2.CX P w) P w K mg base ["told", "part", "step"] "steps_in" (defScope s_steps_in) f cdv A outer s H E)) rfl
    have hx : Passes (L2.CX P w) (cxOf (L2.CX P w) P w K mg base ["told", "part", "step"] "steps_in" (defScope s_steps_in) f cdv A outer s H E) E := passes_call (takes_of rfl rfl rfl rfl) fun _ _ _ _ h => h
    exact (pds_cons (pd_if (pb_val (pv_isa (by rfl) TX.n_isinstance (by rfl) TX.n_str (by decide +kernel) ((pvv 0)).sh)) (pds_one (pd_ret ((pf_lst (pas_cons (pvv 0) pas_nil))).dp)) pds_nil) (pds_one (pd_ret ((pf_lc2 (own := [("part", 1), ("step", 2)]) (is := [1]) (is1 := [2]) rfl sc.nd (pit_seq (pv_call D_parts_of hr hgd (by omega) (by rfl) hx (pas_cons (pvv 0) pas_nil))) (blkOk_by (N := ["told", "part", "step"]) (sc := defScope s_steps_in) (by decide +kernel)) ⟨fun _ _ _ _ _ => (pgt_name 1 sc.nd rfl (Or.inl rfl)), fun _ _ _ _ _ => (pit_seq (pv_call D_steps_in hr hgd (by omega) (by rfl) passL (pas_cons (pvv 1) pas_nil))), fun _ _ _ _ _ => (pgt_name 2 sc.nd rfl (Or.inl rfl)), fun _ _ _ _ _ => pts_nilM, fun _ _ _ _ _ => (pvv 2)⟩ noOwn_gN (by decide) (by decide))).dp)))

abbrev s_begins_in : Stmt := top 16
theorem sc_begins_in : FnScope ["told", "part", "step"] ["told"] (defScope s_begins_in) := ⟨rfl, rfl, rfl, by decide +kernel, rfl, by decide +kernel, by decide +kernel⟩
noncomputable def g_begins_in {W : Type} (c : Cs) (rec : List T → M W T) : Rho → M W Fl := (seqD (dIf (fB (f1 (isaT "str") (fVar 0))) (dRet (asL (fLst (aCons (fVar 0) aNil)))) (fun ρ => ret (.nx ρ))) (seqD (dIf (fB (f2 (eqT false) (f2 ixT (fVar 0) (fC (.int 0))) (fC (.str "behind")))) (dRet (fCall 1 (aCons (f2 ixT (f2 ixT (fVar 0) (fC (.int 1))) (fC (.int 0))) aNil) rec)) (fun ρ => ret (.nx ρ))) (seqD (dIf (fB (f2 (eqT false) (f2 ixT (fVar 0) (fC (.int 0))) (fC (.str "again")))) (dRet (fCall 1 (aCons (f2 ixT (fVar 0) (fC (.int 1))) aNil) rec)) (fun ρ => ret (.nx ρ))) (dRet (asL (fLc2 (fItems (f2 ixT (fVar 0) (fC (.int 1)))) [1, 2] (gN 1) (fItems (fCall 1 (aCons (fVar 1) aNil) rec)) [2] (gN 2) tYesM (fVar 2)))))))
noncomputable def F_begins_in {W : Type} (c : Cs) : Nat → List T → M W T
  | 0 => fun _ => stuck
  | n + 1 => run 2 (g_begins_in c (F_begins_in c n))
theorem ok_begins_in {P : Program} {w : World} {K : PySem.W.Frag} {mg : Str → Option Value} {base : Heap} {c : Cs} {W : Type} (TX : Txt K mg c) (D : DefAt K mg "begins_in" s_begins_in)  : ∀ n, DefOk (L2.CX P w) P w K mg base (0 + n) "begins_in" 1 (F_begins_in c n : List T → M W T)
  | 0 => def_stuck (ps := ["told"]) D rfl (fun _ _ _ _ _ _ us hl => match us, hl with | [_], _ => rfl)
  | n + 1 => by
    have D_begins_in := ok_begins_in (P := P) (w := w) (base := base) (W := W) TX D  n
    refine def_ok (k := 0 + n) D sc_begins_in rfl rfl (fun _ _ _ _ _ _ us hl => match us, hl with | [_], _ => rfl) fun f cdv A outer s H E G hr hgd => ?_
    show PDs _ G E (defBody s_begins_in) (g_begins_in c (F_begins_in c n))
    have hu := hu200 hr
    have hu1 := hu_of hr
    have sc := sc_begins_in
    have hp : PassesOwn _ _ _ _ := passes_of (K := fun e s'' => L2.CX P w outer H s E e s'') (X := (cxOf (L2.CX P w) P w K mg base ["told", "part", "step"] "begins_in" (defScope s_begins_in) f cdv A outer s H E)) rfl
    have hx : Passes (L2.CX P w) (cxOf (L2.CX P w) P w K mg base ["told", "part", "step"] "begins_in" (defScope s_begins_in) f cdv A outer s H E) E := passes_call (takes_of rfl rfl rfl rfl) fun _ _ _ _ h => h
    exact (pds_cons (pd_if (pb_val (pv_isa (by rfl) TX.n_isinstance (by rfl) TX.n_str (by decide +kernel) ((pvv 0)).sh)) (pds_one (pd_ret ((pf_lst (pas_cons (pvv 0) pas_nil))).dp)) pds_nil) (pds_cons (pd_if (pb_eq hu ((pv_ix ((pvv 0)).sh (pv_int).sh)).sh (pv_str).sh) (pds_one (pd_ret (pv_call D_begins_in hr hgd (by omega) (by rfl) hx (pas_cons (pv_ix ((pv_ix ((pvv 0)).sh (pv_int).sh)).sh (pv_int).sh) pas_nil)))) pds_nil) (pds_cons (pd_if (pb_eq hu ((pv_ix ((pvv 0)).sh (pv_int).sh)).sh (pv_str).sh) (pds_one (pd_ret (pv_call D_begins_in hr hgd (by omega) (by rfl) hx (pas_cons (pv_ix ((pvv 0)).sh (pv_int).sh) pas_nil)))) pds_nil) (pds_one (pd_ret ((pf_lc2 (own := [("part", 1), ("step", 2)]) (is := [1]) (is1 := [2]) rfl sc.nd (pit_seq (pv_ix ((pvv 0)).sh (pv_int).sh)) (blkOk_by (N := ["told", "part", "step"]) (sc := defScope s_begins_in) (by decide +kernel)) ⟨fun _ _ _ _ _ => (pgt_name 1 sc.nd rfl (Or.inl rfl)), fun _ _ _ _ _ => (pit_seq (pv_call D_begins_in hr hgd (by omega) (by rfl) passL (pas_cons (pvv 1) pas_nil))), fun _ _ _ _ _ => (pgt_name 2 sc.nd rfl (Or.inl rfl)), fun _ _ _ _ _ => pts_nilM, fun _ _ _ _ _ => (pvv 2)⟩ noOwn_gN (by decide) (by decide))).dp)))))

abbrev s_ends_in : Stmt := top 17
theorem sc_ends_in : FnScope ["told", "part", "step"] ["told"] (defScope s_ends_in) := ⟨rfl, rfl, rfl, by decide +kernel, rfl, by decide +kernel, by decide +kernel⟩
noncomputable def g_ends_in {W : Type} (c : Cs) (rec : List T → M W T) : Rho → M W Fl := (seqD (dIf (fB (f1 (isaT "str") (fVar 0))) (dRet (asL (fLst (aCons (fVar 0) aNil)))) (fun ρ => ret (.nx ρ))) (seqD (dIf (fB (f2 (eqT false) (f2 ixT (fVar 0) (fC (.int 0))) (fC (.str "behind")))) (dRet (fCall 1 (aCons (f2 ixT (f2 ixT (fVar 0) (fC (.int 1))) (f1 negT (fC (.int 1)))) aNil) rec)) (fun ρ => ret (.nx ρ))) (seqD (dIf (fB (f2 (eqT false) (f2 ixT (fVar 0) (fC (.int 0))) (fC (.str "again")))) (dRet (fCall 1 (aCons (f2 ixT (fVar 0) (fC (.int 1))) aNil) rec)) (fun ρ => ret (.nx ρ))) (dRet (asL (fLc2 (fItems (f2 ixT (fVar 0) (fC (.int 1)))) [1, 2] (gN 1) (fItems (fCall 1 (aCons (fVar 1) aNil) rec)) [2] (gN 2) tYesM (fVar 2)))))))
noncomputable def F_ends_in {W : Type} (c : Cs) : Nat → List T → M W T
  | 0 => fun _ => stuck
  | n + 1 => run 2 (g_ends_in c (F_ends_in c n))
theorem ok_ends_in {P : Program} {w : World} {K : PySem.W.Frag} {mg : Str → Option Value} {base : Heap} {c : Cs} {W : Type} (TX : Txt K mg c) (D : DefAt K mg "ends_in" s_ends_in)  : ∀ n, DefOk (L2.CX P w) P w K mg base (0 + n) "ends_in" 1 (F_ends_in c n : List T → M W T)
  | 0 => def_stuck (ps := ["told"]) D rfl (fun _ _ _ _ _ _ us hl => match us, hl with | [_], _ => rfl)
  | n + 1 => by
    have D_ends_in := ok_ends_in (P := P) (w := w) (base := base) (W := W) TX D  n
    refine def_ok (k := 0 + n) D sc_ends_in rfl rfl (fun _ _ _ _ _ _ us hl => match us, hl with | [_], _ => rfl) fun f cdv A outer s H E G hr hgd => ?_
    show PDs _ G E (defBody s_ends_in) (g_ends_in c (F_ends_in c n))
    have hu := hu200 hr
    have hu1 := hu_of hr
    have sc := sc_ends_in
    have hp : PassesOwn _ _ _ _ := passes_of (K := fun e s'' => L2.CX P w outer H s E e s'') (X := (cxOf (L2.CX P w) P w K mg base ["told", "part", "step"] "ends_in" (defScope s_ends_in) f cdv A outer s H E)) rfl
    have hx : Passes (L2.CX P w) (cxOf (L2.CX P w) P w K mg base ["told", "part", "step"] "ends_in" (defScope s_ends_in) f cdv A outer s H E) E := passes_call (takes_of rfl rfl rfl rfl) fun _ _ _ _ h => h
    exact (pds_cons (pd_if (pb_val (pv_isa (by rfl) TX.n_isinstance (by rfl) TX.n_str (by decide +kernel) ((pvv 0)).sh)) (pds_one (pd_ret ((pf_lst (pas_cons (pvv 0) pas_nil))).dp)) pds_nil) (pds_cons (pd_if (pb_eq hu ((pv_ix ((pvv 0)).sh (pv_int).sh)).sh (pv_str).sh) (pds_one (pd_ret (pv_call D_ends_in hr hgd (by omega) (by rfl) hx (pas_cons (pv_ix ((pv_ix ((pvv 0)).sh (pv_int).sh)).sh ((pv_neg pv_int)).sh) pas_nil)))) pds_nil) (pds_cons (pd_if (pb_eq hu ((pv_ix ((pvv 0)).sh (pv_int).sh)).sh (pv_str).sh) (pds_one (pd_ret (pv_call D_ends_in hr hgd (by omega) (by rfl) hx (pas_cons (pv_ix ((pvv 0)).sh (pv_int).sh) pas_nil)))) pds_nil) (pds_one (pd_ret ((pf_lc2 (own := [("part", 1), ("step", 2)]) (is := [1]) (is1 := [2]) rfl sc.nd (pit_seq (pv_ix ((pvv 0)).sh (pv_int).sh)) (blkOk_by (N := ["told", "part", "step"]) (sc := defScope s_ends_in) (by decide +kernel)) ⟨fun _ _ _ _ _ => (pgt_name 1 sc.nd rfl (Or.inl rfl)), fun _ _ _ _ _ => (pit_seq (pv_call D_ends_in hr hgd (by omega) (by rfl) passL (pas_cons (pvv 1) pas_nil))), fun _ _ _ _ _ => (pgt_name 2 sc.nd rfl (Or.inl rfl)), fun _ _ _ _ _ => pts_nilM, fun _ _ _ _ _ => (pvv 2)⟩ noOwn_gN (by decide) (by decide))).dp)))))

abbrev s_need_bodies : Stmt := top 18
theorem sc_need_bodies : FnScope ["told", "part", "both", "step"] ["told"] (defScope s_need_bodies) := ⟨rfl, rfl, rfl, by decide +kernel, rfl, by decide +kernel, by decide +kernel⟩
noncomputable def g_need_bodies {W : Type} (c : Cs) (rec : List T → M W T) : Rho → M W Fl := (seqD (dIf (fB (f1 (isaT "str") (fVar 0))) (fun _ => ret (.rt .non)) (fun ρ => ret (.nx ρ))) (seqD (dFor (fItems (fCall 1 (aCons (fVar 0) aNil) (F_parts_of c))) (gN 1) (dExpr (fCall 1 (aCons (fVar 1) aNil) rec))) (dIf (fB (f2 (eqT false) (f2 ixT (fVar 0) (fC (.int 0))) (fC (.str "again")))) (seqD (dSet 2 (xFz (asL (fLc (fItems (fCall 1 (aCons (f2 ixT (fVar 0) (fC (.int 1))) aNil) (F_begins_in c 30))) [3] (gN 3) (fB (f2 (inT false) (fVar 3) (fCall 1 (aCons (f2 ixT (fVar 0) (fC (.int 1))) aNil) (F_ends_in c 30)))) (fVar 3))))) (dIf (fB (f2 (eqT true) (fVar 2) (asL (fLst aNil)))) (fun _ => stuck) (fun ρ => ret (.nx ρ)))) (fun ρ => ret (.nx ρ)))))
noncomputable def F_need_bodies {W : Type} (c : Cs) : Nat → List T → M W T
  | 0 => fun _ => stuck
  | n + 1 => run 3 (g_need_bodies c (F_need_bodies c n))
theorem ok_need_bodies {P : Program} {w : World} {K : PySem.W.Frag} {mg : Str → Option Value} {base : Heap} {c : Cs} {W : Type} (TX : Txt K mg c) (D : DefAt K mg "need_bodies" s_need_bodies) (D_parts_of : DefOk (L2.CX P w) P w K mg base 1 "parts_of" 1 ((F_parts_of c) : List T → M W T)) (D_begins_in : DefOk (L2.CX P w) P w K mg base 30 "begins_in" 1 ((F_begins_in c 30) : List T → M W T)) (D_ends_in : DefOk (L2.CX P w) P w K mg base 30 "ends_in" 1 ((F_ends_in c 30) : List T → M W T)) : ∀ n, DefOk (L2.CX P w) P w K mg base (30 + n) "need_bodies" 1 (F_need_bodies c n : List T → M W T)
  | 0 => def_stuck (ps := ["told"]) D rfl (fun _ _ _ _ _ _ us hl => match us, hl with | [_], _ => rfl)
  | n + 1 => by
    have D_need_bodies := ok_need_bodies (P := P) (w := w) (base := base) (W := W) TX D D_parts_of D_begins_in D_ends_in n
    refine def_ok (k := 30 + n) D sc_need_bodies rfl rfl (fun _ _ _ _ _ _ us hl => match us, hl with | [_], _ => rfl) fun f cdv A outer s H E G hr hgd => ?_
    show PDs _ G E (defBody s_need_bodies) (g_need_bodies c (F_need_bodies c n))
    have hu := hu200 hr
    have hu1 := hu_of hr
    have sc := sc_need_bodies
    have hp : PassesOwn _ _ _ _ := passes_of (K := fun e s'' => L2.CX P w outer H s E e s'') (X := (cxOf (L2.CX P w) P w K mg base ["told", "part", "both", "step"] "need_bodies" (defScope s_need_bodies) f cdv A outer s H E)) rfl
    have hx : Passes (L2.CX P w) (cxOf (L2.CX P w) P w K mg base ["told", "part", "both", "step"] "need_bodies" (defScope s_need_bodies) f cdv A outer s H E) E := passes_call (takes_of rfl rfl rfl rfl) fun _ _ _ _ h => h
    exact (pds_cons (pd_if (pb_val (pv_isa (by rfl) TX.n_isinstance (by rfl) TX.n_str (by decide +kernel) ((pvv 0)).sh)) (pds_one pd_retN) pds_nil) (pds_cons (pd_for hp rfl (pit_seq (pv_call D_parts_of hr hgd (by omega) (by rfl) hx (pas_cons (pvv 0) pas_nil))) (pgt_name 1 sc.nd rfl (Or.inl rfl)) (pds_one (pd_expr (pv_call D_need_bodies hr hgd (by omega) (by rfl) hx (pas_cons (pvv 1) pas_nil))))) (pds_one (pd_if (pb_eq hu ((pv_ix ((pvv 0)).sh (pv_int).sh)).sh (pv_str).sh) (pds_cons (pd_setLcF (i := 2) (own := [("step", 3)]) (is := [3]) rfl sc.nd rfl rfl (sw_true rfl rfl rfl (by decide +kernel)) (pit_seq (pv_call D_begins_in hr hgd (by omega) (by rfl) hx (pas_cons (pv_ix ((pvv 0)).sh (pv_int).sh) pas_nil))) (blkOk_by (N := ["told", "part", "both", "step"]) (sc := defScope s_need_bodies) (by decide +kernel)) ⟨fun _ _ _ _ _ => (pgt_name 3 sc.nd rfl (Or.inl rfl)), fun _ _ _ _ _ => (pts_oneM (pb_in hu ((pvv 3)).sh ((pv_call D_ends_in hr hgd (by omega) (by rfl) passL (pas_cons (pv_ix ((pvv 0)).sh (pv_int).sh) pas_nil))).sh)), fun _ _ _ _ _ => (pvv 3)⟩ (by decide)) (pds_one (pd_if (pb_ne hu ((pvv 2)).sh ((pf_lst pas_nil)).sh) (pds_one pd_never) pds_nil))) pds_nil))))

abbrev s_need_steps : Stmt := top 19
theorem sc_need_steps : FnScope ["counts", "twice", "step"] ["counts"] (defScope s_need_steps) := ⟨rfl, rfl, rfl, by decide +kernel, rfl, by decide +kernel, by decide +kernel⟩
noncomputable def g_need_steps {W : Type} (c : Cs) : Rho → M W Fl := (seqD (dSet 1 (xFz (asL (fLc (fKeys 0) [2] (gN 2) (fB (f2 (ltT fun i j => decide (j < i)) (f2 dgetT (fVar 0) (fVar 2)) (fC (.int 1)))) (fVar 2))))) (seqD (dIf (fB (f2 (eqT true) (fVar 1) (asL (fLst aNil)))) (fun _ => stuck) (fun ρ => ret (.nx ρ))) (dIf (fB (f2 (ltT fun i j => decide (j < i)) (f1 lenT (fVar 0)) (fC c_MOST_STEPS))) (fun _ => stuck) (fun ρ => ret (.nx ρ)))))
noncomputable def F_need_steps {W : Type} (c : Cs) : List T → M W T := run 2 (g_need_steps c)
theorem ok_need_steps {P : Program} {w : World} {K : PySem.W.Frag} {mg : Str → Option Value} {base : Heap} {c : Cs} {W : Type} (TX : Txt K mg c) (D : DefAt K mg "need_steps" s_need_steps)  : DefOk (L2.CX P w) P w K mg base 1 "need_steps" 1 (F_need_steps c : List T → M W T) := by
  refine def_ok (k := 0) D sc_need_steps rfl rfl (fun _ _ _ _ _ _ us hl => match us, hl with | [_], _ => rfl) fun f cdv A outer s H E G hr hgd => ?_
  · show PDs _ G E (defBody s_need_steps) (g_need_steps c)
    have hu := hu200 hr
    have hu1 := hu_of hr
    have sc := sc_need_steps
    have hp : PassesOwn _ _ _ _ := passes_of (K := fun e s'' => L2.CX P w outer H s E e s'') (X := (cxOf (L2.CX P w) P w K mg base ["counts", "twice", "step"] "need_steps" (defScope s_need_steps) f cdv A outer s H E)) rfl
    have hx : Passes (L2.CX P w) (cxOf (L2.CX P w) P w K mg base ["counts", "twice", "step"] "need_steps" (defScope s_need_steps) f cdv A outer s H E) E := passes_call (takes_of rfl rfl rfl rfl) fun _ _ _ _ h => h
    exact (pds_cons (pd_setLcKF 0 1 (own := [("step", 2)]) (is := [2]) rfl sc.nd rfl rfl (sw_true rfl rfl rfl (by decide +kernel)) rfl (by first | exact Or.inl rfl | exact Or.inr (Or.inl rfl) | exact Or.inr (Or.inr rfl)) (blkOk_by (N := ["counts", "twice", "step"]) (sc := defScope s_need_steps) (by decide +kernel)) (fun G => ⟨fun _ _ _ _ _ => (pgt_name 2 sc.nd rfl (Or.inl rfl)), fun _ _ _ _ _ => (pts_oneM (pb_gt ((pv_dget hu1 ((pvv 0)).sh ((pvv 2)).sh)).sh (pv_int).sh)), fun _ _ _ _ _ => (pvv 2)⟩) (by decide)) (pds_cons (pd_if (pb_ne hu ((pvv 1)).sh ((pf_lst pas_nil)).sh) (pds_one pd_never) pds_nil) (pds_one (pd_if (pb_gt ((pv_b1 call_lenA lenG (by rfl) TX.n_len PySem.boot_len ((pvv 0)).sh)).sh ((pv_gl TX.c_MOST_STEPS)).sh) (pds_one pd_never) pds_nil))))

abbrev s_Form___init__ : Stmt := inClass (top 22) 0
theorem sc_Form___init__ : FnScope ["self", "told"] ["self", "told"] (defScope s_Form___init__) := ⟨rfl, rfl, rfl, by decide +kernel, rfl, by decide +kernel, by decide +kernel⟩
noncomputable def g_Form___init__ {W : Type} (c : Cs) : Rho → M W (List T) := (iCons (fVar 1) (iCons (f1 tupT (asL (f1l sortT (fCall 1 (aCons (fVar 1) aNil) (F_steps_in c 30))))) iNil))
noncomputable def F_Form___init__ {W : Type} (c : Cs) : List T → M W (List T) := runI 0 (g_Form___init__ c)
theorem ok_Form___init__ {P : Program} {w : World} {K : PySem.W.Frag} {mg : Str → Option Value} {base : Heap} {c : Cs} {W : Type} (TX : Txt K mg c) (D : ∃ fd, Fun K "__init__" "Form.__init__" s_Form___init__ c.Form___init__ fd) (D_steps_in : DefOk (L2.CX P w) P w K mg base 31 "steps_in" 1 ((F_steps_in c 30) : List T → M W T)) : InitOk P w K mg base 32 c.Form___init__ c.Form ns_Form 1 (F_Form___init__ c : List T → M W (List T)) := by
  refine init_ok (k := 31) D sc_Form___init__ rfl rfl (by decide) (by decide) (fun _ _ _ _ _ _ us hl => match us, hl with | [_, _], _ => rfl) fun cdv A outer s H E G hr hgd => ?_
  · show PIn _ G _ (defBody s_Form___init__) ns_Form (g_Form___init__ c)
    have hu := hu200 hr
    have hu1 := hu_of hr
    have sc := sc_Form___init__
    have hp : PassesOwn _ _ _ _ := passes_of (K := fun e s'' => L2.CX P w outer H s E e s'') (X := (cxOf (L2.CX P w) P w K mg base ["self", "told"] "Form.__init__" (defScope s_Form___init__) c.Form___init__ cdv A outer s H E)) rfl
    have hx : Passes (L2.CX P w) (cxOf (L2.CX P w) P w K mg base ["self", "told"] "Form.__init__" (defScope s_Form___init__) c.Form___init__ cdv A outer s H E) E := passes_call (takes_of rfl rfl rfl rfl) fun _ _ _ _ h => h
    exact (pin_cons TX.cls_Form (by decide) (L2.pv 0) (pvv 1) (pin_cons TX.cls_Form (by decide) (L2.pv 0) (pv_t1 call_tuple_of tupG (by rfl) TX.n_tuple boot_tuple ((pf_b1 (call_sortA hu) sortG (by rfl) TX.n_sorted boot_sorted ((pv_call D_steps_in hr hgd (by omega) (by rfl) passL (pas_cons (pvv 1) pas_nil))).sh)).sh) pin_nil))

abbrev s_Form_of : Stmt := inClass (top 22) 1
theorem sc_Form_of : FnScope ["told", "counts", "step"] ["told"] (defScope s_Form_of) := ⟨rfl, rfl, rfl, by decide +kernel, rfl, by decide +kernel, by decide +kernel⟩
noncomputable def g_Form_of {W : Type} (c : Cs) : Rho → M W Fl := (seqD (dIf (bNot (fB (fCall 1 (aCons (fVar 0) aNil) (F_is_told c 30)))) (fun _ => stuck) (fun ρ => ret (.nx ρ))) (seqD (dSet 1 xOd) (seqD (dFor (fItems (fCall 1 (aCons (fVar 0) aNil) (F_steps_in c 30))) (gN 2) (dPut 1 (fVar 2) (f2 addT (f3 getT (fVarS 1) (fVar 2) (fC (.int 0))) (fC (.int 1))))) (seqD (fun ρ => (dExpr (fCall 1 (aCons (fVar 1) aNil) (F_need_steps c))) (frzAt 1 ρ)) (seqD (dExpr (fCall 1 (aCons (fVar 0) aNil) (F_need_bodies c 30))) (dRet (fMake c.Form ns_Form 1 (aCons (fVar 0) aNil) (F_Form___init__ c))))))))
noncomputable def F_Form_of {W : Type} (c : Cs) : List T → M W T := run 2 (g_Form_of c)
theorem ok_Form_of {P : Program} {w : World} {K : PySem.W.Frag} {mg : Str → Option Value} {base : Heap} {c : Cs} {W : Type} (TX : Txt K mg c) (D : ∃ fd, Fun K "of" "Form.of" s_Form_of c.Form_of fd) (D_is_told : DefOk (L2.CX P w) P w K mg base 31 "is_told" 1 ((F_is_told c 30) : List T → M W T)) (D_steps_in : DefOk (L2.CX P w) P w K mg base 31 "steps_in" 1 ((F_steps_in c 30) : List T → M W T)) (D_need_steps : DefOk (L2.CX P w) P w K mg base 1 "need_steps" 1 ((F_need_steps c) : List T → M W T)) (D_need_bodies : DefOk (L2.CX P w) P w K mg base 60 "need_bodies" 1 ((F_need_bodies c 30) : List T → M W T)) (D_Form___init__ : InitOk P w K mg base 32 c.Form___init__ c.Form ns_Form 1 ((F_Form___init__ c) : List T → M W (List T))) : MethOk P w K mg base 61 c.Form_of 1 (F_Form_of c : List T → M W T) := by
  refine meth_ok (k := 60) D sc_Form_of rfl rfl (fun _ _ _ _ _ _ us hl => match us, hl with | [_], _ => rfl) fun cdv A outer s H E G hr hgd => ?_
  · show PDs _ G E (defBody s_Form_of) (g_Form_of c)
    have hu := hu200 hr
    have hu1 := hu_of hr
    have sc := sc_Form_of
    have hp : PassesOwn _ _ _ _ := passes_of (K := fun e s'' => L2.CX P w outer H s E e s'') (X := (cxOf (L2.CX P w) P w K mg base ["told", "counts", "step"] "Form.of" (defScope s_Form_of) c.Form_of cdv A outer s H E)) rfl
    have hx : Passes (L2.CX P w) (cxOf (L2.CX P w) P w K mg base ["told", "counts", "step"] "Form.of" (defScope s_Form_of) c.Form_of cdv A outer s H E) E := passes_call (takes_of rfl rfl rfl rfl) fun _ _ _ _ h => h
    exact (pds_cons (pd_if (pb_not (pb_val (pv_call D_is_told hr hgd (by omega) (by rfl) hx (pas_cons (pvv 0) pas_nil)))) (pds_one pd_never) pds_nil) (pds_cons (pd_set 1 px_od sc.nd rfl (by first | exact Or.inl rfl | exact Or.inr rfl)) (pds_cons (pd_for hp rfl (pit_seq (pv_call D_steps_in hr hgd (by omega) (by rfl) hx (pas_cons (pvv 0) pas_nil))) (pgt_name 2 sc.nd rfl (Or.inl rfl)) (pds_one (pd_put 1 hu1 (L2.pv 1) (pvv 2) (pv_add ((pv_dget2 hu1 (pvvS 1) (pvv 2) pv_int ⟨rfl, rfl, rfl, rfl⟩)).sh (pv_int).sh)))) (pds_cons (pd_frz 1 (pd_expr (pv_call D_need_steps hr hgd (by omega) (by rfl) hx (pas_cons (pvv 1) pas_nil)))) (pds_cons (pd_expr (pv_call D_need_bodies hr hgd (by omega) (by rfl) hx (pas_cons (pvv 0) pas_nil))) (pds_one (pd_ret (pv_make TX.mk_Form D_Form___init__ (hr.mono (by omega)) hgd (by rfl) TX.m_Form hx (pas_cons (pvv 0) pas_nil)))))))))

abbrev s_Form_told : Stmt := inClass (top 22) 2
theorem sc_Form_told : FnScope ["self"] ["self"] (defScope s_Form_told) := ⟨rfl, rfl, rfl, by decide +kernel, rfl, by decide +kernel, by decide +kernel⟩
noncomputable def g_Form_told {W : Type} (c : Cs) : Rho → M W Fl := (dRet (f1 (fldT c.Form ns_Form "own_told") (fVar 0)))
noncomputable def F_Form_told {W : Type} (c : Cs) : List T → M W T := run 0 (g_Form_told c)
theorem ok_Form_told {P : Program} {w : World} {K : PySem.W.Frag} {mg : Str → Option Value} {base : Heap} {c : Cs} {W : Type} (TX : Txt K mg c) (D : ∃ fd, Fun K "told" "Form.told" s_Form_told c.Form_told fd)  : MethOk P w K mg base 1 c.Form_told 1 (F_Form_told c : List T → M W T) := by
  refine meth_ok (k := 0) D sc_Form_told rfl rfl (fun _ _ _ _ _ _ us hl => match us, hl with | [_], _ => rfl) fun cdv A outer s H E G hr hgd => ?_
  · show PDs _ G E (defBody s_Form_told) (g_Form_told c)
    have hu := hu200 hr
    have hu1 := hu_of hr
    have sc := sc_Form_told
    have hp : PassesOwn _ _ _ _ := passes_of (K := fun e s'' => L2.CX P w outer H s E e s'') (X := (cxOf (L2.CX P w) P w K mg base ["self"] "Form.told" (defScope s_Form_told) c.Form_told cdv A outer s H E)) rfl
    have hx : Passes (L2.CX P w) (cxOf (L2.CX P w) P w K mg base ["self"] "Form.told" (defScope s_Form_told) c.Form_told cdv A outer s H E) E := passes_call (takes_of rfl rfl rfl rfl) fun _ _ _ _ h => h
    exact (pds_one (pd_ret (pv_fld TX.cls_Form ((pvv 0)).sh)))

abbrev s_Form___eq__ : Stmt := inClass (top 22) 9
theorem sc_Form___eq__ : FnScope ["self", "other"] ["self", "other"] (defScope s_Form___eq__) := ⟨rfl, rfl, rfl, by decide +kernel, rfl, by decide +kernel, by decide +kernel⟩
noncomputable def g_Form___eq__ {W : Type} (c : Cs) : Rho → M W Fl := (dRet (fAnd (f1 (isaC c.Form) (fVar 1)) (f2 (eqT false) (f1 (fldT c.Form ns_Form "own_told") (fVar 0)) (f1 (fldT c.Form ns_Form "own_told") (fVar 1)))))
noncomputable def F_Form___eq__ {W : Type} (c : Cs) : List T → M W T := run 0 (g_Form___eq__ c)
theorem ok_Form___eq__ {P : Program} {w : World} {K : PySem.W.Frag} {mg : Str → Option Value} {base : Heap} {c : Cs} {W : Type} (TX : Txt K mg c) (D : ∃ fd, Fun K "__eq__" "Form.__eq__" s_Form___eq__ c.Form___eq__ fd)  : MethOk P w K mg base 1 c.Form___eq__ 2 (F_Form___eq__ c : List T → M W T) := by
  refine meth_ok (k := 0) D sc_Form___eq__ rfl rfl (fun _ _ _ _ _ _ us hl => match us, hl with | [_, _], _ => rfl) fun cdv A outer s H E G hr hgd => ?_
  · show PDs _ G E (defBody s_Form___eq__) (g_Form___eq__ c)
    have hu := hu200 hr
    have hu1 := hu_of hr
    have sc := sc_Form___eq__
    have hp : PassesOwn _ _ _ _ := passes_of (K := fun e s'' => L2.CX P w outer H s E e s'') (X := (cxOf (L2.CX P w) P w K mg base ["self", "other"] "Form.__eq__" (defScope s_Form___eq__) c.Form___eq__ cdv A outer s H E)) rfl
    have hx : Passes (L2.CX P w) (cxOf (L2.CX P w) P w K mg base ["self", "other"] "Form.__eq__" (defScope s_Form___eq__) c.Form___eq__ cdv A outer s H E) E := passes_call (takes_of rfl rfl rfl rfl) fun _ _ _ _ h => h
    exact (pds_one (pd_ret (pv_and (pv_isaC TX.cls_Form (by rfl) TX.n_isinstance (by rfl) TX.m_Form ((pvv 1)).sh) (pv_one (pv_eq hu ((pv_fld TX.cls_Form ((pvv 0)).sh)).sh ((pv_fld TX.cls_Form ((pvv 1)).sh)).sh)))))

abbrev s_least_step : Stmt := top 24
theorem sc_least_step : FnScope ["told"] ["told"] (defScope s_least_step) := ⟨rfl, rfl, rfl, by decide +kernel, rfl, by decide +kernel, by decide +kernel⟩
noncomputable def g_least_step {W : Type} (c : Cs) : Rho → M W Fl := (dRet (f1 minT (fCall 1 (aCons (fVar 0) aNil) (F_steps_in c 30))))
noncomputable def F_least_step {W : Type} (c : Cs) : List T → M W T := run 0 (g_least_step c)
theorem ok_least_step {P : Program} {w : World} {K : PySem.W.Frag} {mg : Str → Option Value} {base : Heap} {c : Cs} {W : Type} (TX : Txt K mg c) (D : DefAt K mg "least_step" s_least_step) (D_steps_in : DefOk (L2.CX P w) P w K mg base 31 "steps_in" 1 ((F_steps_in c 30) : List T → M W T)) : DefOk (L2.CX P w) P w K mg base 32 "least_step" 1 (F_least_step c : List T → M W T) := by
  refine def_ok (k := 31) D sc_least_step rfl rfl (fun _ _ _ _ _ _ us hl => match us, hl with | [_], _ => rfl) fun f cdv A outer s H E G hr hgd => ?_
  · show PDs _ G E (defBody s_least_step) (g_least_step c)
    have hu := hu200 hr
    have hu1 := hu_of hr
    have sc := sc_least_step
    have hp : PassesOwn _ _ _ _ := passes_of (K := fun e s'' => L2.CX P w outer H s E e s'') (X := (cxOf (L2.CX P w) P w K mg base ["told"] "least_step" (defScope s_least_step) f cdv A outer s H E)) rfl
    have hx : Passes (L2.CX P w) (cxOf (L2.CX P w) P w K mg base ["told"] "least_step" (defScope s_least_step) f cdv A outer s H E) E := passes_call (takes_of rfl rfl rfl rfl) fun _ _ _ _ h => h
    exact (pds_one (pd_ret (pv_b1 (call_minA rfl hu) minG (by rfl) TX.n_min boot_min ((pv_call D_steps_in hr hgd (by omega) (by rfl) hx (pas_cons (pvv 0) pas_nil))).sh)))

abbrev s_flat : Stmt := top 25
theorem sc_flat : FnScope ["word", "parts", "found", "part"] ["word", "parts"] (defScope s_flat) := ⟨rfl, rfl, rfl, by decide +kernel, rfl, by decide +kernel, by decide +kernel⟩
noncomputable def g_flat {W : Type} (c : Cs) : Rho → M W Fl := (seqD (dSet 2 (xOw (fLst aNil))) (seqD (dFor (fItems (fVar 1)) (gN 3) (dExtB 2 (fIf (bAnd (bNot (fB (f1 (isaT "str") (fVar 3)))) (fB (f2 (eqT false) (f2 ixT (fVar 3) (fC (.int 0))) (fVar 0)))) (f2 ixT (fVar 3) (fC (.int 1))) (asL (fLst (aCons (fVar 3) aNil)))))) (fun ρ => (dRet (fTup (aCons (fVar 0) (aCons (f1 tupT (fIf (fB (f2 (eqT false) (fVar 0) (fC (.str "behind")))) (fVar 2) (asL (fSortK (F_least_step c) (fVar 2))))) aNil)))) (frzAt 2 ρ))))
noncomputable def F_flat {W : Type} (c : Cs) : List T → M W T := run 2 (g_flat c)
theorem ok_flat {P : Program} {w : World} {K : PySem.W.Frag} {mg : Str → Option Value} {base : Heap} {c : Cs} {W : Type} (TX : Txt K mg c) (D : DefAt K mg "flat" s_flat) (D_least_step : DefOk (L2.CX P w) P w K mg base 32 "least_step" 1 ((F_least_step c) : List T → M W T)) : DefOk (L2.CX P w) P w K mg base 35 "flat" 2 (F_flat c : List T → M W T) := by
  refine def_ok (k := 34) D sc_flat rfl rfl (fun _ _ _ _ _ _ us hl => match us, hl with | [_, _], _ => rfl) fun f cdv A outer s H E G hr hgd => ?_
  · show PDs _ G E (defBody s_flat) (g_flat c)
    have hu := hu200 hr
    have hu1 := hu_of hr
    have sc := sc_flat
    have hp : PassesOwn _ _ _ _ := passes_of (K := fun e s'' => L2.CX P w outer H s E e s'') (X := (cxOf (L2.CX P w) P w K mg base ["word", "parts", "found", "part"] "flat" (defScope s_flat) f cdv A outer s H E)) rfl
    have hx : Passes (L2.CX P w) (cxOf (L2.CX P w) P w K mg base ["word", "parts", "found", "part"] "flat" (defScope s_flat) f cdv A outer s H E) E := passes_call (takes_of rfl rfl rfl rfl) fun _ _ _ _ h => h
    exact (pds_cons (pd_set 2 (px_ow (pf_lst pas_nil)) sc.nd rfl (by first | exact Or.inl rfl | exact Or.inr rfl)) (pds_cons (pd_for hp rfl (pit_seq (pvv 1)) (pgt_name 3 sc.nd rfl (Or.inl rfl)) (pds_one (pd_extB 2 ((pv_if (pbw_and (pb_not (pb_val (pv_isa (by rfl) TX.n_isinstance (by rfl) TX.n_str (by decide +kernel) ((pvv 3)).sh))) (pbw_and1 (pb_eq hu ((pv_ix ((pvv 3)).sh (pv_int).sh)).sh ((pvv 0)).sh))).pb (pv_ix ((pvv 3)).sh (pv_int).sh) ((pf_lst (pas_cons (pvv 3) pas_nil))).dp)).sh rfl (by first | exact Or.inl rfl | exact Or.inr (Or.inl rfl) | exact Or.inr (Or.inr rfl)) rfl rfl (fun h => pe_bm PySem.F.plainAttrs_list PySem.F.slot_list_extend PySem.F.type_list_extend mt_extB (L2.pv 2) (pa_cons h pa_nil))))) (pds_one (pd_frz 2 (pd_ret (pv_tup (pas_cons (pvv 0) (pas_cons (pv_t1 call_tuple_of tupG (by rfl) TX.n_tuple boot_tuple ((pv_if (pb_eq hu ((pvv 0)).sh (pv_str).sh) (pvv 2) ((pf_sortK D_least_step (hr.mono (by omega)) hgd (by rfl) TX.n_sorted (by rfl) ((pvv 2)).sh)).dp)).sh) pas_nil))))))))

abbrev s_plain_told : Stmt := top 26
theorem sc_plain_told : FnScope ["told", "part", "body", "between"] ["told"] (defScope s_plain_told) := ⟨rfl, rfl, rfl, by decide +kernel, rfl, by decide +kernel, by decide +kernel⟩
noncomputable def g_plain_told {W : Type} (c : Cs) (rec : List T → M W T) : Rho → M W Fl := (seqD (dIf (fB (f1 (isaT "str") (fVar 0))) (dRet (fVar 0)) (fun ρ => ret (.nx ρ))) (seqD (dIf (fB (f2 (eqT true) (f2 ixT (fVar 0) (fC (.int 0))) (fC (.str "again")))) (dRet (fCall 2 (aCons (f2 ixT (fVar 0) (fC (.int 0))) (aCons (asL (fLc (fItems (f2 ixT (fVar 0) (fC (.int 1)))) [1] (gN 1) tYesM (fCall 1 (aCons (fVar 1) aNil) rec))) aNil)) (F_flat c))) (fun ρ => ret (.nx ρ))) (seqD (dPar 2 3 (xFz (fCall 1 (aCons (f2 ixT (fVar 0) (fC (.int 1))) aNil) rec)) (xFz (fCall 1 (aCons (f2 ixT (fVar 0) (fC (.int 2))) aNil) rec))) (seqD (dIf (bOr (fB (f1 (isaT "str") (fVar 2))) (fB (f2 (eqT true) (f2 ixT (fVar 2) (fC (.int 0))) (fC (.str "again"))))) (dRet (fTup (aCons (fC (.str "again")) (aCons (fVar 2) (aCons (fVar 3) aNil))))) (fun ρ => ret (.nx ρ))) (dRet (fTup (aCons (fC (.str "again")) (aCons (f2 ixT (fVar 2) (fC (.int 1))) (aCons (fCall 2 (aCons (fC (.str "either")) (aCons (asL (fLst (aCons (f2 ixT (fVar 2) (fC (.int 2))) (aCons (fVar 3) aNil)))) aNil)) (F_flat c)) aNil)))))))))
noncomputable def F_plain_told {W : Type} (c : Cs) : Nat → List T → M W T
  | 0 => fun _ => stuck
  | n + 1 => run 3 (g_plain_told c (F_plain_told c n))
theorem ok_plain_told {P : Program} {w : World} {K : PySem.W.Frag} {mg : Str → Option Value} {base : Heap} {c : Cs} {W : Type} (TX : Txt K mg c) (D : DefAt K mg "plain_told" s_plain_told) (D_flat : DefOk (L2.CX P w) P w K mg base 35 "flat" 2 ((F_flat c) : List T → M W T)) : ∀ n, DefOk (L2.CX P w) P w K mg base (35 + n) "plain_told" 1 (F_plain_told c n : List T → M W T)
  | 0 => def_stuck (ps := ["told"]) D rfl (fun _ _ _ _ _ _ us hl => match us, hl with | [_], _ => rfl)
  | n + 1 => by
    have D_plain_told := ok_plain_told (P := P) (w := w) (base := base) (W := W) TX D D_flat n
    refine def_ok (k := 35 + n) D sc_plain_told rfl rfl (fun _ _ _ _ _ _ us hl => match us, hl with | [_], _ => rfl) fun f cdv A outer s H E G hr hgd => ?_
    show PDs _ G E (defBody s_plain_told) (g_plain_told c (F_plain_told c n))
    have hu := hu200 hr
    have hu1 := hu_of hr
    have sc := sc_plain_told
    have hp : PassesOwn _ _ _ _ := passes_of (K := fun e s'' => L2.CX P w outer H s E e s'') (X := (cxOf (L2.CX P w) P w K mg base ["told", "part", "body", "between"] "plain_told" (defScope s_plain_told) f cdv A outer s H E)) rfl
    have hx : Passes (L2.CX P w) (cxOf (L2.CX P w) P w K mg base ["told", "part", "body", "between"] "plain_told" (defScope s_plain_told) f cdv A outer s H E) E := passes_call (takes_of rfl rfl rfl rfl) fun _ _ _ _ h => h
    exact (pds_cons (pd_if (pb_val (pv_isa (by rfl) TX.n_isinstance (by rfl) TX.n_str (by decide +kernel) ((pvv 0)).sh)) (pds_one (pd_ret (pvv 0))) pds_nil) (pds_cons (pd_if (pb_ne hu ((pv_ix ((pvv 0)).sh (pv_int).sh)).sh (pv_str).sh) (pds_one (pd_ret (pv_call D_flat hr hgd (by omega) (by rfl) hx (pas_cons (pv_ix ((pvv 0)).sh (pv_int).sh) (pas_cons ((pf_lc (own := [("part", 1)]) (is := [1]) rfl sc.nd (pit_seq (pv_ix ((pvv 0)).sh (pv_int).sh)) (blkOk_by (N := ["told", "part", "body", "between"]) (sc := defScope s_plain_told) (by decide +kernel)) ⟨fun _ _ _ _ _ => (pgt_name 1 sc.nd rfl (Or.inl rfl)), fun _ _ _ _ _ => pts_nilM, fun _ _ _ _ _ => (pv_call D_plain_told hr hgd (by omega) (by rfl) passL (pas_cons (pvv 1) pas_nil))⟩ (by decide))).dp pas_nil))))) pds_nil) (pds_cons (pd_par 2 3 (px_fz (pv_call D_plain_told hr hgd (by omega) (by rfl) hx (pas_cons (pv_ix ((pvv 0)).sh (pv_int).sh) pas_nil))) (px_fz (pv_call D_plain_told hr hgd (by omega) (by rfl) hx (pas_cons (pv_ix ((pvv 0)).sh (pv_int).sh) pas_nil))) rfl sc.nd rfl rfl (by decide) rfl rfl rfl) (pds_cons (pd_if (pbw_or (pb_val (pv_isa (by rfl) TX.n_isinstance (by rfl) TX.n_str (by decide +kernel) ((pvv 2)).sh)) (pbw_or1 (pb_ne hu ((pv_ix ((pvv 2)).sh (pv_int).sh)).sh (pv_str).sh))).pb (pds_one (pd_ret (pv_tup (pas_cons pv_str (pas_cons (pvv 2) (pas_cons (pvv 3) pas_nil)))))) pds_nil) (pds_one (pd_ret (pv_tup (pas_cons pv_str (pas_cons (pv_ix ((pvv 2)).sh (pv_int).sh) (pas_cons (pv_call D_flat hr hgd (by omega) (by rfl) hx (pas_cons pv_str (pas_cons ((pf_lst (pas_cons (pv_ix ((pvv 2)).sh (pv_int).sh) (pas_cons (pvv 3) pas_nil)))).dp pas_nil))) pas_nil))))))))))

abbrev s_plain : Stmt := top 27
theorem sc_plain : FnScope ["form"] ["form"] (defScope s_plain) := ⟨rfl, rfl, rfl, by decide +kernel, rfl, by decide +kernel, by decide +kernel⟩
noncomputable def g_plain {W : Type} (c : Cs) : Rho → M W Fl := (dRet (fCall 1 (aCons (fCall 1 (aCons (fProp c.Form ns_Form (F_Form_told c) (fVar 0)) aNil) (F_plain_told c 30)) aNil) (F_Form_of c)))
noncomputable def F_plain {W : Type} (c : Cs) : List T → M W T := run 0 (g_plain c)
theorem okk_plain {P : Program} {w : World} {K : PySem.W.Frag} {mg : Str → Option Value} {base : Heap} {c : Cs} {W : Type} (TX : Txt K mg c) (D : DefAt K mg "plain" s_plain) (D_Form_of : MethOk P w K mg base 61 c.Form_of 1 ((F_Form_of c) : List T → M W T)) (D_Form_told : MethOk P w K mg base 1 c.Form_told 1 ((F_Form_told c) : List T → M W T)) (D_plain_told : DefOk (L2.CX P w) P w K mg base 65 "plain_told" 1 ((F_plain_told c 30) : List T → M W T)) : DefOkK (L2.CX P w) P w K mg base 66 "plain" 1 ["form"] (F_plain c : List T → M W T) := by
  refine def_okK (k := 65) D sc_plain rfl rfl (fun _ _ _ _ _ _ us ws hl => match us, ws, hl with | [], [_], _ => rfl | [_], [], _ => rfl) fun f cdv A outer s H E G hr hgd => ?_
  · show PDs _ G E (defBody s_plain) (g_plain c)
    have hu := hu200 hr
    have hu1 := hu_of hr
    have sc := sc_plain
    have hp : PassesOwn _ _ _ _ := passes_of (K := fun e s'' => L2.CX P w outer H s E e s'') (X := (cxOf (L2.CX P w) P w K mg base ["form"] "plain" (defScope s_plain) f cdv A outer s H E)) rfl
    have hx : Passes (L2.CX P w) (cxOf (L2.CX P w) P w K mg base ["form"] "plain" (defScope s_plain) f cdv A outer s H E) E := passes_call (takes_of rfl rfl rfl rfl) fun _ _ _ _ h => h
    exact (pds_one (pd_ret (pv_static TX.s_Form_of D_Form_of (hr.mono (by omega)) hgd (by rfl) TX.m_Form hx (pas_cons (pv_call D_plain_told hr hgd (by omega) (by rfl) hx (pas_cons (pv_prop TX.cls_Form TX.p_Form_told D_Form_told (hr.mono (by omega)) hgd (pvv 0)) pas_nil)) pas_nil))))
theorem ok_plain {P : Program} {w : World} {K : PySem.W.Frag} {mg : Str → Option Value} {base : Heap} {c : Cs} {W : Type} (TX : Txt K mg c) (D : DefAt K mg "plain" s_plain) (D_Form_of : MethOk P w K mg base 61 c.Form_of 1 ((F_Form_of c) : List T → M W T)) (D_Form_told : MethOk P w K mg base 1 c.Form_told 1 ((F_Form_told c) : List T → M W T)) (D_plain_told : DefOk (L2.CX P w) P w K mg base 65 "plain_told" 1 ((F_plain_told c 30) : List T → M W T)) : DefOk (L2.CX P w) P w K mg base 66 "plain" 1 (F_plain c : List T → M W T) := by
  refine def_ok (k := 65) D sc_plain rfl rfl (fun _ _ _ _ _ _ us hl => match us, hl with | [_], _ => rfl) fun f cdv A outer s H E G hr hgd => ?_
  · show PDs _ G E (defBody s_plain) (g_plain c)
    have hu := hu200 hr
    have hu1 := hu_of hr
    have sc := sc_plain
    have hp : PassesOwn _ _ _ _ := passes_of (K := fun e s'' => L2.CX P w outer H s E e s'') (X := (cxOf (L2.CX P w) P w K mg base ["form"] "plain" (defScope s_plain) f cdv A outer s H E)) rfl
    have hx : Passes (L2.CX P w) (cxOf (L2.CX P w) P w K mg base ["form"] "plain" (defScope s_plain) f cdv A outer s H E) E := passes_call (takes_of rfl rfl rfl rfl) fun _ _ _ _ h => h
    exact (pds_one (pd_ret (pv_static TX.s_Form_of D_Form_of (hr.mono (by omega)) hgd (by rfl) TX.m_Form hx (pas_cons (pv_call D_plain_told hr hgd (by omega) (by rfl) hx (pas_cons (pv_prop TX.cls_Form TX.p_Form_told D_Form_told (hr.mono (by omega)) hgd (pvv 0)) pas_nil)) pas_nil))))

abbrev s_is_plain : Stmt := top 28
theorem sc_is_plain : FnScope ["form"] ["form"] (defScope s_is_plain) := ⟨rfl, rfl, rfl, by decide +kernel, rfl, by decide +kernel, by decide +kernel⟩
noncomputable def g_is_plain {W : Type} (c : Cs) : Rho → M W Fl := (dRet (f2 (eqT false) (fCall 1 (aCons (fProp c.Form ns_Form (F_Form_told c) (fVar 0)) aNil) (F_plain_told c 30)) (fProp c.Form ns_Form (F_Form_told c) (fVar 0))))
noncomputable def F_is_plain {W : Type} (c : Cs) : List T → M W T := run 0 (g_is_plain c)
theorem okk_is_plain {P : Program} {w : World} {K : PySem.W.Frag} {mg : Str → Option Value} {base : Heap} {c : Cs} {W : Type} (TX : Txt K mg c) (D : DefAt K mg "is_plain" s_is_plain) (D_Form_told : MethOk P w K mg base 1 c.Form_told 1 ((F_Form_told c) : List T → M W T)) (D_plain_told : DefOk (L2.CX P w) P w K mg base 65 "plain_told" 1 ((F_plain_told c 30) : List T → M W T)) : DefOkK (L2.CX P w) P w K mg base 66 "is_plain" 1 ["form"] (F_is_plain c : List T → M W T) := by
  refine def_okK (k := 65) D sc_is_plain rfl rfl (fun _ _ _ _ _ _ us ws hl => match us, ws, hl with | [], [_], _ => rfl | [_], [], _ => rfl) fun f cdv A outer s H E G hr hgd => ?_
  · show PDs _ G E (defBody s_is_plain) (g_is_plain c)
    have hu := hu200 hr
    have hu1 := hu_of hr
    have sc := sc_is_plain
    have hp : PassesOwn _ _ _ _ := passes_of (K := fun e s'' => L2.CX P w outer H s E e s'') (X := (cxOf (L2.CX P w) P w K mg base ["form"] "is_plain" (defScope s_is_plain) f cdv A outer s H E)) rfl
    have hx : Passes (L2.CX P w) (cxOf (L2.CX P w) P w K mg base ["form"] "is_plain" (defScope s_is_plain) f cdv A outer s H E) E := passes_call (takes_of rfl rfl rfl rfl) fun _ _ _ _ h => h
    exact (pds_one (pd_ret (pv_eq hu ((pv_call D_plain_told hr hgd (by omega) (by rfl) hx (pas_cons (pv_prop TX.cls_Form TX.p_Form_told D_Form_told (hr.mono (by omega)) hgd (pvv 0)) pas_nil))).sh ((pv_prop TX.cls_Form TX.p_Form_told D_Form_told (hr.mono (by omega)) hgd (pvv 0))).sh)))
theorem ok_is_plain {P : Program} {w : World} {K : PySem.W.Frag} {mg : Str → Option Value} {base : Heap} {c : Cs} {W : Type} (TX : Txt K mg c) (D : DefAt K mg "is_plain" s_is_plain) (D_Form_told : MethOk P w K mg base 1 c.Form_told 1 ((F_Form_told c) : List T → M W T)) (D_plain_told : DefOk (L2.CX P w) P w K mg base 65 "plain_told" 1 ((F_plain_told c 30) : List T → M W T)) : DefOk (L2.CX P w) P w K mg base 66 "is_plain" 1 (F_is_plain c : List T → M W T) := by
  refine def_ok (k := 65) D sc_is_plain rfl rfl (fun _ _ _ _ _ _ us hl => match us, hl with | [_], _ => rfl) fun f cdv A outer s H E G hr hgd => ?_
  · show PDs _ G E (defBody s_is_plain) (g_is_plain c)
    have hu := hu200 hr
    have hu1 := hu_of hr
    have sc := sc_is_plain
    have hp : PassesOwn _ _ _ _ := passes_of (K := fun e s'' => L2.CX P w outer H s E e s'') (X := (cxOf (L2.CX P w) P w K mg base ["form"] "is_plain" (defScope s_is_plain) f cdv A outer s H E)) rfl
    have hx : Passes (L2.CX P w) (cxOf (L2.CX P w) P w K mg base ["form"] "is_plain" (defScope s_is_plain) f cdv A outer s H E) E := passes_call (takes_of rfl rfl rfl rfl) fun _ _ _ _ h => h
    exact (pds_one (pd_ret (pv_eq hu ((pv_call D_plain_told hr hgd (by omega) (by rfl) hx (pas_cons (pv_prop TX.cls_Form TX.p_Form_told D_Form_told (hr.mono (by omega)) hgd (pvv 0)) pas_nil))).sh ((pv_prop TX.cls_Form TX.p_Form_told D_Form_told (hr.mono (by omega)) hgd (pvv 0))).sh)))

abbrev s__law_steps : Stmt := top 35
theorem sc__law_steps : FnScope ["_law_told", "_law_found", "_law_part"] ["_law_told"] (defScope s__law_steps) := ⟨rfl, rfl, rfl, by decide +kernel, rfl, by decide +kernel, by decide +kernel⟩
noncomputable def g__law_steps {W : Type} (c : Cs) (rec : List T → M W T) : Rho → M W Fl := (seqD (dIf (fB (f1 (isaT "str") (fVar 0))) (dRet (asL (fLst (aCons (fVar 0) aNil)))) (fun ρ => ret (.nx ρ))) (seqD (dSet 1 (xFz (asL (fLst aNil)))) (seqD (dFor (fItems (fIf (fB (f2 (eqT false) (f2 ixT (fVar 0) (fC (.int 0))) (fC (.str "again")))) (fSlice (fVar 0) (fPart (fC (.int 1))) fNoPart) (f2 ixT (fVar 0) (fC (.int 1))))) (gN 2) (dSet 1 (xFz (f2 addT (fVar 1) (fCall 1 (aCons (fVar 2) aNil) rec))))) (dRet (fVar 1)))))
noncomputable def F__law_steps {W : Type} (c : Cs) : Nat → List T → M W T
  | 0 => fun _ => stuck
  | n + 1 => run 2 (g__law_steps c (F__law_steps c n))
theorem ok__law_steps {P : Program} {w : World} {K : PySem.W.Frag} {mg : Str → Option Value} {base : Heap} {c : Cs} {W : Type} (TX : Txt K mg c) (D : DefAt K mg "_law_steps" s__law_steps)  : ∀ n, DefOk (L2.CX P w) P w K mg base (0 + n) "_law_steps" 1 (F__law_steps c n : List T → M W T)
  | 0 => def_stuck (ps := ["_law_told"]) D rfl (fun _ _ _ _ _ _ us hl => match us, hl with | [_], _ => rfl)
  | n + 1 => by
    have D__law_steps := ok__law_steps (P := P) (w := w) (base := base) (W := W) TX D  n
    refine def_ok (k := 0 + n) D sc__law_steps rfl rfl (fun _ _ _ _ _ _ us hl => match us, hl with | [_], _ => rfl) fun f cdv A outer s H E G hr hgd => ?_
    show PDs _ G E (defBody s__law_steps) (g__law_steps c (F__law_steps c n))
    have hu := hu200 hr
    have hu1 := hu_of hr
    have sc := sc__law_steps
    have hp : PassesOwn _ _ _ _ := passes_of (K := fun e s'' => L2.CX P w outer H s E e s'') (X := (cxOf (L2.CX P w) P w K mg base ["_law_told", "_law_found", "_law_part"] "_law_steps" (defScope s__law_steps) f cdv A outer s H E)) rfl
    have hx : Passes (L2.CX P w) (cxOf (L2.CX P w) P w K mg base ["_law_told", "_law_found", "_law_part"] "_law_steps" (defScope s__law_steps) f cdv A outer s H E) E := passes_call (takes_of rfl rfl rfl rfl) fun _ _ _ _ h => h
    exact (pds_cons (pd_if (pb_val (pv_isa (by rfl) TX.n_isinstance (by rfl) TX.n_str (by decide +kernel) ((pvv 0)).sh)) (pds_one (pd_ret ((pf_lst (pas_cons (pvv 0) pas_nil))).dp)) pds_nil) (pds_cons (pd_set 1 (px_fz ((pf_lst pas_nil)).dp) sc.nd rfl (by first | exact Or.inl rfl | exact Or.inr rfl)) (pds_cons (pd_for hp rfl (pit_seq (pv_if (pb_eq hu ((pv_ix ((pvv 0)).sh (pv_int).sh)).sh (pv_str).sh) (pv_slice ((pvv 0)).sh (pp_some pv_int) pp_none) (pv_ix ((pvv 0)).sh (pv_int).sh))) (pgt_name 2 sc.nd rfl (Or.inl rfl)) (pds_one (pd_set 1 (px_fz (pv_add ((pvv 1)).sh ((pv_call D__law_steps hr hgd (by omega) (by rfl) hx (pas_cons (pvv 2) pas_nil))).sh)) sc.nd rfl (by first | exact Or.inl rfl | exact Or.inr rfl)))) (pds_one (pd_ret (pvv 1))))))

abbrev s__law_edges : Stmt := top 36
theorem sc__law_edges : FnScope ["_law_told", "_law_some", "_law_part", "_law_begins", "_law_ends", "_law_pair"] ["_law_told"] (defScope s__law_edges) := ⟨rfl, rfl, rfl, by decide +kernel, rfl, by decide +kernel, by decide +kernel⟩
noncomputable def g__law_edges {W : Type} (c : Cs) (rec : List T → M W T) : Rho → M W Fl := (seqD (dIf (fB (f1 (isaT "str") (fVar 0))) (dRet (fTup (aCons (asL (fLst (aCons (fVar 0) aNil))) (aCons (asL (fLst (aCons (fVar 0) aNil))) aNil)))) (fun ρ => ret (.nx ρ))) (seqD (dIf (fB (f2 (eqT false) (f2 ixT (fVar 0) (fC (.int 0))) (fC (.str "again")))) (dRet (fCall 1 (aCons (f2 ixT (fVar 0) (fC (.int 1))) aNil) rec)) (fun ρ => ret (.nx ρ))) (seqD (dSet 1 (xFz (asL (fLc (fItems (f2 ixT (fVar 0) (fC (.int 1)))) [2] (gN 2) tYesM (fCall 1 (aCons (fVar 2) aNil) rec))))) (seqD (dIf (fB (f2 (eqT false) (f2 ixT (fVar 0) (fC (.int 0))) (fC (.str "behind")))) (dRet (fTup (aCons (f2 ixT (f2 ixT (fVar 1) (fC (.int 0))) (fC (.int 0))) (aCons (f2 ixT (f2 ixT (fVar 1) (f1 negT (fC (.int 1)))) (fC (.int 1))) aNil)))) (fun ρ => ret (.nx ρ))) (seqD (dPar 3 4 (xFz (asL (fLst aNil))) (xFz (asL (fLst aNil)))) (seqD (dFor (fItems (fVar 1)) (gN 5) (dPar 3 4 (xFz (f2 addT (fVar 3) (f2 ixT (fVar 5) (fC (.int 0))))) (xFz (f2 addT (fVar 4) (f2 ixT (fVar 5) (fC (.int 1))))))) (dRet (fTup (aCons (fVar 3) (aCons (fVar 4) aNil))))))))))
noncomputable def F__law_edges {W : Type} (c : Cs) : Nat → List T → M W T
  | 0 => fun _ => stuck
  | n + 1 => run 5 (g__law_edges c (F__law_edges c n))
theorem ok__law_edges {P : Program} {w : World} {K : PySem.W.Frag} {mg : Str → Option Value} {base : Heap} {c : Cs} {W : Type} (TX : Txt K mg c) (D : DefAt K mg "_law_edges" s__law_edges)  : ∀ n, DefOk (L2.CX P w) P w K mg base (0 + n) "_law_edges" 1 (F__law_edges c n : List T → M W T)
  | 0 => def_stuck (ps := ["_law_told"]) D rfl (fun _ _ _ _ _ _ us hl => match us, hl with | [_], _ => rfl)
  | n + 1 => by
    have D__law_edges := ok__law_edges (P := P) (w := w) (base := base) (W := W) TX D  n
    refine def_ok (k := 0 + n) D sc__law_edges rfl rfl (fun _ _ _ _ _ _ us hl => match us, hl with | [_], _ => rfl) fun f cdv A outer s H E G hr hgd => ?_
    show PDs _ G E (defBody s__law_edges) (g__law_edges c (F__law_edges c n))
    have hu := hu200 hr
    have hu1 := hu_of hr
    have sc := sc__law_edges
    have hp : PassesOwn _ _ _ _ := passes_of (K := fun e s'' => L2.CX P w outer H s E e s'') (X := (cxOf (L2.CX P w) P w K mg base ["_law_told", "_law_some", "_law_part", "_law_begins", "_law_ends", "_law_pair"] "_law_edges" (defScope s__law_edges) f cdv A outer s H E)) rfl
    have hx : Passes (L2.CX P w) (cxOf (L2.CX P w) P w K mg base ["_law_told", "_law_some", "_law_part", "_law_begins", "_law_ends", "_law_pair"] "_law_edges" (defScope s__law_edges) f cdv A outer s H E) E := passes_call (takes_of rfl rfl rfl rfl) fun _ _ _ _ h => h
    exact (pds_cons (pd_if (pb_val (pv_isa (by rfl) TX.n_isinstance (by rfl) TX.n_str (by decide +kernel) ((pvv 0)).sh)) (pds_one (pd_ret (pv_tup (pas_cons ((pf_lst (pas_cons (pvv 0) pas_nil))).dp (pas_cons ((pf_lst (pas_cons (pvv 0) pas_nil))).dp pas_nil))))) pds_nil) (pds_cons (pd_if (pb_eq hu ((pv_ix ((pvv 0)).sh (pv_int).sh)).sh (pv_str).sh) (pds_one (pd_ret (pv_call D__law_edges hr hgd (by omega) (by rfl) hx (pas_cons (pv_ix ((pvv 0)).sh (pv_int).sh) pas_nil)))) pds_nil) (pds_cons (pd_setLcF (i := 1) (own := [("_law_part", 2)]) (is := [2]) rfl sc.nd rfl rfl (sw_true rfl rfl rfl (by decide +kernel)) (pit_seq (pv_ix ((pvv 0)).sh (pv_int).sh)) (blkOk_by (N := ["_law_told", "_law_some", "_law_part", "_law_begins", "_law_ends", "_law_pair"]) (sc := defScope s__law_edges) (by decide +kernel)) ⟨fun _ _ _ _ _ => (pgt_name 2 sc.nd rfl (Or.inl rfl)), fun _ _ _ _ _ => pts_nilM, fun _ _ _ _ _ => (pv_call D__law_edges hr hgd (by omega) (by rfl) passL (pas_cons (pvv 2) pas_nil))⟩ (by decide)) (pds_cons (pd_if (pb_eq hu ((pv_ix ((pvv 0)).sh (pv_int).sh)).sh (pv_str).sh) (pds_one (pd_ret (pv_tup (pas_cons (pv_ix ((pv_ix ((pvv 1)).sh (pv_int).sh)).sh (pv_int).sh) (pas_cons (pv_ix ((pv_ix ((pvv 1)).sh ((pv_neg pv_int)).sh)).sh (pv_int).sh) pas_nil))))) pds_nil) (pds_cons (pd_par 3 4 (px_fz ((pf_lst pas_nil)).dp) (px_fz ((pf_lst pas_nil)).dp) rfl sc.nd rfl rfl (by decide) rfl rfl rfl) (pds_cons (pd_for hp rfl (pit_seq (pvv 1)) (pgt_name 5 sc.nd rfl (Or.inl rfl)) (pds_one (pd_par 3 4 (px_fz (pv_add ((pvv 3)).sh ((pv_ix ((pvv 5)).sh (pv_int).sh)).sh)) (px_fz (pv_add ((pvv 4)).sh ((pv_ix ((pvv 5)).sh (pv_int).sh)).sh)) rfl sc.nd rfl rfl (by decide) rfl rfl rfl))) (pds_one (pd_ret (pv_tup (pas_cons (pvv 3) (pas_cons (pvv 4) pas_nil)))))))))))

abbrev s__law_apart : Stmt := top 37
theorem sc__law_apart : FnScope ["_law_told", "_law_begins", "_law_ends", "_law_step"] ["_law_told"] (defScope s__law_apart) := ⟨rfl, rfl, rfl, by decide +kernel, rfl, by decide +kernel, by decide +kernel⟩
noncomputable def g__law_apart {W : Type} (c : Cs) : Rho → M W Fl := (seqD (dUnp (gT2 1 2) (fCall 1 (aCons (fVar 0) aNil) (F__law_edges c 30))) (dRet (f2 (eqT false) (asL (fLc (fItems (fVar 1)) [3] (gN 3) (fB (f2 (inT false) (fVar 3) (fVar 2))) (fVar 3))) (asL (fLst aNil)))))
noncomputable def F__law_apart {W : Type} (c : Cs) : List T → M W T := run 3 (g__law_apart c)
theorem ok__law_apart {P : Program} {w : World} {K : PySem.W.Frag} {mg : Str → Option Value} {base : Heap} {c : Cs} {W : Type} (TX : Txt K mg c) (D : DefAt K mg "_law_apart" s__law_apart) (D__law_edges : DefOk (L2.CX P w) P w K mg base 30 "_law_edges" 1 ((F__law_edges c 30) : List T → M W T)) : DefOk (L2.CX P w) P w K mg base 31 "_law_apart" 1 (F__law_apart c : List T → M W T) := by
  refine def_ok (k := 30) D sc__law_apart rfl rfl (fun _ _ _ _ _ _ us hl => match us, hl with | [_], _ => rfl) fun f cdv A outer s H E G hr hgd => ?_
  · show PDs _ G E (defBody s__law_apart) (g__law_apart c)
    have hu := hu200 hr
    have hu1 := hu_of hr
    have sc := sc__law_apart
    have hp : PassesOwn _ _ _ _ := passes_of (K := fun e s'' => L2.CX P w outer H s E e s'') (X := (cxOf (L2.CX P w) P w K mg base ["_law_told", "_law_begins", "_law_ends", "_law_step"] "_law_apart" (defScope s__law_apart) f cdv A outer s H E)) rfl
    have hx : Passes (L2.CX P w) (cxOf (L2.CX P w) P w K mg base ["_law_told", "_law_begins", "_law_ends", "_law_step"] "_law_apart" (defScope s__law_apart) f cdv A outer s H E) E := passes_call (takes_of rfl rfl rfl rfl) fun _ _ _ _ h => h
    exact (pds_cons (pd_unp (pv_call D__law_edges hr hgd (by omega) (by rfl) hx (pas_cons (pvv 0) pas_nil)) (pgt_tup2 1 2 rfl sc.nd rfl rfl (by first | exact Or.inl rfl | exact Or.inr rfl) (by first | exact Or.inl rfl | exact Or.inr rfl))) (pds_one (pd_ret (pv_eq hu ((pf_lc (own := [("_law_step", 3)]) (is := [3]) rfl sc.nd (pit_seq (pvv 1)) (blkOk_by (N := ["_law_told", "_law_begins", "_law_ends", "_law_step"]) (sc := defScope s__law_apart) (by decide +kernel)) ⟨fun _ _ _ _ _ => (pgt_name 3 sc.nd rfl (Or.inl rfl)), fun _ _ _ _ _ => (pts_oneM (pb_in hu ((pvv 3)).sh ((pvv 2)).sh)), fun _ _ _ _ _ => (pvv 3)⟩ (by decide))).sh ((pf_lst pas_nil)).sh))))

abbrev s__law_least : Stmt := top 39
theorem sc__law_least : FnScope ["_law_told"] ["_law_told"] (defScope s__law_least) := ⟨rfl, rfl, rfl, by decide +kernel, rfl, by decide +kernel, by decide +kernel⟩
noncomputable def g__law_least {W : Type} (c : Cs) : Rho → M W Fl := (dRet (f1 minT (fCall 1 (aCons (fVar 0) aNil) (F__law_steps c 30))))
noncomputable def F__law_least {W : Type} (c : Cs) : List T → M W T := run 0 (g__law_least c)
theorem ok__law_least {P : Program} {w : World} {K : PySem.W.Frag} {mg : Str → Option Value} {base : Heap} {c : Cs} {W : Type} (TX : Txt K mg c) (D : DefAt K mg "_law_least" s__law_least) (D__law_steps : DefOk (L2.CX P w) P w K mg base 30 "_law_steps" 1 ((F__law_steps c 30) : List T → M W T)) : DefOk (L2.CX P w) P w K mg base 31 "_law_least" 1 (F__law_least c : List T → M W T) := by
  refine def_ok (k := 30) D sc__law_least rfl rfl (fun _ _ _ _ _ _ us hl => match us, hl with | [_], _ => rfl) fun f cdv A outer s H E G hr hgd => ?_
  · show PDs _ G E (defBody s__law_least) (g__law_least c)
    have hu := hu200 hr
    have hu1 := hu_of hr
    have sc := sc__law_least
    have hp : PassesOwn _ _ _ _ := passes_of (K := fun e s'' => L2.CX P w outer H s E e s'') (X := (cxOf (L2.CX P w) P w K mg base ["_law_told"] "_law_least" (defScope s__law_least) f cdv A outer s H E)) rfl
    have hx : Passes (L2.CX P w) (cxOf (L2.CX P w) P w K mg base ["_law_told"] "_law_least" (defScope s__law_least) f cdv A outer s H E) E := passes_call (takes_of rfl rfl rfl rfl) fun _ _ _ _ h => h
    exact (pds_one (pd_ret (pv_b1 (call_minA rfl hu) minG (by rfl) TX.n_min boot_min ((pv_call D__law_steps hr hgd (by omega) (by rfl) hx (pas_cons (pvv 0) pas_nil))).sh)))

abbrev s__law_once : Stmt := top 40
theorem sc__law_once : FnScope ["_law_told", "_law_body", "_law_word", "_law_parts", "_law_found", "_law_k", "_law_part"] ["_law_told"] (defScope s__law_once) := ⟨rfl, rfl, rfl, by decide +kernel, rfl, by decide +kernel, by decide +kernel⟩
noncomputable def g__law_once {W : Type} (c : Cs) : Rho → M W Fg := (seqGG (gIf (fB (f1 (isaT "str") (fVar 0))) (gRet (fLst aNil)) (fun ρ => ret (.nx ρ))) (seqGG (gIf (fB (f2 (eqT false) (f2 ixT (fVar 0) (fC (.int 0))) (fC (.str "again")))) (seqG (dSet 1 (xFz (f2 ixT (fVar 0) (fC (.int 1))))) (seqGG (gIf (bOr (fB (f1 (isaT "str") (fVar 1))) (fB (f2 (eqT true) (f2 ixT (fVar 1) (fC (.int 0))) (fC (.str "again"))))) (gRet (fLst aNil)) (fun ρ => ret (.nx ρ))) (gRet (fLst (aCons (fTup (aCons (fC (.str "again")) (aCons (f2 ixT (fVar 1) (fC (.int 1))) (aCons (fTup (aCons (fC (.str "either")) (aCons (fTup (aCons (f2 ixT (fVar 1) (fC (.int 2))) (aCons (f2 ixT (fVar 0) (fC (.int 2))) aNil))) aNil))) aNil)))) aNil))))) (fun ρ => ret (.nx ρ))) (seqG (dPar3 2 3 4 (xFz (f2 ixT (fVar 0) (fC (.int 0)))) (xFz (f2 ixT (fVar 0) (fC (.int 1)))) (xOw (fLst aNil))) (seqG (dFor (fRange1 (f1 lenT (fVar 3))) (gN 5) (seqD (dSet 6 (xFz (f2 ixT (fVar 3) (fVar 5)))) (seqD (dIf (bAnd (bNot (fB (f1 (isaT "str") (fVar 6)))) (fB (f2 (eqT false) (f2 ixT (fVar 6) (fC (.int 0))) (fVar 2)))) (dAppend 4 (fTup (aCons (fVar 2) (aCons (f2 addT (f2 addT (fSlice (fVar 3) fNoPart (fPart (fVar 5))) (f2 ixT (fVar 6) (fC (.int 1)))) (fSlice (fVar 3) (fPart (f2 addT (fVar 5) (fC (.int 1)))) fNoPart)) aNil)))) (fun ρ => ret (.nx ρ))) (dIf (bAnd (fB (f2 (eqT true) (fVar 2) (fC (.str "behind")))) (bAnd (fB (f2 (ltT fun i j => decide (j < i)) (fVar 5) (fC (.int 0)))) (fB (f2 ltS (fCall 1 (aCons (f2 ixT (fVar 3) (fVar 5)) aNil) (F__law_least c)) (fCall 1 (aCons (f2 ixT (fVar 3) (f2 subT (fVar 5) (fC (.int 1)))) aNil) (F__law_least c)))))) (dAppend 4 (fTup (aCons (fVar 2) (aCons (f2 addT (f2 addT (fSlice (fVar 3) fNoPart (fPart (f2 subT (fVar 5) (fC (.int 1))))) (fTup (aCons (f2 ixT (fVar 3) (fVar 5)) (aCons (f2 ixT (fVar 3) (f2 subT (fVar 5) (fC (.int 1)))) aNil)))) (fSlice (fVar 3) (fPart (f2 addT (fVar 5) (fC (.int 1)))) fNoPart)) aNil)))) (fun ρ => ret (.nx ρ)))))) (gOwn 4)))))
noncomputable def F__law_once {W : Type} (c : Cs) : List T → M W (List T) := runL 6 (g__law_once c)
theorem ok__law_once {P : Program} {w : World} {K : PySem.W.Frag} {mg : Str → Option Value} {base : Heap} {c : Cs} {W : Type} (TX : Txt K mg c) (D : DefAt K mg "_law_once" s__law_once) (D__law_least : DefOk (L2.CX P w) P w K mg base 31 "_law_least" 1 ((F__law_least c) : List T → M W T)) : DefOkL (L2.CX P w) P w K mg base 32 "_law_once" 1 (F__law_once c : List T → M W (List T)) := by
  refine def_okL (k := 31) D sc__law_once rfl rfl (fun _ _ _ _ _ _ us hl => match us, hl with | [_], _ => rfl) fun f cdv A outer s H E G hr hgd => ?_
  · show PGs _ G E (defBody s__law_once) (g__law_once c)
    have hu := hu200 hr
    have hu1 := hu_of hr
    have sc := sc__law_once
    have hp : PassesOwn _ _ _ _ := passes_of (K := fun e s'' => L2.CX P w outer H s E e s'') (X := (cxOf (L2.CX P w) P w K mg base ["_law_told", "_law_body", "_law_word", "_law_parts", "_law_found", "_law_k", "_law_part"] "_law_once" (defScope s__law_once) f cdv A outer s H E)) rfl
    have hx : Passes (L2.CX P w) (cxOf (L2.CX P w) P w K mg base ["_law_told", "_law_body", "_law_word", "_law_parts", "_law_found", "_law_k", "_law_part"] "_law_once" (defScope s__law_once) f cdv A outer s H E) E := passes_call (takes_of rfl rfl rfl rfl) fun _ _ _ _ h => h
    exact (pgs_consG (pg_if (pb_val (pv_isa (by rfl) TX.n_isinstance (by rfl) TX.n_str (by decide +kernel) ((pvv 0)).sh)) (pgs_one (pg_ret (pf_lst pas_nil))) pgs_nil) (pgs_consG (pg_if (pb_eq hu ((pv_ix ((pvv 0)).sh (pv_int).sh)).sh (pv_str).sh) (pgs_cons (pd_set 1 (px_fz (pv_ix ((pvv 0)).sh (pv_int).sh)) sc.nd rfl (by first | exact Or.inl rfl | exact Or.inr rfl)) (pgs_consG (pg_if (pbw_or (pb_val (pv_isa (by rfl) TX.n_isinstance (by rfl) TX.n_str (by decide +kernel) ((pvv 1)).sh)) (pbw_or1 (pb_ne hu ((pv_ix ((pvv 1)).sh (pv_int).sh)).sh (pv_str).sh))).pb (pgs_one (pg_ret (pf_lst pas_nil))) pgs_nil) (pgs_one (pg_ret (pf_lst (pas_cons (pv_tup (pas_cons pv_str (pas_cons (pv_ix ((pvv 1)).sh (pv_int).sh) (pas_cons (pv_tup (pas_cons pv_str (pas_cons (pv_tup (pas_cons (pv_ix ((pvv 1)).sh (pv_int).sh) (pas_cons (pv_ix ((pvv 0)).sh (pv_int).sh) pas_nil))) pas_nil))) pas_nil)))) pas_nil)))))) pgs_nil) (pgs_cons (pd_par3 2 3 4 (px_fz (pv_ix ((pvv 0)).sh (pv_int).sh)) (px_fz (pv_ix ((pvv 0)).sh (pv_int).sh)) (px_ow (pf_lst pas_nil)) rfl sc.nd rfl rfl rfl (by decide) (by decide) (by decide) rfl rfl rfl rfl) (pgs_cons (pd_for hp rfl (pit_range1 (by rfl) TX.n_range (pv_b1 call_lenA lenG (by rfl) TX.n_len PySem.boot_len ((pvv 3)).sh)) (pgt_name 5 sc.nd rfl (Or.inl rfl)) (pds_cons (pd_set 6 (px_fz (pv_ix ((pvv 3)).sh ((pvv 5)).sh)) sc.nd rfl (by first | exact Or.inl rfl | exact Or.inr rfl)) (pds_cons (pd_if (pbw_and (pb_not (pb_val (pv_isa (by rfl) TX.n_isinstance (by rfl) TX.n_str (by decide +kernel) ((pvv 6)).sh))) (pbw_and1 (pb_eq hu ((pv_ix ((pvv 6)).sh (pv_int).sh)).sh ((pvv 2)).sh))).pb (pds_one (pd_append 4 (pv_tup (pas_cons (pvv 2) (pas_cons (pv_add ((pv_add ((pv_slice ((pvv 3)).sh pp_none (pp_some (pvv 5)))).sh ((pv_ix ((pvv 6)).sh (pv_int).sh)).sh)).sh ((pv_slice ((pvv 3)).sh (pp_some (pv_add ((pvv 5)).sh (pv_int).sh)) pp_none)).sh) pas_nil))) rfl (by first | exact Or.inl rfl | exact Or.inr (Or.inl rfl) | exact Or.inr (Or.inr rfl)) rfl rfl (fun h => pe_bm PySem.F.plainAttrs_list PySem.F.slot_list_append PySem.F.type_list_append mt_append (L2.pv 4) (pa_cons h pa_nil)))) pds_nil) (pds_one (pd_if (pbw_and (pb_ne hu ((pvv 2)).sh (pv_str).sh) (pbw_and (pb_gt ((pvv 5)).sh (pv_int).sh) (pbw_and1 (pb_ltS ((pv_call D__law_least hr hgd (by omega) (by rfl) hx (pas_cons (pv_ix ((pvv 3)).sh ((pvv 5)).sh) pas_nil))).sh ((pv_call D__law_least hr hgd (by omega) (by rfl) hx (pas_cons (pv_ix ((pvv 3)).sh ((pv_sub ((pvv 5)).sh (pv_int).sh)).sh) pas_nil))).sh)))).pb (pds_one (pd_append 4 (pv_tup (pas_cons (pvv 2) (pas_cons (pv_add ((pv_add ((pv_slice ((pvv 3)).sh pp_none (pp_some (pv_sub ((pvv 5)).sh (pv_int).sh)))).sh ((pv_tup (pas_cons (pv_ix ((pvv 3)).sh ((pvv 5)).sh) (pas_cons (pv_ix ((pvv 3)).sh ((pv_sub ((pvv 5)).sh (pv_int).sh)).sh) pas_nil)))).sh)).sh ((pv_slice ((pvv 3)).sh (pp_some (pv_add ((pvv 5)).sh (pv_int).sh)) pp_none)).sh) pas_nil))) rfl (by first | exact Or.inl rfl | exact Or.inr (Or.inl rfl) | exact Or.inr (Or.inr rfl)) rfl rfl (fun h => pe_bm PySem.F.plainAttrs_list PySem.F.slot_list_append PySem.F.type_list_append mt_append (L2.pv 4) (pa_cons h pa_nil)))) pds_nil))))) (pgs_one (pg_own 4 (L2.pv 4)))))))

abbrev s__law_all_once : Stmt := top 41
theorem sc__law_all_once : FnScope ["_law_told", "_law_found", "_law_body", "_law_later", "_law_k", "_law_part"] ["_law_told"] (defScope s__law_all_once) := ⟨rfl, rfl, rfl, by decide +kernel, rfl, by decide +kernel, by decide +kernel⟩
noncomputable def g__law_all_once {W : Type} (c : Cs) (rec : List T → M W T) : Rho → M W Fl := (seqD (dIf (fB (f1 (isaT "str") (fVar 0))) (dRet (asL (fLst aNil))) (fun ρ => ret (.nx ρ))) (seqD (dSet 1 (xOw (fCallL 1 (aCons (fVar 0) aNil) (F__law_once c)))) (seqD (dIf (fB (f2 (eqT false) (f2 ixT (fVar 0) (fC (.int 0))) (fC (.str "again")))) (seqD (dSet 1 (xOw (f2l catT (fVarS 1) (asL (fLc (fItems (fCall 1 (aCons (f2 ixT (fVar 0) (fC (.int 1))) aNil) rec)) [2] (gN 2) tYesM (fTup (aCons (fC (.str "again")) (aCons (fVar 2) (aCons (f2 ixT (fVar 0) (fC (.int 2))) aNil))))))))) (fun ρ => (dRet (f2 addT (fVar 1) (asL (fLc (fItems (fCall 1 (aCons (f2 ixT (fVar 0) (fC (.int 2))) aNil) rec)) [3] (gN 3) tYesM (fTup (aCons (fC (.str "again")) (aCons (f2 ixT (fVar 0) (fC (.int 1))) (aCons (fVar 3) aNil)))))))) (frzAt 1 ρ))) (fun ρ => ret (.nx ρ))) (seqD (dFor (fRange1 (f1 lenT (f2 ixT (fVar 0) (fC (.int 1))))) (gN 4) (dFor (fItems (fCall 1 (aCons (f2 ixT (f2 ixT (fVar 0) (fC (.int 1))) (fVar 4)) aNil) rec)) (gN 5) (dAppend 1 (fTup (aCons (f2 ixT (fVar 0) (fC (.int 0))) (aCons (f2 addT (f2 addT (fSlice (f2 ixT (fVar 0) (fC (.int 1))) fNoPart (fPart (fVar 4))) (fTup (aCons (fVar 5) aNil))) (fSlice (f2 ixT (fVar 0) (fC (.int 1))) (fPart (f2 addT (fVar 4) (fC (.int 1)))) fNoPart)) aNil)))))) (fun ρ => (dRet (fVar 1)) (frzAt 1 ρ))))))
noncomputable def F__law_all_once {W : Type} (c : Cs) : Nat → List T → M W T
  | 0 => fun _ => stuck
  | n + 1 => run 5 (g__law_all_once c (F__law_all_once c n))
theorem ok__law_all_once {P : Program} {w : World} {K : PySem.W.Frag} {mg : Str → Option Value} {base : Heap} {c : Cs} {W : Type} (TX : Txt K mg c) (D : DefAt K mg "_law_all_once" s__law_all_once) (D__law_once : DefOkL (L2.CX P w) P w K mg base 32 "_law_once" 1 ((F__law_once c) : List T → M W (List T))) : ∀ n, DefOk (L2.CX P w) P w K mg base (32 + n) "_law_all_once" 1 (F__law_all_once c n : List T → M W T)
  | 0 => def_stuck (ps := ["_law_told"]) D rfl (fun _ _ _ _ _ _ us hl => match us, hl with | [_], _ => rfl)
  | n + 1 => by
    have D__law_all_once := ok__law_all_once (P := P) (w := w) (base := base) (W := W) TX D D__law_once n
    refine def_ok (k := 32 + n) D sc__law_all_once rfl rfl (fun _ _ _ _ _ _ us hl => match us, hl with | [_], _ => rfl) fun f cdv A outer s H E G hr hgd => ?_
    show PDs _ G E (defBody s__law_all_once) (g__law_all_once c (F__law_all_once c n))
    have hu := hu200 hr
    have hu1 := hu_of hr
    have sc := sc__law_all_once
    have hp : PassesOwn _ _ _ _ := passes_of (K := fun e s'' => L2.CX P w outer H s E e s'') (X := (cxOf (L2.CX P w) P w K mg base ["_law_told", "_law_found", "_law_body", "_law_later", "_law_k", "_law_part"] "_law_all_once" (defScope s__law_all_once) f cdv A outer s H E)) rfl
    have hx : Passes (L2.CX P w) (cxOf (L2.CX P w) P w K mg base ["_law_told", "_law_found", "_law_body", "_law_later", "_law_k", "_law_part"] "_law_all_once" (defScope s__law_all_once) f cdv A outer s H E) E := passes_call (takes_of rfl rfl rfl rfl) fun _ _ _ _ h => h
    exact (pds_cons (pd_if (pb_val (pv_isa (by rfl) TX.n_isinstance (by rfl) TX.n_str (by decide +kernel) ((pvv 0)).sh)) (pds_one (pd_ret ((pf_lst pas_nil)).dp)) pds_nil) (pds_cons (pd_set 1 (px_ow (pf_call D__law_once hr hgd (by omega) (by rfl) hx (pas_cons (pvv 0) pas_nil))) sc.nd rfl (by first | exact Or.inl rfl | exact Or.inr rfl)) (pds_cons (pd_if (pb_eq hu ((pv_ix ((pvv 0)).sh (pv_int).sh)).sh (pv_str).sh) (pds_cons (pd_set 1 (px_ow (pf_cat (pvvS 1) ((pf_lc (own := [("_law_body", 2)]) (is := [2]) rfl sc.nd (pit_seq (pv_call D__law_all_once hr hgd (by omega) (by rfl) hx (pas_cons (pv_ix ((pvv 0)).sh (pv_int).sh) pas_nil))) (blkOk_by (N := ["_law_told", "_law_found", "_law_body", "_law_later", "_law_k", "_law_part"]) (sc := defScope s__law_all_once) (by decide +kernel)) ⟨fun _ _ _ _ _ => (pgt_name 2 sc.nd rfl (Or.inl rfl)), fun _ _ _ _ _ => pts_nilM, fun _ _ _ _ _ => (pv_tup (pas_cons pv_str (pas_cons (pvv 2) (pas_cons (pv_ix ((pvv 0)).sh (pv_int).sh) pas_nil))))⟩ (by decide))).sh)) sc.nd rfl (by first | exact Or.inl rfl | exact Or.inr rfl)) (pds_one (pd_frz 1 (pd_ret (pv_add ((pvv 1)).sh ((pf_lc (own := [("_law_later", 3)]) (is := [3]) rfl sc.nd (pit_seq (pv_call D__law_all_once hr hgd (by omega) (by rfl) hx (pas_cons (pv_ix ((pvv 0)).sh (pv_int).sh) pas_nil))) (blkOk_by (N := ["_law_told", "_law_found", "_law_body", "_law_later", "_law_k", "_law_part"]) (sc := defScope s__law_all_once) (by decide +kernel)) ⟨fun _ _ _ _ _ => (pgt_name 3 sc.nd rfl (Or.inl rfl)), fun _ _ _ _ _ => pts_nilM, fun _ _ _ _ _ => (pv_tup (pas_cons pv_str (pas_cons (pv_ix ((pvv 0)).sh (pv_int).sh) (pas_cons (pvv 3) pas_nil))))⟩ (by decide))).sh))))) pds_nil) (pds_cons (pd_for hp rfl (pit_range1 (by rfl) TX.n_range (pv_b1 call_lenA lenG (by rfl) TX.n_len PySem.boot_len ((pv_ix ((pvv 0)).sh (pv_int).sh)).sh)) (pgt_name 4 sc.nd rfl (Or.inl rfl)) (pds_one (pd_for hp rfl (pit_seq (pv_call D__law_all_once hr hgd (by omega) (by rfl) hx (pas_cons (pv_ix ((pv_ix ((pvv 0)).sh (pv_int).sh)).sh ((pvv 4)).sh) pas_nil))) (pgt_name 5 sc.nd rfl (Or.inl rfl)) (pds_one (pd_append 1 (pv_tup (pas_cons (pv_ix ((pvv 0)).sh (pv_int).sh) (pas_cons (pv_add ((pv_add ((pv_slice ((pv_ix ((pvv 0)).sh (pv_int).sh)).sh pp_none (pp_some (pvv 4)))).sh ((pv_tup (pas_cons (pvv 5) pas_nil))).sh)).sh ((pv_slice ((pv_ix ((pvv 0)).sh (pv_int).sh)).sh (pp_some (pv_add ((pvv 4)).sh (pv_int).sh)) pp_none)).sh) pas_nil))) rfl (by first | exact Or.inl rfl | exact Or.inr (Or.inl rfl) | exact Or.inr (Or.inr rfl)) rfl rfl (fun h => pe_bm PySem.F.plainAttrs_list PySem.F.slot_list_append PySem.F.type_list_append mt_append (L2.pv 1) (pa_cons h pa_nil))))))) (pds_one (pd_frz 1 (pd_ret (pvv 1))))))))

abbrev s__law_draw : Stmt := top 31
theorem sc__law_draw : FnScope ["_law_state", "_law_size", "_law_found", "_law_turn", "_law_cell", "_law_mixed_here"] ["_law_state", "_law_size"] (defScope s__law_draw) := ⟨rfl, rfl, rfl, by decide +kernel, rfl, by decide +kernel, by decide +kernel⟩
noncomputable def g__law_draw (c : Cs) : Rho → M Dr Fl := (seqD (dWhile (bAnd (fB (f2 (eqT false) (fRest 0) (fC (.int 0)))) (fB (fNe Dr.large 0))) (dRestPop 0)) (seqD (dIf (fB (f2 (ltT fun i j => decide (j < i)) (fRest 0) (fC (.int 0)))) (seqD (dSet 2 (xFz (f2 modT (f1 toInt (fRest 0)) (fVar 1)))) (seqD (dRest 0 (f2 fdivT (fRest 0) (fVar 1))) (dRet (fVar 2)))) (fun ρ => ret (.nx ρ))) (seqD (dSet 3 (xFz (f2 addT (fTurn 0) (fC (.int 1))))) (seqD (dTurn 0 (fVar 3)) (seqD (dSet 4 (xFz (fIf (fB (fNe Dr.cells 0)) (fCell 0 (f2 modT (f1 toInt (fVar 3)) (fLenC 0))) (fC (.int 0))))) (seqD (dSet 5 (xFz (f2 modT (f1 toInt (f2 powT (f2 addT (f2 addT (f2 modT (f1 toInt (fVar 4)) (fC (.int 2147483563))) (f2 mulT (fC (.int 48271)) (fVar 3))) (fC (.int 54321))) (fC (.int 3)))) (fC (.int 2147483647))))) (dRet (f2 modT (f1 toInt (f2 fdivT (f2 modT (f1 toInt (f2 powT (f2 addT (fVar 5) (f2 mulT (fC (.int 130363)) (fVar 3))) (fC (.int 5)))) (fC (.int 2147483549))) (fC (.int 17)))) (fVar 1)))))))))
noncomputable def F__law_draw (c : Cs) : List T → M Dr T := run 4 (g__law_draw c)
theorem ok__law_draw {P : Program} {w : World} {K : PySem.W.Frag} {mg : Str → Option Value} {base : Heap} {c : Cs} (TX : Txt K mg c) (D : DefAt K mg "_law_draw" s__law_draw)  : DefOk (L2.CX P w) P w K mg base 1 "_law_draw" 2 (F__law_draw c : List T → M Dr T) := by
  refine def_ok (k := 0) D sc__law_draw rfl rfl (fun _ _ _ _ _ _ us hl => match us, hl with | [_, _], _ => rfl) fun f cdv A outer s H E G hr hgd => ?_
  · show PDs _ G E (defBody s__law_draw) (g__law_draw c)
    have hu := hu200 hr
    have hu1 := hu_of hr
    have sc := sc__law_draw
    have hp : PassesOwn _ _ _ _ := passes_of (K := fun e s'' => L2.CX P w outer H s E e s'') (X := (cxOf (L2.CX P w) P w K mg base ["_law_state", "_law_size", "_law_found", "_law_turn", "_law_cell", "_law_mixed_here"] "_law_draw" (defScope s__law_draw) f cdv A outer s H E)) rfl
    have hx : Passes (L2.CX P w) (cxOf (L2.CX P w) P w K mg base ["_law_state", "_law_size", "_law_found", "_law_turn", "_law_cell", "_law_mixed_here"] "_law_draw" (defScope s__law_draw) f cdv A outer s H E) E := passes_call (takes_of rfl rfl rfl rfl) fun _ _ _ _ h => h
    exact (pds_cons (pd_while hp (pbw_and (pb_eq hu ((pv_rest 0 hu1 (L2.pv 0))).sh (pv_int).sh) (pbw_and1 (pb_wlarge 0 hu (L2.pv 0)))).pb (pds_one (pd_restPop 0 hu1 (L2.pv 0) (L2.pv 0) (fun h1 h2 => pe_bm PySem.F.plainAttrs_list PySem.F.slot_list_pop PySem.F.type_list_pop mt_popAt h1 (pa_cons h2 pa_nil))))) (pds_cons (pd_if (pb_gt ((pv_rest 0 hu1 (L2.pv 0))).sh (pv_int).sh) (pds_cons (pd_set 2 (px_fz (pv_mod ((pv_t1 call_int1 intCG (by rfl) TX.n_int boot_int ((pv_rest 0 hu1 (L2.pv 0))).sh)).sh ((pvv 1)).sh)) sc.nd rfl (by first | exact Or.inl rfl | exact Or.inr rfl)) (pds_cons (pd_rest 0 hu1 (L2.pv 0) (pv_fdiv ((pv_rest 0 hu1 (L2.pv 0))).sh ((pvv 1)).sh)) (pds_one (pd_ret (pvv 2))))) pds_nil) (pds_cons (pd_set 3 (px_fz (pv_add ((pv_turn 0 hu1 (L2.pv 0))).sh (pv_int).sh)) sc.nd rfl (by first | exact Or.inl rfl | exact Or.inr rfl)) (pds_cons (pd_turn 0 hu1 (L2.pv 0) (pvv 3)) (pds_cons (pd_set 4 (px_fz (pv_if (pb_wcells 0 hu (L2.pv 0)) (pv_cell 0 hu1 (L2.pv 0) (pv_mod ((pv_t1 call_int1 intCG (by rfl) TX.n_int boot_int ((pvv 3)).sh)).sh ((pv_lenC 0 hu1 (L2.pv 0) (by rfl) TX.n_len)).sh)) pv_int)) sc.nd rfl (by first | exact Or.inl rfl | exact Or.inr rfl)) (pds_cons (pd_set 5 (px_fz (pv_mod ((pv_t1 call_int1 intCG (by rfl) TX.n_int boot_int ((pv_pow ((pv_add ((pv_add ((pv_mod ((pv_t1 call_int1 intCG (by rfl) TX.n_int boot_int ((pvv 4)).sh)).sh (pv_int).sh)).sh ((pv_mul (pv_int).sh ((pvv 3)).sh)).sh)).sh (pv_int).sh)).sh (pv_int).sh)).sh)).sh (pv_int).sh)) sc.nd rfl (by first | exact Or.inl rfl | exact Or.inr rfl)) (pds_one (pd_ret (pv_mod ((pv_t1 call_int1 intCG (by rfl) TX.n_int boot_int ((pv_fdiv ((pv_mod ((pv_t1 call_int1 intCG (by rfl) TX.n_int boot_int ((pv_pow ((pv_add ((pvv 5)).sh ((pv_mul (pv_int).sh ((pvv 3)).sh)).sh)).sh (pv_int).sh)).sh)).sh (pv_int).sh)).sh (pv_int).sh)).sh)).sh ((pvv 1)).sh)))))))))

abbrev s__law_pick : Stmt := top 32
theorem sc__law_pick : FnScope ["_law_state", "_law_some"] ["_law_state", "_law_some"] (defScope s__law_pick) := ⟨rfl, rfl, rfl, by decide +kernel, rfl, by decide +kernel, by decide +kernel⟩
noncomputable def g__law_pick (c : Cs) : Rho → M Dr Fl := (dRet (f2 ixT (fVar 1) (fCall 2 (aCons (fVar 0) (aCons (f1 lenT (fVar 1)) aNil)) (F__law_draw c))))
noncomputable def F__law_pick (c : Cs) : List T → M Dr T := run 0 (g__law_pick c)
theorem ok__law_pick {P : Program} {w : World} {K : PySem.W.Frag} {mg : Str → Option Value} {base : Heap} {c : Cs} (TX : Txt K mg c) (D : DefAt K mg "_law_pick" s__law_pick) (D__law_draw : DefOk (L2.CX P w) P w K mg base 1 "_law_draw" 2 ((F__law_draw c) : List T → M Dr T)) : DefOk (L2.CX P w) P w K mg base 2 "_law_pick" 2 (F__law_pick c : List T → M Dr T) := by
  refine def_ok (k := 1) D sc__law_pick rfl rfl (fun _ _ _ _ _ _ us hl => match us, hl with | [_, _], _ => rfl) fun f cdv A outer s H E G hr hgd => ?_
  · show PDs _ G E (defBody s__law_pick) (g__law_pick c)
    have hu := hu200 hr
    have hu1 := hu_of hr
    have sc := sc__law_pick
    have hp : PassesOwn _ _ _ _ := passes_of (K := fun e s'' => L2.CX P w outer H s E e s'') (X := (cxOf (L2.CX P w) P w K mg base ["_law_state", "_law_some"] "_law_pick" (defScope s__law_pick) f cdv A outer s H E)) rfl
    have hx : Passes (L2.CX P w) (cxOf (L2.CX P w) P w K mg base ["_law_state", "_law_some"] "_law_pick" (defScope s__law_pick) f cdv A outer s H E) E := passes_call (takes_of rfl rfl rfl rfl) fun _ _ _ _ h => h
    exact (pds_one (pd_ret (pv_ix ((pvv 1)).sh ((pv_call D__law_draw hr hgd (by omega) (by rfl) hx (pas_cons (pvv 0) (pas_cons (pv_b1 call_lenA lenG (by rfl) TX.n_len PySem.boot_len ((pvv 1)).sh) pas_nil)))).sh)))

abbrev s__law_names : Stmt := top 33
theorem sc__law_names : FnScope ["_law_state", "_law_many", "_law_letters", "_law_found", "_law_words", "_law_k", "_law_word", "_law_j", "_law_near", "_law_letter", "_law_name"] ["_law_state", "_law_many"] (defScope s__law_names) := ⟨rfl, rfl, rfl, by decide +kernel, rfl, by decide +kernel, by decide +kernel⟩
noncomputable def g__law_names (c : Cs) : Rho → M Dr Fl := (seqD (dPar 2 3 (xFz (fC (.str "abcdefghijklmnopqrstuvwxyz"))) (xOw (fLst aNil))) (seqD (dSet 4 (xFz (asL (fLst (aCons (fC (.str "behind")) (aCons (fC (.str "either")) (aCons (fC (.str "beside")) (aCons (fC (.str "again")) (aCons (fC (.str "step")) (aCons (fC (.str "begin")) (aCons (fC (.str "end")) (aCons (fC (.str "tie")) (aCons (fC (.str "keep")) (aCons (fC (.str "put")) (aCons (fC (.str "leave")) (aCons (fC (.str "a")) (aCons (fC (.str "b")) aNil))))))))))))))))) (seqD (dFor (fRange1 (fVar 1)) (gN 5) (seqD (dSet 6 (xFz (fCall 2 (aCons (fVar 0) (aCons (f2 addT (fVar 4) (asL (fLst (aCons (fC (.str "c")) (aCons (fC (.str "d")) (aCons (fC (.str "aa")) (aCons (fC (.str "ab")) (aCons (fC (.str "zzzzzz")) aNil)))))))) aNil)) (F__law_pick c)))) (seqD (dIf (fB (f2 (eqT false) (fCall 2 (aCons (fVar 0) (aCons (fC (.int 3)) aNil)) (F__law_draw c)) (fC (.int 0)))) (dSet 6 (xFz (fM1 joinT (fC (.str "")) (asL (fLc (fRange1 (f2 addT (fC (.int 1)) (fCall 2 (aCons (fVar 0) (aCons (fC (.int 6)) aNil)) (F__law_draw c)))) [7] (gN 7) tYesM (fCall 2 (aCons (fVar 0) (aCons (fVar 2) aNil)) (F__law_pick c))))))) (fun ρ => ret (.nx ρ))) (seqD (dSet 8 (xFz (f2 addT (asL (fLst (aCons (fVar 6) aNil))) (asL (fLc (fItems (fVar 2)) [9] (gN 9) tYesM (f2 addT (fSlice (fVar 6) fNoPart (fPart (fC (.int 5)))) (fVar 9))))))) (dAppend 3 (f2 ixT (asL (fLc (fItems (fVar 8)) [10] (gN 10) (fB (f2 (inT true) (fVar 10) (fVarS 3))) (fVar 10))) (fC (.int 0)))))))) (fun ρ => (dRet (fVar 3)) (frzAt 3 ρ)))))
noncomputable def F__law_names (c : Cs) : List T → M Dr T := run 9 (g__law_names c)
theorem ok__law_names {P : Program} {w : World} {K : PySem.W.Frag} {mg : Str → Option Value} {base : Heap} {c : Cs} (TX : Txt K mg c) (D : DefAt K mg "_law_names" s__law_names) (D__law_pick : DefOk (L2.CX P w) P w K mg base 2 "_law_pick" 2 ((F__law_pick c) : List T → M Dr T)) (D__law_draw : DefOk (L2.CX P w) P w K mg base 1 "_law_draw" 2 ((F__law_draw c) : List T → M Dr T)) : DefOk (L2.CX P w) P w K mg base 3 "_law_names" 2 (F__law_names c : List T → M Dr T) := by
  refine def_ok (k := 2) D sc__law_names rfl rfl (fun _ _ _ _ _ _ us hl => match us, hl with | [_, _], _ => rfl) fun f cdv A outer s H E G hr hgd => ?_
  · show PDs _ G E (defBody s__law_names) (g__law_names c)
    have hu := hu200 hr
    have hu1 := hu_of hr
    have sc := sc__law_names
    have hp : PassesOwn _ _ _ _ := passes_of (K := fun e s'' => L2.CX P w outer H s E e s'') (X := (cxOf (L2.CX P w) P w K mg base ["_law_state", "_law_many", "_law_letters", "_law_found", "_law_words", "_law_k", "_law_word", "_law_j", "_law_near", "_law_letter", "_law_name"] "_law_names" (defScope s__law_names) f cdv A outer s H E)) rfl
    have hx : Passes (L2.CX P w) (cxOf (L2.CX P w) P w K mg base ["_law_state", "_law_many", "_law_letters", "_law_found", "_law_words", "_law_k", "_law_word", "_law_j", "_law_near", "_law_letter", "_law_name"] "_law_names" (defScope s__law_names) f cdv A outer s H E) E := passes_call (takes_of rfl rfl rfl rfl) fun _ _ _ _ h => h
    exact (pds_cons (pd_parU 2 3 (px_fz pv_str) (px_ow (pf_lst pas_nil)) rfl sc.nd rfl rfl (by decide) (by first | exact Or.inl rfl | exact Or.inr rfl) (by first | exact Or.inl rfl | exact Or.inr rfl)) (pds_cons (pd_set 4 (px_fz ((pf_lst (pas_cons pv_str (pas_cons pv_str (pas_cons pv_str (pas_cons pv_str (pas_cons pv_str (pas_cons pv_str (pas_cons pv_str (pas_cons pv_str (pas_cons pv_str (pas_cons pv_str (pas_cons pv_str (pas_cons pv_str (pas_cons pv_str pas_nil))))))))))))))).dp) sc.nd rfl (by first | exact Or.inl rfl | exact Or.inr rfl)) (pds_cons (pd_for hp rfl (pit_range1 (by rfl) TX.n_range (pvv 1)) (pgt_name 5 sc.nd rfl (Or.inl rfl)) (pds_cons (pd_set 6 (px_fz (pv_call D__law_pick hr hgd (by omega) (by rfl) hx (pas_cons (pvv 0) (pas_cons (pv_add ((pvv 4)).sh ((pf_lst (pas_cons pv_str (pas_cons pv_str (pas_cons pv_str (pas_cons pv_str (pas_cons pv_str pas_nil))))))).sh) pas_nil)))) sc.nd rfl (by first | exact Or.inl rfl | exact Or.inr rfl)) (pds_cons (pd_if (pb_eq hu ((pv_call D__law_draw hr hgd (by omega) (by rfl) hx (pas_cons (pvv 0) (pas_cons pv_int pas_nil)))).sh (pv_int).sh) (pds_one (pd_set 6 (px_fz (pv_join (pv_str).sh ((pf_lc (own := [("_law_j", 7)]) (is := [7]) rfl sc.nd (pit_range1 (by rfl) TX.n_range (pv_add (pv_int).sh ((pv_call D__law_draw hr hgd (by omega) (by rfl) hx (pas_cons (pvv 0) (pas_cons pv_int pas_nil)))).sh)) (blkOk_by (N := ["_law_state", "_law_many", "_law_letters", "_law_found", "_law_words", "_law_k", "_law_word", "_law_j", "_law_near", "_law_letter", "_law_name"]) (sc := defScope s__law_names) (by decide +kernel)) ⟨fun _ _ _ _ _ => (pgt_name 7 sc.nd rfl (Or.inl rfl)), fun _ _ _ _ _ => pts_nilM, fun _ _ _ _ _ => (pv_call D__law_pick hr hgd (by omega) (by rfl) passL (pas_cons (pvv 0) (pas_cons (pvv 2) pas_nil)))⟩ (by decide))).sh)) sc.nd rfl (by first | exact Or.inl rfl | exact Or.inr rfl))) pds_nil) (pds_cons (pd_set 8 (px_fz (pv_add ((pf_lst (pas_cons (pvv 6) pas_nil))).sh ((pf_lc (own := [("_law_letter", 9)]) (is := [9]) rfl sc.nd (pit_seq (pvv 2)) (blkOk_by (N := ["_law_state", "_law_many", "_law_letters", "_law_found", "_law_words", "_law_k", "_law_word", "_law_j", "_law_near", "_law_letter", "_law_name"]) (sc := defScope s__law_names) (by decide +kernel)) ⟨fun _ _ _ _ _ => (pgt_name 9 sc.nd rfl (Or.inl rfl)), fun _ _ _ _ _ => pts_nilM, fun _ _ _ _ _ => (pv_add ((pv_slice ((pvv 6)).sh pp_none (pp_some pv_int))).sh ((pvv 9)).sh)⟩ (by decide))).sh)) sc.nd rfl (by first | exact Or.inl rfl | exact Or.inr rfl)) (pds_one (pd_append 3 (pv_ix ((pf_lc (own := [("_law_name", 10)]) (is := [10]) rfl sc.nd (pit_seq (pvv 8)) (blkOk_by (N := ["_law_state", "_law_many", "_law_letters", "_law_found", "_law_words", "_law_k", "_law_word", "_law_j", "_law_near", "_law_letter", "_law_name"]) (sc := defScope s__law_names) (by decide +kernel)) ⟨fun _ _ _ _ _ => (pgt_name 10 sc.nd rfl (Or.inl rfl)), fun _ _ _ _ _ => (pts_oneM (pb_notIn hu ((pvv 10)).sh (pvvS 3))), fun _ _ _ _ _ => (pvv 10)⟩ (by decide))).sh (pv_int).sh) rfl (by first | exact Or.inl rfl | exact Or.inr (Or.inl rfl) | exact Or.inr (Or.inr rfl)) rfl rfl (fun h => pe_bm PySem.F.plainAttrs_list PySem.F.slot_list_append PySem.F.type_list_append mt_append (L2.pv 3) (pa_cons h pa_nil)))))))) (pds_one (pd_frz 3 (pd_ret (pvv 3)))))))

abbrev s__law_mixed : Stmt := top 34
theorem sc__law_mixed : FnScope ["_law_state", "_law_some", "_law_left", "_law_found"] ["_law_state", "_law_some"] (defScope s__law_mixed) := ⟨rfl, rfl, rfl, by decide +kernel, rfl, by decide +kernel, by decide +kernel⟩
noncomputable def g__law_mixed (c : Cs) : Rho → M Dr Fl := (seqD (dPar 2 3 (xOw (f1l itemsT (fVar 1))) (xOw (fLst aNil))) (seqD (dWhile (fB (f2 (eqT true) (fVarS 2) (asL (fLst aNil)))) (dAppPop 3 2 (fCall 2 (aCons (fVar 0) (aCons (f1 lenT (fVarS 2)) aNil)) (F__law_draw c)))) (fun ρ => (dRet (fVar 3)) (frzAt 3 ρ))))
noncomputable def F__law_mixed (c : Cs) : List T → M Dr T := run 2 (g__law_mixed c)
theorem ok__law_mixed {P : Program} {w : World} {K : PySem.W.Frag} {mg : Str → Option Value} {base : Heap} {c : Cs} (TX : Txt K mg c) (D : DefAt K mg "_law_mixed" s__law_mixed) (D__law_draw : DefOk (L2.CX P w) P w K mg base 1 "_law_draw" 2 ((F__law_draw c) : List T → M Dr T)) : DefOk (L2.CX P w) P w K mg base 2 "_law_mixed" 2 (F__law_mixed c : List T → M Dr T) := by
  refine def_ok (k := 1) D sc__law_mixed rfl rfl (fun _ _ _ _ _ _ us hl => match us, hl with | [_, _], _ => rfl) fun f cdv A outer s H E G hr hgd => ?_
  · show PDs _ G E (defBody s__law_mixed) (g__law_mixed c)
    have hu := hu200 hr
    have hu1 := hu_of hr
    have sc := sc__law_mixed
    have hp : PassesOwn _ _ _ _ := passes_of (K := fun e s'' => L2.CX P w outer H s E e s'') (X := (cxOf (L2.CX P w) P w K mg base ["_law_state", "_law_some", "_law_left", "_law_found"] "_law_mixed" (defScope s__law_mixed) f cdv A outer s H E)) rfl
    have hx : Passes (L2.CX P w) (cxOf (L2.CX P w) P w K mg base ["_law_state", "_law_some", "_law_left", "_law_found"] "_law_mixed" (defScope s__law_mixed) f cdv A outer s H E) E := passes_call (takes_of rfl rfl rfl rfl) fun _ _ _ _ h => h
    exact (pds_cons (pd_par 2 3 (px_ow (pf_t1 call_list_of lstG (by rfl) TX.n_list boot_list ((pvv 1)).sh)) (px_ow (pf_lst pas_nil)) rfl sc.nd rfl rfl (by decide) rfl rfl rfl) (pds_cons (pd_while hp (pb_ne hu (pvvS 2) ((pf_lst pas_nil)).sh) (pds_one (pd_appPop 3 2 (pv_call D__law_draw hr hgd (by omega) (by rfl) hx (pas_cons (pvv 0) (pas_cons (pv_b1 call_lenA lenG (by rfl) TX.n_len PySem.boot_len (pvvS 2)) pas_nil))) (fun h => pe_bm PySem.F.plainAttrs_list PySem.F.slot_list_append PySem.F.type_list_append mt_append (L2.pv 3) (pa_cons (pe_bm PySem.F.plainAttrs_list PySem.F.slot_list_pop PySem.F.type_list_pop mt_popAt (L2.pv 2) (pa_cons h pa_nil)) pa_nil))))) (pds_one (pd_frz 3 (pd_ret (pvv 3))))))

abbrev s__law_shape : Stmt := top 38
theorem sc__law_shape : FnScope ["_law_state", "_law_names_here", "_law_word", "_law_edge", "_law_body", "_law_parts", "_law_left", "_law_size"] ["_law_state", "_law_names_here"] (defScope s__law_shape) := ⟨rfl, rfl, rfl, by decide +kernel, rfl, by decide +kernel, by decide +kernel⟩
noncomputable def g__law_shape (c : Cs) (rec : List T → M Dr T) : Rho → M Dr Fl := (seqD (dIf (fB (f2 (eqT false) (f1 lenT (fVar 1)) (fC (.int 1)))) (dRet (f2 ixT (fVar 1) (fC (.int 0)))) (fun ρ => ret (.nx ρ))) (seqD (dSet 2 (xFz (fCall 2 (aCons (fVar 0) (aCons (asL (fLst (aCons (fC (.str "behind")) (aCons (fC (.str "either")) (aCons (fC (.str "beside")) (aCons (fC (.str "behind")) (aCons (fC (.str "either")) (aCons (fC (.str "beside")) (aCons (fC (.str "again")) (aCons (fC (.str "again")) aNil)))))))))) aNil)) (F__law_pick c)))) (seqD (dIf (bAnd (fB (f2 (eqT false) (fVar 2) (fC (.str "again")))) (fB (f2 (ltT fun i j => decide (j < i)) (f1 lenT (fVar 1)) (fC (.int 2))))) (seqD (dSet 3 (xFz (f2 addT (fC (.int 2)) (fCall 2 (aCons (fVar 0) (aCons (f2 subT (f1 lenT (fVar 1)) (fC (.int 2))) aNil)) (F__law_draw c))))) (seqD (dSet 4 (xFz (fCall 2 (aCons (fVar 0) (aCons (fSlice (fVar 1) fNoPart (fPart (fVar 3))) aNil)) rec))) (seqD (dIf (bNot (fB (fCall 1 (aCons (fVar 4) aNil) (F__law_apart c)))) (dSet 4 (xFz (fCall 2 (aCons (fVar 0) (aCons (fSlice (fVar 1) fNoPart (fPart (fVar 3))) aNil)) rec))) (fun ρ => ret (.nx ρ))) (seqD (dIf (bNot (fB (fCall 1 (aCons (fVar 4) aNil) (F__law_apart c)))) (dSet 4 (xFz (fTup (aCons (fC (.str "behind")) (aCons (fTup (aCons (fCall 2 (aCons (fVar 0) (aCons (fSlice (fVar 1) fNoPart (fPart (fC (.int 1)))) aNil)) rec) (aCons (fCall 2 (aCons (fVar 0) (aCons (fSlice (fVar 1) (fPart (fC (.int 1))) (fPart (fVar 3))) aNil)) rec) aNil))) aNil))))) (fun ρ => ret (.nx ρ))) (dRet (fTup (aCons (fC (.str "again")) (aCons (fVar 4) (aCons (fCall 2 (aCons (fVar 0) (aCons (fSlice (fVar 1) (fPart (fVar 3)) fNoPart) aNil)) rec) aNil))))))))) (fun ρ => ret (.nx ρ))) (seqD (dSet 2 (xFz (fIf (fB (f2 (eqT false) (fVar 2) (fC (.str "again")))) (fC (.str "behind")) (fVar 2)))) (seqD (dPar 5 6 (xOw (fLst aNil)) (xFz (asL (f1l itemsT (fVar 1))))) (seqD (dWhile (fB (f2 (eqT true) (fVar 6) (asL (fLst aNil)))) (seqD (dSet 7 (xFz (f2 addT (fC (.int 1)) (fCall 2 (aCons (fVar 0) (aCons (f2 subT (f1 lenT (fVar 6)) (f1 toInt (f2 (eqT false) (fVarS 5) (asL (fLst aNil))))) aNil)) (F__law_draw c))))) (seqD (dAppend 5 (fCall 2 (aCons (fVar 0) (aCons (fSlice (fVar 6) fNoPart (fPart (fVar 7))) aNil)) rec)) (dSet 6 (xFz (fSlice (fVar 6) (fPart (fVar 7)) fNoPart)))))) (fun ρ => (dRet (fTup (aCons (fVar 2) (aCons (f1 tupT (fVar 5)) aNil)))) (frzAt 5 ρ))))))))
noncomputable def F__law_shape (c : Cs) : Nat → List T → M Dr T
  | 0 => fun _ => stuck
  | n + 1 => run 6 (g__law_shape c (F__law_shape c n))
theorem ok__law_shape {P : Program} {w : World} {K : PySem.W.Frag} {mg : Str → Option Value} {base : Heap} {c : Cs} (TX : Txt K mg c) (D : DefAt K mg "_law_shape" s__law_shape) (D__law_pick : DefOk (L2.CX P w) P w K mg base 2 "_law_pick" 2 ((F__law_pick c) : List T → M Dr T)) (D__law_draw : DefOk (L2.CX P w) P w K mg base 1 "_law_draw" 2 ((F__law_draw c) : List T → M Dr T)) (D__law_apart : DefOk (L2.CX P w) P w K mg base 31 "_law_apart" 1 ((F__law_apart c) : List T → M Dr T)) : ∀ n, DefOk (L2.CX P w) P w K mg base (31 + n) "_law_shape" 2 (F__law_shape c n : List T → M Dr T)
  | 0 => def_stuck (ps := ["_law_state", "_law_names_here"]) D rfl (fun _ _ _ _ _ _ us hl => match us, hl with | [_, _], _ => rfl)
  | n + 1 => by
    have D__law_shape := ok__law_shape (P := P) (w := w) (base := base) TX D D__law_pick D__law_draw D__law_apart n
    refine def_ok (k := 31 + n) D sc__law_shape rfl rfl (fun _ _ _ _ _ _ us hl => match us, hl with | [_, _], _ => rfl) fun f cdv A outer s H E G hr hgd => ?_
    show PDs _ G E (defBody s__law_shape) (g__law_shape c (F__law_shape c n))
    have hu := hu200 hr
    have hu1 := hu_of hr
    have sc := sc__law_shape
    have hp : PassesOwn _ _ _ _ := passes_of (K := fun e s'' => L2.CX P w outer H s E e s'') (X := (cxOf (L2.CX P w) P w K mg base ["_law_state", "_law_names_here", "_law_word", "_law_edge", "_law_body", "_law_parts", "_law_left", "_law_size"] "_law_shape" (defScope s__law_shape) f cdv A outer s H E)) rfl
    have hx : Passes (L2.CX P w) (cxOf (L2.CX P w) P w K mg base ["_law_state", "_law_names_here", "_law_word", "_law_edge", "_law_body", "_law_parts", "_law_left", "_law_size"] "_law_shape" (defScope s__law_shape) f cdv A outer s H E) E := passes_call (takes_of rfl rfl rfl rfl) fun _ _ _ _ h => h
    exact (pds_cons (pd_if (pb_eq hu ((pv_b1 call_lenA lenG (by rfl) TX.n_len PySem.boot_len ((pvv 1)).sh)).sh (pv_int).sh) (pds_one (pd_ret (pv_ix ((pvv 1)).sh (pv_int).sh))) pds_nil) (pds_cons (pd_set 2 (px_fz (pv_call D__law_pick hr hgd (by omega) (by rfl) hx (pas_cons (pvv 0) (pas_cons ((pf_lst (pas_cons pv_str (pas_cons pv_str (pas_cons pv_str (pas_cons pv_str (pas_cons pv_str (pas_cons pv_str (pas_cons pv_str (pas_cons pv_str pas_nil)))))))))).dp pas_nil)))) sc.nd rfl (by first | exact Or.inl rfl | exact Or.inr rfl)) (pds_cons (pd_if (pbw_and (pb_eq hu ((pvv 2)).sh (pv_str).sh) (pbw_and1 (pb_gt ((pv_b1 call_lenA lenG (by rfl) TX.n_len PySem.boot_len ((pvv 1)).sh)).sh (pv_int).sh))).pb (pds_cons (pd_set 3 (px_fz (pv_add (pv_int).sh ((pv_call D__law_draw hr hgd (by omega) (by rfl) hx (pas_cons (pvv 0) (pas_cons (pv_sub ((pv_b1 call_lenA lenG (by rfl) TX.n_len PySem.boot_len ((pvv 1)).sh)).sh (pv_int).sh) pas_nil)))).sh)) sc.nd rfl (by first | exact Or.inl rfl | exact Or.inr rfl)) (pds_cons (pd_set 4 (px_fz (pv_call D__law_shape hr hgd (by omega) (by rfl) hx (pas_cons (pvv 0) (pas_cons (pv_slice ((pvv 1)).sh pp_none (pp_some (pvv 3))) pas_nil)))) sc.nd rfl (by first | exact Or.inl rfl | exact Or.inr rfl)) (pds_cons (pd_if (pb_not (pb_val (pv_call D__law_apart hr hgd (by omega) (by rfl) hx (pas_cons (pvv 4) pas_nil)))) (pds_one (pd_set 4 (px_fz (pv_call D__law_shape hr hgd (by omega) (by rfl) hx (pas_cons (pvv 0) (pas_cons (pv_slice ((pvv 1)).sh pp_none (pp_some (pvv 3))) pas_nil)))) sc.nd rfl (by first | exact Or.inl rfl | exact Or.inr rfl))) pds_nil) (pds_cons (pd_if (pb_not (pb_val (pv_call D__law_apart hr hgd (by omega) (by rfl) hx (pas_cons (pvv 4) pas_nil)))) (pds_one (pd_set 4 (px_fz (pv_tup (pas_cons pv_str (pas_cons (pv_tup (pas_cons (pv_call D__law_shape hr hgd (by omega) (by rfl) hx (pas_cons (pvv 0) (pas_cons (pv_slice ((pvv 1)).sh pp_none (pp_some pv_int)) pas_nil))) (pas_cons (pv_call D__law_shape hr hgd (by omega) (by rfl) hx (pas_cons (pvv 0) (pas_cons (pv_slice ((pvv 1)).sh (pp_some pv_int) (pp_some (pvv 3))) pas_nil))) pas_nil))) pas_nil)))) sc.nd rfl (by first | exact Or.inl rfl | exact Or.inr rfl))) pds_nil) (pds_one (pd_ret (pv_tup (pas_cons pv_str (pas_cons (pvv 4) (pas_cons (pv_call D__law_shape hr hgd (by omega) (by rfl) hx (pas_cons (pvv 0) (pas_cons (pv_slice ((pvv 1)).sh (pp_some (pvv 3)) pp_none) pas_nil))) pas_nil)))))))))) pds_nil) (pds_cons (pd_set 2 (px_fz (pv_if (pb_eq hu ((pvv 2)).sh (pv_str).sh) pv_str (pvv 2))) sc.nd rfl (by first | exact Or.inl rfl | exact Or.inr rfl)) (pds_cons (pd_par 5 6 (px_ow (pf_lst pas_nil)) (px_fz ((pf_t1 call_list_of lstG (by rfl) TX.n_list boot_list ((pvv 1)).sh)).dp) rfl sc.nd rfl rfl (by decide) rfl rfl rfl) (pds_cons (pd_while hp (pb_ne hu ((pvv 6)).sh ((pf_lst pas_nil)).sh) (pds_cons (pd_set 7 (px_fz (pv_add (pv_int).sh ((pv_call D__law_draw hr hgd (by omega) (by rfl) hx (pas_cons (pvv 0) (pas_cons (pv_sub ((pv_b1 call_lenA lenG (by rfl) TX.n_len PySem.boot_len ((pvv 6)).sh)).sh ((pv_t1 call_int1 intCG (by rfl) TX.n_int boot_int ((pv_eq hu (pvvS 5) ((pf_lst pas_nil)).sh)).sh)).sh) pas_nil)))).sh)) sc.nd rfl (by first | exact Or.inl rfl | exact Or.inr rfl)) (pds_cons (pd_append 5 (pv_call D__law_shape hr hgd (by omega) (by rfl) hx (pas_cons (pvv 0) (pas_cons (pv_slice ((pvv 6)).sh pp_none (pp_some (pvv 7))) pas_nil))) rfl (by first | exact Or.inl rfl | exact Or.inr (Or.inl rfl) | exact Or.inr (Or.inr rfl)) rfl rfl (fun h => pe_bm PySem.F.plainAttrs_list PySem.F.slot_list_append PySem.F.type_list_append mt_append (L2.pv 5) (pa_cons h pa_nil))) (pds_one (pd_set 6 (px_fz (pv_slice ((pvv 6)).sh (pp_some (pvv 7)) pp_none)) sc.nd rfl (by first | exact Or.inl rfl | exact Or.inr rfl)))))) (pds_one (pd_frz 5 (pd_ret (pv_tup (pas_cons (pvv 2) (pas_cons (pv_t1 call_tuple_of tupG (by rfl) TX.n_tuple boot_tuple ((pvv 5)).sh) pas_nil))))))))))))

abbrev s__law_agains : Stmt := top 42
theorem sc__law_agains : FnScope ["_law_state", "_law_names_here", "_law_body", "_law_left", "_law_turn", "_law_size", "_law_between"] ["_law_state", "_law_names_here"] (defScope s__law_agains) := ⟨rfl, rfl, rfl, by decide +kernel, rfl, by decide +kernel, by decide +kernel⟩
noncomputable def g__law_agains (c : Cs) : Rho → M Dr Fl := (seqD (dPar 2 3 (xFz (fTup (aCons (fC (.str "behind")) (aCons (fTup (aCons (f2 ixT (fVar 1) (fC (.int 0))) (aCons (f2 ixT (fVar 1) (fC (.int 1))) aNil))) aNil)))) (xFz (fSlice (fVar 1) (fPart (fC (.int 2))) fNoPart))) (seqD (dFor (fRange1 (fC (.int 3))) (gN 4) (seqD (dSet 5 (xFz (f2 addT (fC (.int 1)) (fCall 2 (aCons (fVar 0) (aCons (fC (.int 2)) aNil)) (F__law_draw c))))) (seqD (dSet 6 (xFz (fIf (fB (f2 (eqT false) (fVar 5) (fC (.int 1)))) (f2 ixT (fVar 3) (fC (.int 0))) (fTup (aCons (fCall 2 (aCons (fVar 0) (aCons (asL (fLst (aCons (fC (.str "either")) (aCons (fC (.str "either")) (aCons (fC (.str "behind")) aNil))))) aNil)) (F__law_pick c)) (aCons (f1 tupT (fSlice (fVar 3) fNoPart (fPart (fC (.int 2))))) aNil)))))) (dPar 2 3 (xFz (fTup (aCons (fC (.str "again")) (aCons (fVar 2) (aCons (fVar 6) aNil))))) (xFz (fSlice (fVar 3) (fPart (fVar 5)) fNoPart)))))) (dRet (fIf (fB (f2 (eqT true) (fVar 3) (asL (fLst aNil)))) (fTup (aCons (fCall 2 (aCons (fVar 0) (aCons (asL (fLst (aCons (fC (.str "beside")) (aCons (fC (.str "behind")) (aCons (fC (.str "either")) aNil))))) aNil)) (F__law_pick c)) (aCons (f2 addT (fTup (aCons (fVar 2) aNil)) (f1 tupT (fVar 3))) aNil))) (fVar 2)))))
noncomputable def F__law_agains (c : Cs) : List T → M Dr T := run 5 (g__law_agains c)
theorem ok__law_agains {P : Program} {w : World} {K : PySem.W.Frag} {mg : Str → Option Value} {base : Heap} {c : Cs} (TX : Txt K mg c) (D : DefAt K mg "_law_agains" s__law_agains) (D__law_draw : DefOk (L2.CX P w) P w K mg base 1 "_law_draw" 2 ((F__law_draw c) : List T → M Dr T)) (D__law_pick : DefOk (L2.CX P w) P w K mg base 2 "_law_pick" 2 ((F__law_pick c) : List T → M Dr T)) : DefOk (L2.CX P w) P w K mg base 3 "_law_agains" 2 (F__law_agains c : List T → M Dr T) := by
  refine def_ok (k := 2) D sc__law_agains rfl rfl (fun _ _ _ _ _ _ us hl => match us, hl with | [_, _], _ => rfl) fun f cdv A outer s H E G hr hgd => ?_
  · show PDs _ G E (defBody s__law_agains) (g__law_agains c)
    have hu := hu200 hr
    have hu1 := hu_of hr
    have sc := sc__law_agains
    have hp : PassesOwn _ _ _ _ := passes_of (K := fun e s'' => L2.CX P w outer H s E e s'') (X := (cxOf (L2.CX P w) P w K mg base ["_law_state", "_law_names_here", "_law_body", "_law_left", "_law_turn", "_law_size", "_law_between"] "_law_agains" (defScope s__law_agains) f cdv A outer s H E)) rfl
    have hx : Passes (L2.CX P w) (cxOf (L2.CX P w) P w K mg base ["_law_state", "_law_names_here", "_law_body", "_law_left", "_law_turn", "_law_size", "_law_between"] "_law_agains" (defScope s__law_agains) f cdv A outer s H E) E := passes_call (takes_of rfl rfl rfl rfl) fun _ _ _ _ h => h
    exact (pds_cons (pd_par 2 3 (px_fz (pv_tup (pas_cons pv_str (pas_cons (pv_tup (pas_cons (pv_ix ((pvv 1)).sh (pv_int).sh) (pas_cons (pv_ix ((pvv 1)).sh (pv_int).sh) pas_nil))) pas_nil)))) (px_fz (pv_slice ((pvv 1)).sh (pp_some pv_int) pp_none)) rfl sc.nd rfl rfl (by decide) rfl rfl rfl) (pds_cons (pd_for hp rfl (pit_range1 (by rfl) TX.n_range pv_int) (pgt_name 4 sc.nd rfl (Or.inl rfl)) (pds_cons (pd_set 5 (px_fz (pv_add (pv_int).sh ((pv_call D__law_draw hr hgd (by omega) (by rfl) hx (pas_cons (pvv 0) (pas_cons pv_int pas_nil)))).sh)) sc.nd rfl (by first | exact Or.inl rfl | exact Or.inr rfl)) (pds_cons (pd_set 6 (px_fz (pv_if (pb_eq hu ((pvv 5)).sh (pv_int).sh) (pv_ix ((pvv 3)).sh (pv_int).sh) (pv_tup (pas_cons (pv_call D__law_pick hr hgd (by omega) (by rfl) hx (pas_cons (pvv 0) (pas_cons ((pf_lst (pas_cons pv_str (pas_cons pv_str (pas_cons pv_str pas_nil))))).dp pas_nil))) (pas_cons (pv_t1 call_tuple_of tupG (by rfl) TX.n_tuple boot_tuple ((pv_slice ((pvv 3)).sh pp_none (pp_some pv_int))).sh) pas_nil))))) sc.nd rfl (by first | exact Or.inl rfl | exact Or.inr rfl)) (pds_one (pd_par 2 3 (px_fz (pv_tup (pas_cons pv_str (pas_cons (pvv 2) (pas_cons (pvv 6) pas_nil))))) (px_fz (pv_slice ((pvv 3)).sh (pp_some (pvv 5)) pp_none)) rfl sc.nd rfl rfl (by decide) rfl rfl rfl))))) (pds_one (pd_ret (pv_if (pb_ne hu ((pvv 3)).sh ((pf_lst pas_nil)).sh) (pv_tup (pas_cons (pv_call D__law_pick hr hgd (by omega) (by rfl) hx (pas_cons (pvv 0) (pas_cons ((pf_lst (pas_cons pv_str (pas_cons pv_str (pas_cons pv_str pas_nil))))).dp pas_nil))) (pas_cons (pv_add ((pv_tup (pas_cons (pvv 2) pas_nil))).sh ((pv_t1 call_tuple_of tupG (by rfl) TX.n_tuple boot_tuple ((pvv 3)).sh)).sh) pas_nil))) (pvv 2))))))

abbrev s_law : Stmt := top 43
theorem sc_law : FnScope ["_law_script", "_law_state", "_law_turn", "_law_told", "_law_made", "_law_due", "_law_some", "_law_is_done"] ["_law_script"] (defScope s_law) := ⟨rfl, rfl, rfl, by decide +kernel, rfl, by decide +kernel, by decide +kernel⟩
noncomputable def g_law (c : Cs) (sa : Addr) (sn : Nat) : Rho → M Dr Fl := (seqD (dFor (fRange1 (f2 addT (fC (.int 4)) (f2 min2T (fScr 0 sa sn) (fC (.int 16))))) (gN 2) (seqD (dSet 3 (xFz (fCall 2 (aCons (fVar 1) (aCons (fCall 2 (aCons (fVar 1) (aCons (fCall 2 (aCons (fVar 1) (aCons (f2 addT (fC (.int 1)) (fCall 2 (aCons (fVar 1) (aCons (fC (.int 10)) aNil)) (F__law_draw c))) aNil)) (F__law_names c)) aNil)) (F__law_mixed c)) aNil)) (F__law_shape c 40)))) (seqD (dIf (fB (f2 (eqT false) (fCall 2 (aCons (fVar 1) (aCons (fC (.int 5)) aNil)) (F__law_draw c)) (fC (.int 0)))) (dSet 3 (xFz (fCall 2 (aCons (fVar 1) (aCons (fCall 2 (aCons (fVar 1) (aCons (fCall 2 (aCons (fVar 1) (aCons (f2 addT (fC (.int 8)) (fCall 2 (aCons (fVar 1) (aCons (fC (.int 3)) aNil)) (F__law_draw c))) aNil)) (F__law_names c)) aNil)) (F__law_mixed c)) aNil)) (F__law_agains c)))) (fun ρ => ret (.nx ρ))) (seqD (dPar 4 5 (xFz (fCall 1 (aCons (fVar 3) aNil) (F_Form_of c))) (xFz (fVar 3))) (seqD (dSet 6 (xFz (fCall 1 (aCons (fVar 5) aNil) (F__law_all_once c 30)))) (seqD (dSet 7 (xFz (f2 (eqT false) (fVar 6) (asL (fLst aNil))))) (seqD (dWhile (fB (f2 (eqT true) (fVar 6) (asL (fLst aNil)))) (seqD (dSet 5 (xFz (fCall 2 (aCons (fVar 1) (aCons (fVar 6) aNil)) (F__law_pick c)))) (dSet 6 (xFz (fCall 1 (aCons (fVar 5) aNil) (F__law_all_once c 30)))))) (seqD (dIf (bOr (fB (f2 (eqT true) (fProp c.Form ns_Form (F_Form_told c) (fCall 1 (aCons (fVar 4) aNil) (F_plain c))) (fVar 5))) (bOr (fB (fEqI true c.Form ns_Form (F_Form___eq__ c) (fCall 1 (aCons (fVar 4) aNil) (F_plain c)) (fCall 1 (aCons (fVar 5) aNil) (F_Form_of c)))) (fB (f2 (eqT true) (f1 reprT (fCall 1 (aCons (fVar 4) aNil) (F_is_plain c))) (f1 reprT (fVar 7)))))) (dRet (fC (.bl false))) (fun ρ => ret (.nx ρ))) (dIf (bOr (fB (f2 (isT true) (fCall 1 (aCons (fCall 1 (aCons (fVar 4) aNil) (F_plain c)) aNil) (F_is_plain c)) (fC (.bl true)))) (bOr (fB (fEqI true c.Form ns_Form (F_Form___eq__ c) (fCall 1 (aCons (fCall 1 (aCons (fVar 4) aNil) (F_plain c)) aNil) (F_plain c)) (fCall 1 (aCons (fVar 4) aNil) (F_plain c)))) (fB (f2 (eqT true) (fProp c.Form ns_Form (F_Form_told c) (fVar 4)) (fVar 3))))) (dRet (fC (.bl false))) (fun ρ => ret (.nx ρ))))))))))) (dRet (fC (.bl true))))
theorem ok_lawrest {P : Program} {w : World} {K : PySem.W.Frag} {mg : Str → Option Value} {base : Heap} {c : Cs} (TX : Txt K mg c) (D__law_draw : DefOk (L2.CX P w) P w K mg base 1 "_law_draw" 2 ((F__law_draw c) : List T → M Dr T)) (D__law_names : DefOk (L2.CX P w) P w K mg base 3 "_law_names" 2 ((F__law_names c) : List T → M Dr T)) (D__law_mixed : DefOk (L2.CX P w) P w K mg base 2 "_law_mixed" 2 ((F__law_mixed c) : List T → M Dr T)) (D__law_shape : DefOk (L2.CX P w) P w K mg base 71 "_law_shape" 2 ((F__law_shape c 40) : List T → M Dr T)) (D__law_agains : DefOk (L2.CX P w) P w K mg base 3 "_law_agains" 2 ((F__law_agains c) : List T → M Dr T)) (D_Form_of : MethOk P w K mg base 61 c.Form_of 1 ((F_Form_of c) : List T → M Dr T)) (D__law_all_once : DefOk (L2.CX P w) P w K mg base 62 "_law_all_once" 1 ((F__law_all_once c 30) : List T → M Dr T)) (D__law_pick : DefOk (L2.CX P w) P w K mg base 2 "_law_pick" 2 ((F__law_pick c) : List T → M Dr T)) (D_is_plain : DefOk (L2.CX P w) P w K mg base 66 "is_plain" 1 ((F_is_plain c) : List T → M Dr T)) (D_Form___eq__ : MethOk P w K mg base 1 c.Form___eq__ 2 ((F_Form___eq__ c) : List T → M Dr T)) (D_plain : DefOk (L2.CX P w) P w K mg base 66 "plain" 1 ((F_plain c) : List T → M Dr T)) (D_Form_told : MethOk P w K mg base 1 c.Form_told 1 ((F_Form_told c) : List T → M Dr T)) (Dk_plain : DefOkK (L2.CX P w) P w K mg base 66 "plain" 1 ["form"] ((F_plain c) : List T → M Dr T)) (Dk_is_plain : DefOkK (L2.CX P w) P w K mg base 66 "is_plain" 1 ["form"] ((F_is_plain c) : List T → M Dr T))
  {f : Addr} {cdv : Value} {A : Around} {outer : List PySem.Env} {s : Shared} {H : Hp} {E : XK} {G : Gm Dr} (hr : Room 71 (A.deeper (envOfC "law" (defScope s_law) s.heap.objs.size f cdv))) (hgd : (A.deeper (envOfC "law" (defScope s_law) s.heap.objs.size f cdv)).guards = some []) {sa : Addr} {sn : Nat} {svs : List V} (hS : ScrOk K G sa svs) (hn : svs.length = sn) :
  PDs (cxOf (L2.CX P w) P w K mg base ["_law_script", "_law_state", "_law_turn", "_law_told", "_law_made", "_law_due", "_law_some", "_law_is_done"] "law" (defScope s_law) f cdv A outer s H E) G E (defBody s_law).tail (g_law c sa sn) := by
    have hu := hu200 hr
    have hu1 := hu_of hr
    have sc := sc_law
    have hp : PassesOwn _ _ _ _ := passes_of (K := fun e s'' => L2.CX P w outer H s E e s'') (X := (cxOf (L2.CX P w) P w K mg base ["_law_script", "_law_state", "_law_turn", "_law_told", "_law_made", "_law_due", "_law_some", "_law_is_done"] "law" (defScope s_law) f cdv A outer s H E)) rfl
    have hx : Passes (L2.CX P w) (cxOf (L2.CX P w) P w K mg base ["_law_script", "_law_state", "_law_turn", "_law_told", "_law_made", "_law_due", "_law_some", "_law_is_done"] "law" (defScope s_law) f cdv A outer s H E) E := passes_call (takes_of rfl rfl rfl rfl) fun _ _ _ _ h => h
    exact (pds_cons (pd_for hp rfl (pit_range1 (by rfl) TX.n_range (pv_add (pv_int).sh ((pv_min2 rfl (by rfl) TX.n_min (pv_scr 0 hS hn (L2.pv 0) (by rfl) TX.n_len) pv_int)).sh)) (pgt_name 2 sc.nd rfl (Or.inl rfl)) (pds_cons (pd_set 3 (px_fz (pv_call D__law_shape hr hgd (by omega) (by rfl) hx (pas_cons (pvv 1) (pas_cons (pv_call D__law_mixed hr hgd (by omega) (by rfl) hx (pas_cons (pvv 1) (pas_cons (pv_call D__law_names hr hgd (by omega) (by rfl) hx (pas_cons (pvv 1) (pas_cons (pv_add (pv_int).sh ((pv_call D__law_draw hr hgd (by omega) (by rfl) hx (pas_cons (pvv 1) (pas_cons pv_int pas_nil)))).sh) pas_nil))) pas_nil))) pas_nil)))) sc.nd rfl (by first | exact Or.inl rfl | exact Or.inr rfl)) (pds_cons (pd_if (pb_eq hu ((pv_call D__law_draw hr hgd (by omega) (by rfl) hx (pas_cons (pvv 1) (pas_cons pv_int pas_nil)))).sh (pv_int).sh) (pds_one (pd_set 3 (px_fz (pv_call D__law_agains hr hgd (by omega) (by rfl) hx (pas_cons (pvv 1) (pas_cons (pv_call D__law_mixed hr hgd (by omega) (by rfl) hx (pas_cons (pvv 1) (pas_cons (pv_call D__law_names hr hgd (by omega) (by rfl) hx (pas_cons (pvv 1) (pas_cons (pv_add (pv_int).sh ((pv_call D__law_draw hr hgd (by omega) (by rfl) hx (pas_cons (pvv 1) (pas_cons pv_int pas_nil)))).sh) pas_nil))) pas_nil))) pas_nil)))) sc.nd rfl (by first | exact Or.inl rfl | exact Or.inr rfl))) pds_nil) (pds_cons (pd_par 4 5 (px_fz (pv_static TX.s_Form_of D_Form_of (hr.mono (by omega)) hgd (by rfl) TX.m_Form hx (pas_cons (pvv 3) pas_nil))) (px_fz (pvv 3)) rfl sc.nd rfl rfl (by decide) rfl rfl rfl) (pds_cons (pd_set 6 (px_fz (pv_call D__law_all_once hr hgd (by omega) (by rfl) hx (pas_cons (pvv 5) pas_nil))) sc.nd rfl (by first | exact Or.inl rfl | exact Or.inr rfl)) (pds_cons (pd_set 7 (px_fz (pv_eq hu ((pvv 6)).sh ((pf_lst pas_nil)).sh)) sc.nd rfl (by first | exact Or.inl rfl | exact Or.inr rfl)) (pds_cons (pd_while hp (pb_ne hu ((pvv 6)).sh ((pf_lst pas_nil)).sh) (pds_cons (pd_set 5 (px_fz (pv_call D__law_pick hr hgd (by omega) (by rfl) hx (pas_cons (pvv 1) (pas_cons (pvv 6) pas_nil)))) sc.nd rfl (by first | exact Or.inl rfl | exact Or.inr rfl)) (pds_one (pd_set 6 (px_fz (pv_call D__law_all_once hr hgd (by omega) (by rfl) hx (pas_cons (pvv 5) pas_nil))) sc.nd rfl (by first | exact Or.inl rfl | exact Or.inr rfl))))) (pds_cons (pd_if (pbw_or (pb_ne hu ((pv_prop TX.cls_Form TX.p_Form_told D_Form_told (hr.mono (by omega)) hgd (pv_call D_plain hr hgd (by omega) (by rfl) hx (pas_cons (pvv 4) pas_nil)))).sh ((pvv 5)).sh) (pbw_or (pb_neI TX.cls_Form D_Form___eq__ TX.s_Form___eq__ TX.ne_Form (hr.mono (by omega)) hgd (pv_callN Dk_plain hr hgd (by omega) (by rfl) hx (pk_cons ((pvv 4)).run pk_nil) tk_one) (pv_static TX.s_Form_of D_Form_of (hr.mono (by omega)) hgd (by rfl) TX.m_Form hx (pas_cons (pvv 5) pas_nil))) (pbw_or1 (pb_ne hu ((pv_b1 (call_reprA hgd hu) reprG (by rfl) TX.n_repr boot_repr ((pv_call D_is_plain hr hgd (by omega) (by rfl) hx (pas_cons (pvv 4) pas_nil))).sh)).sh ((pv_b1 (call_reprA hgd hu) reprG (by rfl) TX.n_repr boot_repr ((pvv 7)).sh)).sh)))).pb (pds_one (pd_ret pv_bl)) pds_nil) (pds_one (pd_if (pbw_or (pb_isNot ((pv_callN Dk_is_plain hr hgd (by omega) (by rfl) hx (pk_cons ((pv_call D_plain hr hgd (by omega) (by rfl) hx (pas_cons (pvv 4) pas_nil))).run pk_nil) tk_one)).sh (pv_bl).sh) (pbw_or (pb_neI TX.cls_Form D_Form___eq__ TX.s_Form___eq__ TX.ne_Form (hr.mono (by omega)) hgd (pv_call D_plain hr hgd (by omega) (by rfl) hx (pas_cons (pv_call D_plain hr hgd (by omega) (by rfl) hx (pas_cons (pvv 4) pas_nil)) pas_nil)) (pv_call D_plain hr hgd (by omega) (by rfl) hx (pas_cons (pvv 4) pas_nil))) (pbw_or1 (pb_ne hu ((pv_prop TX.cls_Form TX.p_Form_told D_Form_told (hr.mono (by omega)) hgd (pvv 4))).sh ((pvv 3)).sh)))).pb (pds_one (pd_ret pv_bl)) pds_nil)))))))))) (pds_one (pd_ret pv_bl)))
end PL

set_option maxHeartbeats 4000000
namespace PL
open PySem PySem.Spec PyProof.Rows L2 Evl
def iabs (n : Int) : Int := if n < 0 then -n else n
def cells0 (ns : List Int) : List Int := ns.map iabs
def large0 (ns : List Int) : List Int := ((cells0 ns).filter fun n => decide ((10 : Int) ^ 18 ≤ n)).map fun n => n - 10 ^ 18
def w0 (d : Addr) (ns : List Int) : Dr := ⟨d, 0, 0, large0 ns, cells0 ns⟩
theorem range_get : ∀ xs : List Int, (List.range xs.length).map (fun i => xs.getD i 0) = xs := fun xs => by
  apply List.ext_getElem?
  intro i
  rw [List.getElem?_map]
  by_cases h : i < xs.length
  · rw [List.getElem?_range h, List.getElem?_eq_getElem h]
    simp [List.getD, h]
  · rw [List.getElem?_eq_none (by simpa using h), List.getElem?_eq_none (by simpa using h)]
    rfl
theorem given_ints (xs : List Int) (p : Int → Bool) (g : Int → Int) : given xs.length (fun i => p (xs.getD i 0)) (fun i => .int (g (xs.getD i 0))) = ((xs.filter p).map g).map V.int := by
  have h : ((((List.range xs.length).map fun i => xs.getD i 0).filter p).map g).map V.int = ((xs.filter p).map g).map V.int := congrArg (fun l => ((l.filter p).map g).map V.int) (range_get xs)
  rw [← h, List.filter_map, List.map_map, List.map_map]
  rfl
/-- what making the draws promises -/
def spB (K : PySem.W.Frag) : Sp := fun vs H Q _ => ∃ a ns, vs = [.ref a] ∧ SqL K H a (List.map V.int ns) ∧ ns.length ≤ 63 ∧
  ∀ d l c H', Ex H H' → H d = none → H l = none → H c = none → drOk d l c H' (w0 d ns) → Q (.ref d) H'
abbrev s_begin : Stmt := top 30
theorem sc_begin : FnScope ["_law_script", "_law_cells", "_law_cell"] ["_law_script"] (defScope s_begin) := ⟨rfl, rfl, rfl, by decide +kernel, rfl, by decide +kernel, by decide +kernel⟩
theorem getD_of {xs : List Int} {i : Nat} {x : V} (h : (xs.map V.int)[i]? = some x) : x = .int (xs.getD i 0) := by
  rw [List.getElem?_map] at h
  cases e : xs[i]? with
  | none => rw [e] at h; cases h
  | some y =>
    rw [e] at h
    cases h
    simp [List.getD, e]
theorem disp4 (l c : Addr) (d : Addr) (ns : List Int) : mergeK [] [((.inr "large" : Key), V.ref l), (.inr "cells", .ref c), (.inr "rest", .int 0), (.inr "turn", .int 0)] = (w0 d ns).dict l c := by
  have n1 := show ¬ (("large" : Str) = "cells") by decide +kernel
  have n2 := show ¬ (("large" : Str) = "rest") by decide +kernel
  have n3 := show ¬ (("cells" : Str) = "rest") by decide +kernel
  have n4 := show ¬ (("large" : Str) = "turn") by decide +kernel
  have n5 := show ¬ (("cells" : Str) = "turn") by decide +kernel
  have n6 := show ¬ (("rest" : Str) = "turn") by decide +kernel
  unfold mergeK Dr.dict w0
  simp [putK, n1, n2, n3, n4, n5, n6]
theorem tC_of {v : V} {σ : L2.St} {H : Hp} {Q : VK} (h : Q v H) : tC v σ H Q := h
theorem tP_of {tk tv : TE} {r : List (TE × TE)} {σ : L2.St} {H : Hp} {Q : List (V × V) → Hp → Prop} (h : tk σ H fun x H1 => tv σ H1 fun y H2 => tPairs r σ H2 fun ps H3 => Q ((x, y) :: ps) H3) : tPairs ((tk, tv) :: r) σ H Q := h
section
variable {P : Program} {w : World} {K : PySem.W.Frag} {mg : Str → Option Value} {base : Heap} {f : Addr} {fd : FuncData}
theorem ok_begin (hab : mg "abs" = none) (F : Fun K "_law_begin" "_law_begin" s_begin f fd) : FnOk P w K mg base (L2.CX P w) 1 f fd ["_law_script"] (spB K) := by
  refine F.okX sc_begin (fun vs H Q E h => ?_) fun cdv A outer s H vs Q E hr h => ?_
  · obtain ⟨a, ns, rfl, _⟩ := h
    rfl
  · obtain ⟨a, ns, rfl, hS, hl, k⟩ := h
    have sc := sc_begin
    refine ⟨_, pss_cons (ps_setLc (i := 1) (own := [("_law_cell", 2)]) rfl sc.nd rfl rfl (sw_true rfl rfl rfl (by decide +kernel)) (pi_list (pv 0)) (blkOk_by (N := ["_law_script", "_law_cells", "_law_cell"]) (sc := defScope s_begin) (by decide +kernel)) (fun _ _ _ _ _ => pg_name (i := 2) sc.nd rfl (Or.inl rfl)) (fun _ _ _ _ _ => pts_nil)
        (fun _ _ _ _ _ => pe_callB call_abs (by rfl) hab boot_abs (pa_cons (pv 2) pa_nil)))
      (pss_one (ps_ret (pe_disp (pps_cons pe_str (pe_lc (own := [("_law_cell", 2)]) rfl sc.nd (pi_list (pv 1)) (blkOk_by (N := ["_law_script", "_law_cells", "_law_cell"]) (sc := defScope s_begin) (by decide +kernel)) (fun _ _ _ _ _ => pg_name (i := 2) sc.nd rfl (Or.inl rfl)) (fun _ _ _ _ _ => pts_one (pt_cmpR op_ge (pv 2) (pe_op op_pow pe_int pe_int) (nomark _)))
        (fun _ _ _ _ _ => pe_op op_sub (pv 2) (pe_op op_pow pe_int pe_int))) (pps_cons pe_str (pv 1) (pps_cons pe_str pe_int (pps_cons pe_str pe_int pps_nil)))) rfl rfl (by decide) (by decide)))), ?_⟩
    -- the cells
    have hs0 : ∀ x : V, ([some (V.ref a), none, some x] : L2.St)[2]? = some (some x) := fun _ => rfl
    have ge : (18 : Int).toNat = 18 := rfl
    have e1 : EvL (tLc (iList K (tVar 0)) (gName 2) tYes (tCB (fun xs H Q => ∃ i, xs = [V.int i] ∧ Q (.int (if i < 0 then -i else i)) H) (tCons (tVar 2) tNil)) [2]) [some (.ref a), none, none] H ((cells0 ns).map V.int) := by
      have q := el_lcL (K := K) (H := H) (σ := [some (V.ref a), none, none]) (a := a) (xs := ns.map V.int) (tl := tVar 0) (j := 2) (vs := [2]) (t := tYes) (te := tCB (fun xs H Q => ∃ i, xs = [V.int i] ∧ Q (.int (if i < 0 then -i else i)) H) (tCons (tVar 2) tNil))
        (fun i => (fun _ => true) (ns.getD i 0)) (fun i => .int (iabs (ns.getD i 0))) (ev_var rfl) hS (by rw [List.length_map]; omega) (fun _ => rfl)
        (fun i x H1 _ hx H2 _ Q q => q H2 (Ex.refl H2)) (fun i x H1 _ hx _ H2 _ Q q => ⟨x, rfl, ns.getD i 0, by rw [getD_of hx], q H2 (Ex.refl H2)⟩)
      rw [List.length_map] at q
      have g := given_ints ns (fun _ => true) iabs
      rw [show (ns.filter fun _ => true) = ns from List.filter_eq_self.mpr fun _ _ => rfl] at g
      rw [g] at q
      exact q
    unfold tSeq tAsg
    refine e1 H (Ex.refl H) _ fun c H1 hc x1 h1 => ?_
    intro d hd
    have x2 : Ex H1 (upd H1 d (.dK [])) := Ex.new hd
    have ncd : c ≠ d := ne_of_none h1 hd
    have h1' : (upd H1 d (.dK [])) c = some (.lst ((cells0 ns).map V.int)) := by rw [upd_ne ncd]; exact h1
    have e2 : EvL (tLc (iList K (tVar 1)) (gName 2) (tTest (tOp (rI0 fun i j => .bl (decide (j ≤ i))) (tVar 2) (tOp (rI CPow fun i j => .int (i ^ j.toNat)) (tC (.int 10)) (tC (.int 18))))) (tOp (rI0 fun i j => .int (i - j)) (tVar 2) (tOp (rI CPow fun i j => .int (i ^ j.toNat)) (tC (.int 10)) (tC (.int 18)))) [2])
        [some (.ref a), some (.ref c), none] (upd H1 d (.dK [])) ((large0 ns).map V.int) := by
      have cp : CPow 10 18 := ⟨by decide, by decide, by decide⟩
      have q := el_lcL (K := K) (H := upd H1 d (.dK [])) (σ := [some (V.ref a), some (V.ref c), none]) (a := c) (xs := (cells0 ns).map V.int) (tl := tVar 1) (j := 2) (vs := [2])
        (t := tTest (tOp (rI0 fun i j => .bl (decide (j ≤ i))) (tVar 2) (tOp (rI CPow fun i j => .int (i ^ j.toNat)) (tC (.int 10)) (tC (.int 18))))) (te := tOp (rI0 fun i j => .int (i - j)) (tVar 2) (tOp (rI CPow fun i j => .int (i ^ j.toNat)) (tC (.int 10)) (tC (.int 18))))
        (fun i => (fun n => decide ((10 : Int) ^ 18 ≤ n)) ((cells0 ns).getD i 0)) (fun i => .int ((fun n => n - 10 ^ 18) ((cells0 ns).getD i 0))) (ev_var rfl) (sq_of h1') (by rw [List.length_map, cells0, List.length_map]; omega) (fun _ => rfl)
        (fun i x H2 _ hx H3 _ Q q => ⟨x, rfl, 10, 18, rfl, rfl, cp, (cells0 ns).getD i 0, 10 ^ 18, getD_of hx, rfl, _, rfl, q H3 (Ex.refl H3)⟩)
        (fun i x H2 _ hx _ H3 _ Q q => ⟨x, rfl, 10, 18, rfl, rfl, cp, (cells0 ns).getD i 0, 10 ^ 18, getD_of hx, rfl, q H3 (Ex.refl H3)⟩)
      rw [List.length_map] at q
      have g := given_ints (cells0 ns) (fun n => decide ((10 : Int) ^ 18 ≤ n)) (fun n => n - 10 ^ 18)
      rw [g] at q
      exact q
    refine tP_of (tC_of ?_)
    refine e2 _ (Ex.refl _) _ fun l H2 hl2 x3 h2 => ?_
    have hH2d : H2 d = some (.dK []) := x3 d _ upd_same
    have hH2c : H2 c = some (.lst ((cells0 ns).map V.int)) := x3 c _ h1'
    have nld : l ≠ d := fun z => by subst z; rw [upd_same] at hl2; cases hl2
    have nlc : l ≠ c := fun z => by subst z; rw [h1'] at hl2; cases hl2
    refine ⟨.ref c, rfl, hH2d, [(.inr "large", .ref l), (.inr "cells", .ref c), (.inr "rest", .int 0), (.inr "turn", .int 0)], rfl, by show 4 ≤ 15; omega, ?_⟩
    rw [disp4 l c d ns]
    have hd0 : H d = none := fresh_back x1 hd
    refine k d l c _ ((x1.trans (x2.trans x3)).mut hd0) hd0 (fresh_back (x1.trans x2) hl2) hc ⟨rfl, Ne.symm nld, Ne.symm ncd, nlc, upd_same, by rw [upd_ne nld]; exact h2, by rw [upd_ne ncd]; exact hH2c, ?_, ?_⟩
    · show (cells0 ns).length ≤ 1000
      rw [cells0, List.length_map]; omega
    · show (large0 ns).length ≤ 1000
      have := List.length_filter_le (fun n => decide ((10 : Int) ^ 18 ≤ n)) (cells0 ns)
      rw [large0, List.length_map]
      rw [show (cells0 ns).length = ns.length from List.length_map _] at this
      omega
end
end PL

set_option maxHeartbeats 4000000
namespace PL
open PySem PySem.Spec PyProof.Rows L2 Evl
/-- law's promise: the script's list is handed in, True comes out -/
def spL (K : PySem.W.Frag) : Sp := fun vs H Q _ => ∃ a ns, vs = [.ref a] ∧ SqL K H a (List.map V.int ns) ∧ ns.length ≤ 63 ∧ ∀ H', Q (.bl true) H'
def rho0 (a d : Addr) : Rho := [.fz (.raw (.ref a)), .fz (.raw (.ref d)), .un, .un, .un, .un, .un, .un]
/-- the plain law -/
def Plain (c : Cs) : Prop := ∀ (a d : Addr) (ns : List Int), ns.length ≤ 63 → ∃ w', g_law c a ns.length (rho0 a d) (w0 d ns) = some (.ok (.rt (.bl true)), w')
theorem ok_law {P : Program} {w : World} {K : PySem.W.Frag} {mg : Str → Option Value} {base : Heap} {c : Cs} (TX : Txt K mg c) (pl : Plain c) {f fB : Addr} {fd fdB : FuncData} (Fu : Fun K "law" "law" s_law f fd) (FB : FnOk P w K mg base (L2.CX P w) 1 fB fdB ["_law_script"] (spB K)) (mB : mg "_law_begin" = some (.ref fB)) (kB : PySem.W.keepIn K (.ref fB) = true) (bB : Binds K fdB ["_law_script"] []) (D__law_draw : DefOk (L2.CX P w) P w K mg base 1 "_law_draw" 2 ((F__law_draw c) : List T → M Dr T)) (D__law_names : DefOk (L2.CX P w) P w K mg base 3 "_law_names" 2 ((F__law_names c) : List T → M Dr T)) (D__law_mixed : DefOk (L2.CX P w) P w K mg base 2 "_law_mixed" 2 ((F__law_mixed c) : List T → M Dr T)) (D__law_shape : DefOk (L2.CX P w) P w K mg base 71 "_law_shape" 2 ((F__law_shape c 40) : List T → M Dr T)) (D__law_agains : DefOk (L2.CX P w) P w K mg base 3 "_law_agains" 2 ((F__law_agains c) : List T → M Dr T)) (D_Form_of : MethOk P w K mg base 61 c.Form_of 1 ((F_Form_of c) : List T → M Dr T)) (D__law_all_once : DefOk (L2.CX P w) P w K mg base 62 "_law_all_once" 1 ((F__law_all_once c 30) : List T → M Dr T)) (D__law_pick : DefOk (L2.CX P w) P w K mg base 2 "_law_pick" 2 ((F__law_pick c) : List T → M Dr T)) (D_is_plain : DefOk (L2.CX P w) P w K mg base 66 "is_plain" 1 ((F_is_plain c) : List T → M Dr T)) (D_Form___eq__ : MethOk P w K mg base 1 c.Form___eq__ 2 ((F_Form___eq__ c) : List T → M Dr T)) (D_plain : DefOk (L2.CX P w) P w K mg base 66 "plain" 1 ((F_plain c) : List T → M Dr T)) (D_Form_told : MethOk P w K mg base 1 c.Form_told 1 ((F_Form_told c) : List T → M Dr T)) (Dk_plain : DefOkK (L2.CX P w) P w K mg base 66 "plain" 1 ["form"] ((F_plain c) : List T → M Dr T)) (Dk_is_plain : DefOkK (L2.CX P w) P w K mg base 66 "is_plain" 1 ["form"] ((F_is_plain c) : List T → M Dr T)) :
    FnG P w K mg base (L2.CX P w) 72 f fd ["_law_script"] (spL K) := by
  refine fn_ofG (k := 71) Fu sc_law (fun vs H Q E h => ?_) fun cdv A outer s H vs Q E hr hgd h => ?_
  · obtain ⟨a, ns, rfl, _⟩ := h
    rfl
  · obtain ⟨a, ns, rfl, hS, hl, k⟩ := h
    have hx : Passes (L2.CX P w) (cxOf (L2.CX P w) P w K mg base ["_law_script", "_law_state", "_law_turn", "_law_told", "_law_made", "_law_due", "_law_some", "_law_is_done"] "law" (defScope s_law) f cdv A outer s H E) E := passes_call (takes_of rfl rfl rfl rfl) fun _ _ _ _ h => h
    have rest : PSs (cxOf (L2.CX P w) P w K mg base ["_law_script", "_law_state", "_law_turn", "_law_told", "_law_made", "_law_due", "_law_some", "_law_is_done"] "law" (defScope s_law) f cdv A outer s H E) (defBody s_law).tail
        (fun D σ H' => ∃ G : Gm Dr, ScrOk K G a (ns.map V.int) ∧ tS K G E (g_law c a ns.length) D σ H') := ⟨fun pins s' σ H' D I ⟨G, hG, q⟩ => (ok_lawrest TX D__law_draw D__law_names D__law_mixed D__law_shape D__law_agains D_Form_of D__law_all_once D__law_pick D_is_plain D_Form___eq__ D_plain D_Form_told Dk_plain Dk_is_plain hr hgd hG (List.length_map _)).run.run pins s' σ H' D I q⟩
    have sc := sc_law
    refine ⟨_, pss_cons (ps_set (i := 1) sc.nd rfl (by first | exact Or.inl rfl | exact Or.inr rfl) (pe_call FB (hr.mono (by omega)) (by rfl) mB kB bB .nil hx (pa_cons (pv 0) pa_nil))) rest, ?_⟩
    unfold tSeq tAsg
    refine ⟨.ref a, rfl, ?_⟩
    refine ⟨a, ns, rfl, hS, hl, fun d l c' H' ex hd hl' hc ok => ?_⟩
    refine ⟨⟨drWd d l c', H', fun _ => none⟩, ?_, ?_⟩
    · rcases hS with hS | hS
      · refine .inl ⟨ex_rd ex hS, fun z => ?_⟩
        have hne : H a ≠ none := by
          rcases hS with h | ⟨o, h⟩ <;> rw [h] <;> simp
        rcases z with rfl | rfl | rfl
        · exact hne hd
        · exact hne hl'
        · exact hne hc
      · exact .inr (.inr hS)
    · obtain ⟨w', hw⟩ := pl a d ns hl
      have S : Sd K (⟨drWd d l c', H', fun _ => none⟩ : Gm Dr) (rho0 a d) (w0 d ns) [some (.ref a), some (.ref d), none, none, none, none, none, none] H' (fun _ => none) := by
        refine ⟨(fun _ _ e => nomatch e), ok, fun _ _ => rfl, fun b hb => (drWd d l c').live ok hb, fun b o e _ => e, Same.refl _, fun _ _ => rfl, fun i s hs => ?_, fun i j s t hi hj hs ht _ => ?_, rfl⟩
        · match i, hs with
          | 0, hs => cases hs; exact ⟨.ref a, rfl, .raw _⟩
          | 1, hs => cases hs; exact ⟨.ref d, rfl, .raw _⟩
          | 2, hs => cases hs; trivial
          | 3, hs => cases hs; trivial
          | 4, hs => cases hs; trivial
          | 5, hs => cases hs; trivial
          | 6, hs => cases hs; trivial
          | 7, hs => cases hs; trivial
          | i + 8, hs => cases hs
        · exfalso
          match i, hi with
          | 0, hi => cases hi; cases hs
          | 1, hi => cases hi; cases hs
          | 2, hi => cases hi; cases hs
          | 3, hi => cases hi; cases hs
          | 4, hi => cases hi; cases hs
          | 5, hi => cases hi; cases hs
          | 6, hi => cases hi; cases hs
          | 7, hi => cases hi; cases hs
          | i + 8, hi => cases hi
      refine ⟨rho0 a d, w0 d ns, fun _ => none, _, w', S, hw, fun v ρ' σ' H2 F2 S2 s2 rv => ?_⟩
      rw [rv.bl_inv]
      exact k H2
end PL

set_option maxHeartbeats 4000000
namespace PL
open PySem L2
section
variable {W : Type}
/-! ### steps of computing -/
theorem dIf_t {gc : Rho → M W Bool} {g h : Rho → M W Fl} {ρ : Rho} (e : gc ρ = ret true) : dIf gc g h ρ = g ρ := by unfold dIf; rw [e]; rfl
theorem dIf_f {gc : Rho → M W Bool} {g h : Rho → M W Fl} {ρ : Rho} (e : gc ρ = ret false) : dIf gc g h ρ = h ρ := by unfold dIf; rw [e]; rfl
theorem dRet_e {fa : Rho → M W T} {ρ : Rho} {t : T} (e : fa ρ = ret t) : dRet fa ρ = ret (.rt t) := by unfold dRet; rw [e]; rfl
theorem seq_nx {g h : Rho → M W Fl} {ρ ρ' : Rho} (e : g ρ = ret (.nx ρ')) : seqD g h ρ = h ρ' := by unfold seqD; rw [e]; rfl
theorem seq_rt {g h : Rho → M W Fl} {ρ : Rho} {t : T} (e : g ρ = ret (.rt t)) : seqD g h ρ = ret (.rt t) := by unfold seqD; rw [e]; rfl
theorem run_rt {m : Nat} {g : Rho → M W Fl} {ts : List T} {t : T} (e : g (ts.map Sl.fz ++ List.replicate m Sl.un) = ret (.rt t)) : run m g ts = ret t := by unfold run; rw [e]; rfl
theorem run_nx {m : Nat} {g : Rho → M W Fl} {ts : List T} {ρ : Rho} (e : g (ts.map Sl.fz ++ List.replicate m Sl.un) = ret (.nx ρ)) : run m g ts = ret .non := by unfold run; rw [e]; rfl
theorem fVar_e {i : Nat} {ρ : Rho} {t : T} (e : ρ[i]? = some (.fz t)) : (fVar i ρ : M W T) = ret t := by unfold fVar; rw [e]; rfl
theorem f1_e {g : T → Option T} {fa : Rho → M W T} {ρ : Rho} {t u : T} (e : fa ρ = ret t) (h : g t = some u) : f1 g fa ρ = ret u := by unfold f1; rw [e, ret_bnd, h]; rfl
theorem f1l_e {g : T → Option (List T)} {fa : Rho → M W T} {ρ : Rho} {t : T} {u : List T} (e : fa ρ = ret t) (h : g t = some u) : f1l g fa ρ = ret u := by unfold f1l; rw [e, ret_bnd, h]; rfl
theorem f2_e {g : T → T → Option T} {fa fb : Rho → M W T} {ρ : Rho} {t u v : T} (e : fa ρ = ret t) (e2 : fb ρ = ret u) (h : g t u = some v) : f2 g fa fb ρ = ret v := by unfold f2; rw [e, ret_bnd, e2, ret_bnd, h]; rfl
theorem fB_e {fa : Rho → M W T} {ρ : Rho} {b : Bool} (e : fa ρ = ret (.bl b)) : fB fa ρ = ret b := by unfold fB; rw [e]; rfl
theorem asL_e {fa : Rho → M W (List T)} {ρ : Rho} {ts : List T} (e : fa ρ = ret ts) : asL fa ρ = ret (.lst ts) := by unfold asL; rw [e]; rfl
theorem bNot_e {fa : Rho → M W Bool} {ρ : Rho} {b : Bool} (e : fa ρ = ret b) : bNot fa ρ = ret (!b) := by unfold bNot; rw [e]; rfl
theorem bOr_t {fa fb : Rho → M W Bool} {ρ : Rho} (e : fa ρ = ret true) : bOr fa fb ρ = ret true := by unfold bOr; rw [e]; rfl
theorem bOr_f {fa fb : Rho → M W Bool} {ρ : Rho} (e : fa ρ = ret false) : bOr fa fb ρ = fb ρ := by unfold bOr; rw [e]; rfl
theorem bAnd_t {fa fb : Rho → M W Bool} {ρ : Rho} (e : fa ρ = ret true) : bAnd fa fb ρ = fb ρ := by unfold bAnd; rw [e]; rfl
theorem bAnd_f {fa fb : Rho → M W Bool} {ρ : Rho} (e : fa ρ = ret false) : bAnd fa fb ρ = ret false := by unfold bAnd; rw [e]; rfl
theorem aNil_e {ρ : Rho} : (aNil ρ : M W (List T)) = ret [] := rfl
theorem aCons_e {fa : Rho → M W T} {fr : Rho → M W (List T)} {ρ : Rho} {t : T} {ts : List T} (e : fa ρ = ret t) (e2 : fr ρ = ret ts) : aCons fa fr ρ = ret (t :: ts) := by unfold aCons; rw [e, ret_bnd, e2]; rfl
theorem fCall_e {n : Nat} {fa : Rho → M W (List T)} {Fn : List T → M W T} {ρ : Rho} {ts : List T} (e : fa ρ = ret ts) (hn : ts.length = n) : fCall n fa Fn ρ = Fn ts := by unfold fCall; rw [e, ret_bnd, if_pos hn]
theorem fIf_t {gc : Rho → M W Bool} {fa fb : Rho → M W T} {ρ : Rho} (e : gc ρ = ret true) : fIf gc fa fb ρ = fa ρ := by unfold fIf; rw [e]; rfl
theorem fIf_f {gc : Rho → M W Bool} {fa fb : Rho → M W T} {ρ : Rho} (e : gc ρ = ret false) : fIf gc fa fb ρ = fb ρ := by unfold fIf; rw [e]; rfl
theorem fAnd_t {fa fb : Rho → M W T} {ρ : Rho} (e : fa ρ = ret (.bl true)) : fAnd fa fb ρ = fb ρ := by unfold fAnd; rw [e]; rfl
theorem fAnd_f {fa fb : Rho → M W T} {ρ : Rho} (e : fa ρ = ret (.bl false)) : fAnd fa fb ρ = ret (.bl false) := by unfold fAnd; rw [e]; rfl
theorem fItems_l {fa : Rho → M W T} {ρ : Rho} {ts : List T} (e : fa ρ = ret (.lst ts)) : fItems fa ρ = ret ts := by unfold fItems; rw [e]; rfl
theorem fItems_t {fa : Rho → M W T} {ρ : Rho} {ts : List T} (e : fa ρ = ret (.tup ts)) : fItems fa ρ = ret ts := by unfold fItems; rw [e]; rfl
theorem fItems_s {fa : Rho → M W T} {ρ : Rho} {z : Str} (e : fa ρ = ret (.str z)) : fItems fa ρ = ret (signs z) := by unfold fItems; rw [e]; rfl
theorem dSet_e {i : Nat} {fx : Rho → M W Sl} {ρ : Rho} {s : Sl} (e : fx ρ = ret s) : dSet i fx ρ = ret (.nx (ρ.set i s)) := by unfold dSet; rw [e]; rfl
theorem xFz_e {fa : Rho → M W T} {ρ : Rho} {t : T} (e : fa ρ = ret t) : xFz fa ρ = ret (.fz t) := by unfold xFz; rw [e]; rfl

/-! ### is_step -/
def inL (n : Nat) : Bool := !(Builtin.Str.occurrences ("abcdefghijklmnopqrstuvwxyz" : Str) ⟨#[n]⟩ 0 ("abcdefghijklmnopqrstuvwxyz" : Str).length 1).isEmpty
def isStep (s : Str) : Bool := decide (1 ≤ s.length) && decide (s.length ≤ 6) && s.cps.toList.all inL
theorem boolsT_map (f : Nat → Bool) : ∀ l : List Nat, boolsT (l.map fun n => T.bl (f n)) = some (l.map f)
  | [] => rfl
  | n :: l => by simp [boolsT, boolsT_map f l]
theorem fChain_t {g g' : T → T → Option T} {fa fb fc : Rho → M W T} {ρ : Rho} {t u v z : T} (e1 : fa ρ = ret t) (e2 : fb ρ = ret u) (h : g t u = some (.bl true)) (e3 : fc ρ = ret v) (h' : g' u v = some z) : fChain g g' fa fb fc ρ = ret z := by
  unfold fChain
  rw [e1, ret_bnd, e2, ret_bnd, h, lift_some, ret_bnd]
  show bnd (fc ρ) _ = _
  rw [e3, ret_bnd, h']
  rfl
theorem fChain_f {g g' : T → T → Option T} {fa fb fc : Rho → M W T} {ρ : Rho} {t u : T} (e1 : fa ρ = ret t) (e2 : fb ρ = ret u) (h : g t u = some (.bl false)) : fChain g g' fa fb fc ρ = ret (.bl false) := by
  unfold fChain
  rw [e1, ret_bnd, e2, ret_bnd, h, lift_some, ret_bnd]
  rfl
theorem kb_ss : kitB "str" "str" = some true := by decide +kernel
theorem kb_ts : kitB "tuple" "str" = some false := by decide +kernel
theorem kb_tt : kitB "tuple" "tuple" = some true := by decide +kernel
theorem kb_st : kitB "str" "tuple" = some false := by decide +kernel
theorem isa_str_str {s : Str} : isaT "str" (.str s) = some (.bl true) := by show (kitB "str" "str").map T.bl = _; rw [kb_ss]; rfl
theorem isa_str_tup {ts : List T} : isaT "str" (.tup ts) = some (.bl false) := by show (kitB "tuple" "str").map T.bl = _; rw [kb_ts]; rfl
theorem isa_tup_tup {ts : List T} : isaT "tuple" (.tup ts) = some (.bl true) := by show (kitB "tuple" "tuple").map T.bl = _; rw [kb_tt]; rfl
theorem isa_tup_str {s : Str} : isaT "tuple" (.str s) = some (.bl false) := by show (kitB "str" "tuple").map T.bl = _; rw [kb_st]; rfl
theorem F_is_step_str (c : Cs) {s : Str} (hs : s.length ≤ 1000) : F_is_step c [.str s] = (ret (.bl (isStep s)) : M W T) := by
  unfold F_is_step
  refine run_rt ?_
  unfold g_is_step
  have hz : s.length ≤ sizeLine := Nat.le_trans hs (by rw [sizeLine_eq]; omega)
  have v0 : (fVar 0 [Sl.fz (.str s), Sl.un] : M W T) = ret (.str s) := rfl
  have e : (f1 lenT (fVar 0) [Sl.fz (.str s), Sl.un] : M W T) = ret (.int (s.length : Nat)) := f1_e v0 (by simp [lenT, hz])
  have c1 : (fChain (ltT fun i j => decide (i ≤ j)) (ltT fun i j => decide (i ≤ j)) (fC (.int 1)) (f1 lenT (fVar 0)) (fC c_MOST_LETTERS) [Sl.fz (.str s), Sl.un] : M W T) = ret (.bl (decide (1 ≤ s.length) && decide (s.length ≤ 6))) := by
    by_cases h1 : 1 ≤ s.length
    · rw [fChain_t (t := .int 1) (u := .int (s.length : Nat)) (v := .int 6) (z := .bl (decide (s.length ≤ 6))) rfl e (by show some (T.bl (decide ((1 : Int) ≤ (s.length : Nat)))) = _; rw [decide_eq_true (by omega)]) rfl (by show some (T.bl (decide (((s.length : Nat) : Int) ≤ 6))) = _; congr 2; exact decide_eq_decide.mpr (by omega))]
      simp [h1]
    · rw [fChain_f (t := .int 1) (u := .int (s.length : Nat)) rfl e (by show some (T.bl (decide ((1 : Int) ≤ (s.length : Nat)))) = _; rw [decide_eq_false (by omega)])]
      simp [h1]
  have i1 : (bNot (fB (f1 (isaT "str") (fVar 0))) [Sl.fz (.str s), Sl.un] : M W Bool) = ret false := bNot_e (fB_e (f1_e v0 isa_str_str))
  cases hb : (decide (1 ≤ s.length) && decide (s.length ≤ 6)) with
  | false =>
    rw [hb] at c1
    have e2 : isStep s = false := by unfold isStep; rw [hb]; rfl
    rw [e2]
    exact seq_rt ((dIf_t ((bOr_f i1).trans (bNot_e (fB_e c1)))).trans (dRet_e rfl))
  | true =>
    rw [hb] at c1
    have e2 : isStep s = s.cps.toList.all inL := by unfold isStep; rw [hb]; rfl
    rw [e2]
    refine (seq_nx ((dIf_f ((bOr_f i1).trans (bNot_e (fB_e c1)))).trans rfl)).trans (dRet_e (f1_e (asL_e (fLc_map (ts := signs s) (fun t => match t with | .str z => .bl (inL (z.cps.getD 0 0)) | _ => .non) (fItems_s v0) ?_ ?_)) ?_))
    · show (s.cps.toList.map _).length ≤ _
      rw [List.length_map, Array.length_toList]
      exact hz
    · intro t ht
      obtain ⟨n, _, rfl⟩ := List.mem_map.mp ht
      exact f2_e (t := .str ⟨#[n]⟩) (u := c_LETTERS) rfl rfl rfl
    · have : ((signs s).map fun t => match t with | .str z => T.bl (inL (z.cps.getD 0 0)) | _ => .non) = s.cps.toList.map fun n => T.bl (inL n) := by
        unfold signs
        rw [List.map_map]
        rfl
      rw [this]
      show (boolsT _).map _ = _
      rw [boolsT_map]
      show some (T.bl ((s.cps.toList.map inL).all id)) = _
      rw [List.all_map]
      rfl

/-! ### parts, steps -/
theorem eq_str (neg : Bool) (a b : Str) : eqT neg (.str a) (.str b) = some (.bl (if neg then !(a == b) else (a == b))) := by
  show (if min (PyData.str a).depth (PyData.str b).depth ≤ 150 then some (T.bl (if neg then !PyData.eqv (.str a) (.str b) else PyData.eqv (.str a) (.str b))) else none) = _
  rw [if_pos (by simp [PyData.depth])]
  simp [PyData.eqv]
/-- the told forms: agains, and joins by other words -/
def Tr.parts : Tr → List Tr
  | .leaf _ => []
  | .join _ ps => ps
  | .again a b => [a, b]
mutual
def Tr.wd : Tr → Bool
  | .leaf s => decide (s.length ≤ 1000)
  | .join w ps => !(w == "again") && Tr.wds ps
  | .again a b => a.wd && b.wd
def Tr.wds : List Tr → Bool
  | [] => true
  | t :: ts => t.wd && Tr.wds ts
end
theorem Ts_map : ∀ ps : List Tr, Tr.Ts ps = ps.map Tr.T
  | [] => rfl
  | t :: ts => by rw [Tr.Ts, Ts_map ts]; rfl
theorem wds_all : ∀ {ps : List Tr}, Tr.wds ps = true → ∀ t ∈ ps, t.wd = true
  | [], _, t, h => by cases h
  | p :: ps, h, t, ht => by
    simp only [Tr.wds, Bool.and_eq_true] at h
    rcases List.mem_cons.mp ht with rfl | ht
    · exact h.1
    · exact wds_all h.2 t ht
theorem stepss_flat : ∀ ps : List Tr, Tr.stepss ps = ps.flatMap Tr.steps
  | [] => rfl
  | t :: ts => by rw [Tr.stepss, stepss_flat ts]; rfl
theorem depths_le : ∀ {ps : List Tr} {t : Tr}, t ∈ ps → t.depth ≤ Tr.depths ps
  | p :: ps, t, h => by
    rw [Tr.depths]
    rcases List.mem_cons.mp h with rfl | h
    · omega
    · have := depths_le h; omega
theorem F_parts_of_e (c : Cs) {t : Tr} (hw : t.wd = true) (hl : ∀ s, t ≠ .leaf s) : F_parts_of c [t.T] = (ret (.tup (t.parts.map Tr.T)) : M W T) := by
  unfold F_parts_of
  refine run_rt ?_
  unfold g_parts_of
  cases t with
  | leaf s => exact absurd rfl (hl s)
  | join w ps =>
    simp only [Tr.wd, Bool.and_eq_true, Bool.not_eq_true'] at hw
    have e0 : (f2 ixT (fVar 0) (fC (.int 0)) [Sl.fz (Tr.join w ps).T] : M W T) = ret (.str w) := by unfold Tr.T; exact f2_e rfl rfl rfl
    have e1 : (f2 ixT (fVar 0) (fC (.int 1)) [Sl.fz (Tr.join w ps).T] : M W T) = ret (.tup (Tr.Ts ps)) := by unfold Tr.T; exact f2_e rfl rfl rfl
    have e2 : (fB (f2 (eqT false) (f2 ixT (fVar 0) (fC (.int 0))) (fC (.str "again"))) [Sl.fz (Tr.join w ps).T] : M W Bool) = ret false := fB_e (f2_e e0 rfl (by rw [eq_str]; simp [hw.1]))
    refine dRet_e ((fIf_f e2).trans (e1.trans ?_))
    rw [Ts_map]
    rfl
  | again a b =>
    have e0 : (f2 ixT (fVar 0) (fC (.int 0)) [Sl.fz (Tr.again a b).T] : M W T) = ret (.str "again") := by unfold Tr.T; exact f2_e rfl rfl rfl
    have e2 : (fB (f2 (eqT false) (f2 ixT (fVar 0) (fC (.int 0))) (fC (.str "again"))) [Sl.fz (Tr.again a b).T] : M W Bool) = ret true := fB_e (f2_e e0 rfl (by rw [eq_str]; simp))
    refine dRet_e ((fIf_t e2).trans ?_)
    unfold Tr.T
    rfl
theorem length_flat (f : Tr → List Str) : ∀ ps : List Tr, ∀ t ∈ ps, (f t).length ≤ (ps.flatMap f).length
  | p :: ps, t, h => by
    rw [List.flatMap_cons, List.length_append]
    rcases List.mem_cons.mp h with rfl | h
    · omega
    · have := length_flat f ps t h; omega
theorem steps_parts {t : Tr} (hl : ∀ s, t ≠ .leaf s) : t.steps = t.parts.flatMap Tr.steps := by
  cases t with
  | leaf s => exact absurd rfl (hl s)
  | join w ps => rw [Tr.steps, stepss_flat]; rfl
  | again a b => rw [Tr.steps]; simp [Tr.parts]
theorem parts_wd {t : Tr} (h : t.wd = true) : ∀ p ∈ t.parts, p.wd = true := by
  intro p hp
  cases t with
  | leaf s => cases hp
  | join w ps => simp only [Tr.wd, Bool.and_eq_true] at h; exact wds_all h.2 p hp
  | again a b =>
    simp only [Tr.wd, Bool.and_eq_true] at h
    simp only [Tr.parts, List.mem_cons, List.not_mem_nil, or_false] at hp
    rcases hp with rfl | rfl
    · exact h.1
    · exact h.2
theorem parts_depth {t : Tr} : ∀ p ∈ t.parts, p.depth < t.depth := by
  intro p hp
  cases t with
  | leaf s => cases hp
  | join w ps => have := depths_le (show p ∈ ps from hp); rw [Tr.depth]; omega
  | again a b =>
    simp only [Tr.parts, List.mem_cons, List.not_mem_nil, or_false] at hp
    rw [Tr.depth]
    rcases hp with rfl | rfl <;> omega
theorem isa_node {t : Tr} (hl : ∀ s, t ≠ .leaf s) : isaT "str" t.T = some (.bl false) := by
  cases t with
  | leaf s => exact absurd rfl (hl s)
  | join w ps => unfold Tr.T; exact isa_str_tup
  | again a b => unfold Tr.T; exact isa_str_tup
def sLst (xs : List Str) : T := .lst (xs.map T.str)
theorem F_steps_in_e (c : Cs) : ∀ (n : Nat) (t : Tr), t.depth ≤ n → t.wd = true → t.steps.length ≤ 1000 → F_steps_in c n [t.T] = (ret (sLst t.steps) : M W T)
  | 0, t, hd, _, _ => by cases t <;> (rw [Tr.depth] at hd; omega)
  | n + 1, t, hd, hw, hlen => by
    have ih := F_steps_in_e c n
    show run 2 (g_steps_in c (F_steps_in c n)) [t.T] = _
    refine run_rt ?_
    unfold g_steps_in
    by_cases hl : ∃ s, t = .leaf s
    · obtain ⟨s, rfl⟩ := hl
      have v0 : (fVar 0 [Sl.fz (Tr.leaf s).T, Sl.un, Sl.un] : M W T) = ret (.str s) := by unfold Tr.T; rfl
      refine seq_rt ((dIf_t (fB_e (f1_e v0 isa_str_str))).trans (dRet_e (asL_e ?_)))
      show fLst (aCons (fVar 0) aNil) _ = _
      unfold fLst
      rw [aCons_e v0 aNil_e, ret_bnd, if_pos (by rw [sizeLine_eq]; simp)]
      rfl
    · have hl' : ∀ s, t ≠ .leaf s := fun s e => hl ⟨s, e⟩
      have v0 : (fVar 0 [Sl.fz t.T, Sl.un, Sl.un] : M W T) = ret t.T := rfl
      refine (seq_nx (dIf_f (fB_e (f1_e v0 (isa_node hl'))))).trans (dRet_e (asL_e ?_))
      have eq : t.steps.map T.str = t.parts.flatMap fun p => p.steps.map T.str := by rw [steps_parts hl', List.map_flatMap]
      rw [eq]
      refine fLc2_map (ps := t.parts) Tr.T (fun p => p.steps.map T.str) (fItems_t ((fCall_e (aCons_e v0 aNil_e) rfl).trans (F_parts_of_e c hw hl'))) (fun p hp => ?_) (fun _ _ _ _ => rfl) ?_
      · have hp1 : p.steps.length ≤ 1000 := Nat.le_trans (by rw [steps_parts hl']; exact length_flat Tr.steps _ p hp) hlen
        have hpd : p.depth ≤ n := by have := parts_depth p hp; omega
        exact fItems_l ((fCall_e (aCons_e rfl aNil_e) rfl).trans (ih p hpd (parts_wd hw p hp) hp1))
      · rw [← eq, List.length_map, sizeLine_eq]; omega

/-! ### is_told -/
def isJoin (w : Str) : Bool := w == "behind" || w == "either" || w == "beside"
mutual
def Tr.told : Tr → Bool
  | .leaf s => isStep s
  | .join w ps => isJoin w && decide (2 ≤ ps.length) && Tr.tolds ps
  | .again a b => a.told && b.told
def Tr.tolds : List Tr → Bool
  | [] => true
  | t :: ts => t.told && Tr.tolds ts
end
theorem tolds_all : ∀ {ps : List Tr}, Tr.tolds ps = true → ∀ t ∈ ps, t.told = true
  | [], _, t, h => by cases h
  | p :: ps, h, t, ht => by
    simp only [Tr.tolds, Bool.and_eq_true] at h
    rcases List.mem_cons.mp ht with rfl | ht
    · exact h.1
    · exact tolds_all h.2 t ht
theorem join_cases {w : Str} (h : isJoin w = true) : w = "behind" ∨ w = "either" ∨ w = "beside" := by
  unfold isJoin at h
  simp only [Bool.or_eq_true, beq_iff_eq] at h
  rcases h with (h | h) | h
  · exact .inl h
  · exact .inr (.inl h)
  · exact .inr (.inr h)
theorem join_in {w : Str} (h : isJoin w = true) : inT true (.str w) c_JOINS = some (.bl false) := by
  show (if (PyData.str w).depth ≤ 150 then some (T.bl (if true = true then !([PyData.str "behind", .str "either", .str "beside"].any fun y => PyData.eqv y (.str w)) else _)) else none) = _
  rw [if_pos (by simp [PyData.depth])]
  rcases join_cases h with rfl | rfl | rfl <;> simp [PyData.eqv]
theorem join_again {w : Str} (h : isJoin w = true) : (w == ("again" : Str)) = false := by
  rcases join_cases h with rfl | rfl | rfl <;> decide +kernel
mutual
theorem told_wd : ∀ (t : Tr), t.told = true → t.wd = true
  | .leaf s, h => by
    simp only [Tr.told, isStep, Bool.and_eq_true, decide_eq_true_eq] at h
    simp only [Tr.wd, decide_eq_true_eq]
    omega
  | .join w ps, h => by
    simp only [Tr.told, Bool.and_eq_true] at h
    simp only [Tr.wd, Bool.and_eq_true, Bool.not_eq_true']
    exact ⟨join_again h.1.1, tolds_wds ps h.2⟩
  | .again a b, h => by
    simp only [Tr.told, Bool.and_eq_true] at h
    simp only [Tr.wd, Bool.and_eq_true]
    exact ⟨told_wd a h.1, told_wd b h.2⟩
theorem tolds_wds : ∀ (ps : List Tr), Tr.tolds ps = true → Tr.wds ps = true
  | [], _ => rfl
  | t :: ts, h => by
    simp only [Tr.tolds, Bool.and_eq_true] at h
    simp only [Tr.wds, Bool.and_eq_true]
    exact ⟨told_wd t h.1, tolds_wds ts h.2⟩
end
theorem boolsT_true : ∀ n : Nat, boolsT (List.replicate n (T.bl true)) = some (List.replicate n true)
  | 0 => rfl
  | n + 1 => by simp [List.replicate_succ, boolsT, boolsT_true n]
theorem F_is_told_e (c : Cs) : ∀ (n : Nat) (t : Tr), t.depth ≤ n → t.told = true → t.steps.length ≤ 1000 → (∀ p ∈ t.parts, p.steps.length ≤ 1000) → t.parts.length ≤ 1000 → (∀ m u, u ∈ t.parts → u.depth ≤ m → m < n → u.told = true → F_is_told c m [u.T] = (ret (.bl true) : M W T)) → F_is_told c n [t.T] = (ret (.bl true) : M W T)
  | 0, t, hd, _, _, _, _, _ => by cases t <;> (rw [Tr.depth] at hd; omega)
  | n + 1, t, hd, ht, _, _, hpl, ih => by
    show run 1 (g_is_told c (F_is_told c n)) [t.T] = _
    refine run_rt ?_
    unfold g_is_told
    cases t with
    | leaf s =>
      have hs : s.length ≤ 1000 := by
        have := told_wd (.leaf s) ht
        simpa [Tr.wd] using this
      have v0 : (fVar 0 [Sl.fz (Tr.leaf s).T, Sl.un] : M W T) = ret (.str s) := by unfold Tr.T; rfl
      refine seq_rt ((dIf_t (fB_e (f1_e v0 isa_str_str))).trans (dRet_e ((fCall_e (aCons_e v0 aNil_e) rfl).trans ((F_is_step_str c hs).trans ?_))))
      rw [show isStep s = true from ht]
    | again a b =>
      simp only [Tr.told, Bool.and_eq_true] at ht
      have ea := ih n a (by simp [Tr.parts]) (by have := parts_depth (t := .again a b) a (by simp [Tr.parts]); omega) (by omega) ht.1
      have eb := ih n b (by simp [Tr.parts]) (by have := parts_depth (t := .again a b) b (by simp [Tr.parts]); omega) (by omega) ht.2
      unfold Tr.T
      have v0 : (fVar 0 [Sl.fz (.tup [.str "again", a.T, b.T]), Sl.un] : M W T) = ret (.tup [.str "again", a.T, b.T]) := rfl
      have e0 : (f2 ixT (fVar 0) (fC (.int 0)) [Sl.fz (.tup [.str "again", a.T, b.T]), Sl.un] : M W T) = ret (.str "again") := f2_e v0 rfl rfl
      have e1 : (f2 ixT (fVar 0) (fC (.int 1)) [Sl.fz (.tup [.str "again", a.T, b.T]), Sl.un] : M W T) = ret a.T := f2_e v0 rfl rfl
      have e2 : (f2 ixT (fVar 0) (fC (.int 2)) [Sl.fz (.tup [.str "again", a.T, b.T]), Sl.un] : M W T) = ret b.T := f2_e v0 rfl rfl
      have el : (f1 lenT (fVar 0) [Sl.fz (.tup [.str "again", a.T, b.T]), Sl.un] : M W T) = ret (.int 3) := f1_e v0 rfl
      refine (seq_nx (dIf_f (fB_e (f1_e v0 isa_str_tup)))).trans ?_
      refine (seq_nx (dIf_f ((bOr_f (bNot_e (fB_e (f1_e v0 isa_tup_tup)))).trans ((bOr_f (fB_e (f2_e el rfl rfl))).trans (bNot_e (fB_e (f1_e e0 isa_str_str))))))).trans ?_
      refine seq_rt ((dIf_t (fB_e (f2_e e0 rfl (by rw [eq_str]; rfl)))).trans (dRet_e ?_))
      refine (fAnd_t (f2_e el rfl (by rfl))).trans ((fAnd_t ((fCall_e (aCons_e e1 aNil_e) rfl).trans ea)).trans ((fCall_e (aCons_e e2 aNil_e) rfl).trans eb))
    | join w ps =>
      simp only [Tr.told, Bool.and_eq_true, decide_eq_true_eq] at ht
      obtain ⟨⟨hj, h2⟩, hts⟩ := ht
      unfold Tr.T
      rw [Ts_map]
      have v0 : (fVar 0 [Sl.fz (.tup [.str w, .tup (ps.map Tr.T)]), Sl.un] : M W T) = ret (.tup [.str w, .tup (ps.map Tr.T)]) := rfl
      have e0 : (f2 ixT (fVar 0) (fC (.int 0)) [Sl.fz (.tup [.str w, .tup (ps.map Tr.T)]), Sl.un] : M W T) = ret (.str w) := f2_e v0 rfl rfl
      have e1 : (f2 ixT (fVar 0) (fC (.int 1)) [Sl.fz (.tup [.str w, .tup (ps.map Tr.T)]), Sl.un] : M W T) = ret (.tup (ps.map Tr.T)) := f2_e v0 rfl rfl
      have el : (f1 lenT (fVar 0) [Sl.fz (.tup [.str w, .tup (ps.map Tr.T)]), Sl.un] : M W T) = ret (.int 2) := f1_e v0 rfl
      have el1 : (f1 lenT (f2 ixT (fVar 0) (fC (.int 1))) [Sl.fz (.tup [.str w, .tup (ps.map Tr.T)]), Sl.un] : M W T) = ret (.int (ps.length : Nat)) := f1_e e1 (by simp [lenT])
      refine (seq_nx (dIf_f (fB_e (f1_e v0 isa_str_tup)))).trans ?_
      refine (seq_nx (dIf_f ((bOr_f (bNot_e (fB_e (f1_e v0 isa_tup_tup)))).trans ((bOr_f (fB_e (f2_e el rfl rfl))).trans (bNot_e (fB_e (f1_e e0 isa_str_str))))))).trans ?_
      refine (seq_nx (dIf_f (fB_e (f2_e e0 rfl (by rw [eq_str]; simp [join_again hj]))))).trans ?_
      refine (seq_nx (dIf_f ((bOr_f (fB_e (f2_e e0 rfl (join_in hj)))).trans ((bOr_f (fB_e (f2_e el rfl (by rfl)))).trans ((bOr_f (bNot_e (fB_e (f1_e e1 isa_tup_tup)))).trans (fB_e (f2_e el1 rfl (by show some (T.bl (decide (((ps.length : Nat) : Int) < 2))) = _; rw [decide_eq_false (by omega)])))))))).trans ?_
      refine dRet_e (f1_e (asL_e (fLc_map (fun _ => .bl true) (fItems_t e1) (by rw [List.length_map, sizeLine_eq]; have : ps.length ≤ 1000 := hpl; omega) fun u hu => ?_)) ?_)
      · obtain ⟨p, hp, rfl⟩ := List.mem_map.mp hu
        exact (fCall_e (aCons_e rfl aNil_e) rfl).trans (ih n p hp (by have := parts_depth (t := .join w ps) p hp; omega) (by omega) (tolds_all hts p hp))
      · rw [List.map_map]
        show (boolsT _).map _ = _
        rw [show ps.map ((fun _ => T.bl true) ∘ Tr.T) = List.replicate ps.length (T.bl true) from List.map_const', boolsT_true]
        simp

mutual
theorem steps_pos : ∀ (t : Tr), t.told = true → 1 ≤ t.steps.length
  | .leaf s, _ => by simp [Tr.steps]
  | .join w ps, h => by
    simp only [Tr.told, Bool.and_eq_true, decide_eq_true_eq] at h
    rw [Tr.steps]
    have := stepss_pos ps h.2
    omega
  | .again a b, h => by
    simp only [Tr.told, Bool.and_eq_true] at h
    rw [Tr.steps, List.length_append]
    have := steps_pos a h.1
    omega
theorem stepss_pos : ∀ (ps : List Tr), Tr.tolds ps = true → ps.length ≤ (Tr.stepss ps).length
  | [], _ => by simp [Tr.stepss]
  | t :: ts, h => by
    simp only [Tr.tolds, Bool.and_eq_true] at h
    rw [Tr.stepss, List.length_append, List.length_cons]
    have h1 := steps_pos t h.1
    have h2 := stepss_pos ts h.2
    omega
end
theorem parts_told {t : Tr} (h : t.told = true) : ∀ p ∈ t.parts, p.told = true := by
  intro p hp
  cases t with
  | leaf s => cases hp
  | join w ps => simp only [Tr.told, Bool.and_eq_true] at h; exact tolds_all h.2 p hp
  | again a b =>
    simp only [Tr.told, Bool.and_eq_true] at h
    simp only [Tr.parts, List.mem_cons, List.not_mem_nil, or_false] at hp
    rcases hp with rfl | rfl
    · exact h.1
    · exact h.2
theorem parts_short {t : Tr} {n : Nat} (h : t.steps.length ≤ n) : ∀ p ∈ t.parts, p.steps.length ≤ n := by
  intro p hp
  have hl : ∀ s, t ≠ .leaf s := fun s e => by subst e; cases hp
  exact Nat.le_trans (by rw [steps_parts hl]; exact length_flat Tr.steps _ p hp) h
theorem parts_few {t : Tr} (ht : t.told = true) (h : t.steps.length ≤ 1000) : t.parts.length ≤ 1000 := by
  cases t with
  | leaf s => simp [Tr.parts]
  | again a b => simp [Tr.parts]
  | join w ps =>
    simp only [Tr.told, Bool.and_eq_true] at ht
    rw [Tr.steps] at h
    have := stepss_pos ps ht.2
    show ps.length ≤ 1000
    omega
theorem is_told_ok (c : Cs) : ∀ (n : Nat) (t : Tr), t.depth ≤ n → t.told = true → t.steps.length ≤ 1000 → F_is_told c n [t.T] = (ret (.bl true) : M W T) := by
  intro n
  induction n using Nat.strongRecOn with
  | ind n ih =>
    intro t hd ht hl
    exact F_is_told_e c n t hd ht hl (parts_short hl) (parts_few ht hl) fun m u hu hum hmn hut => ih m hmn u hum hut (parts_short hl u hu)
/-! ### begins and ends -/
mutual
def Tr.begins : Tr → List Str
  | .leaf s => [s]
  | .join w ps => if w == "behind" then Tr.begin1 ps else Tr.beginss ps
  | .again a _ => a.begins
def Tr.begin1 : List Tr → List Str
  | [] => []
  | t :: _ => t.begins
def Tr.beginss : List Tr → List Str
  | [] => []
  | t :: ts => t.begins ++ Tr.beginss ts
end
mutual
theorem begins_len : ∀ t : Tr, t.begins.length ≤ t.steps.length
  | .leaf s => by simp [Tr.begins, Tr.steps]
  | .join w ps => by
    rw [Tr.begins, Tr.steps]
    split
    · exact begin1_len ps
    · exact beginss_len ps
  | .again a b => by
    rw [Tr.begins, Tr.steps, List.length_append]
    have := begins_len a
    omega
theorem begin1_len : ∀ ps : List Tr, (Tr.begin1 ps).length ≤ (Tr.stepss ps).length
  | [] => by simp [Tr.begin1]
  | t :: ts => by
    rw [Tr.begin1, Tr.stepss, List.length_append]
    have := begins_len t
    omega
theorem beginss_len : ∀ ps : List Tr, (Tr.beginss ps).length ≤ (Tr.stepss ps).length
  | [] => by simp [Tr.beginss]
  | t :: ts => by
    rw [Tr.beginss, Tr.stepss, List.length_append, List.length_append]
    have h1 := begins_len t
    have h2 := beginss_len ts
    omega
end
theorem beginss_flat : ∀ ps : List Tr, Tr.beginss ps = ps.flatMap Tr.begins
  | [] => rfl
  | t :: ts => by rw [Tr.beginss, beginss_flat ts]; rfl
theorem F_begins_in_e (c : Cs) : ∀ (n : Nat) (t : Tr), t.depth ≤ n → t.told = true → t.steps.length ≤ 1000 → F_begins_in c n [t.T] = (ret (sLst t.begins) : M W T)
  | 0, t, hd, _, _ => by cases t <;> (rw [Tr.depth] at hd; omega)
  | n + 1, t, hd, ht, hlen => by
    have ih := F_begins_in_e c n
    show run 2 (g_begins_in c (F_begins_in c n)) [t.T] = _
    refine run_rt ?_
    unfold g_begins_in
    cases t with
    | leaf s =>
      have v0 : (fVar 0 [Sl.fz (Tr.leaf s).T, Sl.un, Sl.un] : M W T) = ret (.str s) := by unfold Tr.T; rfl
      refine seq_rt ((dIf_t (fB_e (f1_e v0 isa_str_str))).trans (dRet_e (asL_e ?_)))
      show fLst (aCons (fVar 0) aNil) _ = _
      unfold fLst
      rw [aCons_e v0 aNil_e, ret_bnd, if_pos (by rw [sizeLine_eq]; simp)]
      rfl
    | again a b =>
      simp only [Tr.told, Bool.and_eq_true] at ht
      have ea := ih a (by have := parts_depth (t := .again a b) a (by simp [Tr.parts]); omega) ht.1 (parts_short hlen a (by simp [Tr.parts]))
      unfold Tr.T
      have v0 : (fVar 0 [Sl.fz (.tup [.str "again", a.T, b.T]), Sl.un, Sl.un] : M W T) = ret (.tup [.str "again", a.T, b.T]) := rfl
      have e0 : (f2 ixT (fVar 0) (fC (.int 0)) [Sl.fz (.tup [.str "again", a.T, b.T]), Sl.un, Sl.un] : M W T) = ret (.str "again") := f2_e v0 rfl rfl
      have e1 : (f2 ixT (fVar 0) (fC (.int 1)) [Sl.fz (.tup [.str "again", a.T, b.T]), Sl.un, Sl.un] : M W T) = ret a.T := f2_e v0 rfl rfl
      refine (seq_nx (dIf_f (fB_e (f1_e v0 isa_str_tup)))).trans ?_
      refine (seq_nx (dIf_f (fB_e (f2_e e0 rfl (by rw [eq_str]; simp only [Bool.false_eq_true, if_false]; rw [show (("again" : Str) == "behind") = false by decide +kernel]))))).trans ?_
      refine seq_rt ((dIf_t (fB_e (f2_e e0 rfl (by rw [eq_str]; simp)))).trans (dRet_e ((fCall_e (aCons_e e1 aNil_e) rfl).trans ea)))
    | join w ps =>
      have hj : isJoin w = true := by simp only [Tr.told, Bool.and_eq_true] at ht; exact ht.1.1
      have h2 : 2 ≤ ps.length := by simp only [Tr.told, Bool.and_eq_true, decide_eq_true_eq] at ht; exact ht.1.2
      have each : ∀ p ∈ ps, F_begins_in c n [p.T] = (ret (sLst p.begins) : M W T) := fun p hp => ih p (by have := parts_depth (t := .join w ps) p hp; omega) (parts_told ht p hp) (parts_short hlen p hp)
      have hbl := begins_len (.join w ps)
      unfold Tr.T
      rw [Ts_map]
      have v0 : (fVar 0 [Sl.fz (.tup [.str w, .tup (ps.map Tr.T)]), Sl.un, Sl.un] : M W T) = ret (.tup [.str w, .tup (ps.map Tr.T)]) := rfl
      have e0 : (f2 ixT (fVar 0) (fC (.int 0)) [Sl.fz (.tup [.str w, .tup (ps.map Tr.T)]), Sl.un, Sl.un] : M W T) = ret (.str w) := f2_e v0 rfl rfl
      have e1 : (f2 ixT (fVar 0) (fC (.int 1)) [Sl.fz (.tup [.str w, .tup (ps.map Tr.T)]), Sl.un, Sl.un] : M W T) = ret (.tup (ps.map Tr.T)) := f2_e v0 rfl rfl
      refine (seq_nx (dIf_f (fB_e (f1_e v0 isa_str_tup)))).trans ?_
      cases hw : (w == ("behind" : Str)) with
      | true =>
        cases ps with
        | nil => simp at h2
        | cons p rest =>
          refine seq_rt ((dIf_t (fB_e (f2_e e0 rfl (by rw [eq_str]; simp only [Bool.false_eq_true, if_false, hw])))).trans (dRet_e ((fCall_e (aCons_e (f2_e (t := .tup (p.T :: rest.map Tr.T)) (u := .int 0) (v := p.T) e1 rfl (by simp [ixT, atI, ixN])) aNil_e) rfl).trans ((each p List.mem_cons_self).trans ?_))))
          rw [Tr.begins, hw]
          rfl
      | false =>
        refine (seq_nx (dIf_f (fB_e (f2_e e0 rfl (by rw [eq_str]; simp only [Bool.false_eq_true, if_false, hw]))))).trans ?_
        refine (seq_nx (dIf_f (fB_e (f2_e e0 rfl (by rw [eq_str]; simp only [Bool.false_eq_true, if_false, join_again hj]))))).trans ?_
        refine dRet_e (asL_e ?_)
        have eq : (Tr.join w ps).begins.map T.str = ps.flatMap fun p => p.begins.map T.str := by rw [Tr.begins, hw, if_neg (by simp), beginss_flat, List.map_flatMap]
        rw [eq]
        refine fLc2_map (ps := ps) Tr.T (fun p => p.begins.map T.str) (fItems_t e1) (fun p hp => fItems_l ((fCall_e (aCons_e rfl aNil_e) rfl).trans (each p hp))) (fun _ _ _ _ => rfl) ?_
        rw [← eq, List.length_map, sizeLine_eq]
        omega

mutual
def Tr.ends : Tr → List Str
  | .leaf s => [s]
  | .join w ps => if w == "behind" then Tr.end1 ps else Tr.endss ps
  | .again a _ => a.ends
def Tr.end1 : List Tr → List Str
  | [] => []
  | [t] => t.ends
  | _ :: t :: ts => Tr.end1 (t :: ts)
def Tr.endss : List Tr → List Str
  | [] => []
  | t :: ts => t.ends ++ Tr.endss ts
end
mutual
theorem ends_len : ∀ t : Tr, t.ends.length ≤ t.steps.length
  | .leaf s => by simp [Tr.ends, Tr.steps]
  | .join w ps => by
    rw [Tr.ends, Tr.steps]
    split
    · exact end1_len ps
    · exact endss_len ps
  | .again a b => by
    rw [Tr.ends, Tr.steps, List.length_append]
    have := ends_len a
    omega
theorem end1_len : ∀ ps : List Tr, (Tr.end1 ps).length ≤ (Tr.stepss ps).length
  | [] => by simp [Tr.end1]
  | [t] => by
    rw [Tr.end1, Tr.stepss, List.length_append]
    have := ends_len t
    omega
  | p :: t :: ts => by
    rw [Tr.end1, Tr.stepss, List.length_append]
    have := end1_len (t :: ts)
    omega
theorem endss_len : ∀ ps : List Tr, (Tr.endss ps).length ≤ (Tr.stepss ps).length
  | [] => by simp [Tr.endss]
  | t :: ts => by
    rw [Tr.endss, Tr.stepss, List.length_append, List.length_append]
    have h1 := ends_len t
    have h2 := endss_len ts
    omega
end
theorem endss_flat : ∀ ps : List Tr, Tr.endss ps = ps.flatMap Tr.ends
  | [] => rfl
  | t :: ts => by rw [Tr.endss, endss_flat ts]; rfl
theorem end1_last : ∀ (ps : List Tr) (h : ps ≠ []), Tr.end1 ps = (ps.getLast h).ends
  | [t], _ => rfl
  | p :: t :: ts, _ => by
    rw [Tr.end1, end1_last (t :: ts) (by simp)]
    exact (congrArg Tr.ends (List.getLast_cons (a := p) (l := t :: ts) (by simp))).symm
theorem last_at (ps : List Tr) (h : ps ≠ []) : ixT (.tup (ps.map Tr.T)) (.int (-1)) = some (ps.getLast h).T := by
  have hpos : 0 < ps.length := List.length_pos_iff.mpr h
  show atI (ps.map Tr.T) (-1) = _
  unfold atI ixN
  rw [if_neg (by omega), if_pos (by rw [List.length_map]; omega)]
  show (ps.map Tr.T)[((-1 : Int) + ((ps.map Tr.T).length : Nat)).toNat]? = _
  rw [List.length_map, show ((-1 : Int) + (ps.length : Nat)).toNat = ps.length - 1 by omega, List.getElem?_map, List.getLast_eq_getElem, List.getElem?_eq_getElem (by omega)]
  rfl
theorem F_ends_in_e (c : Cs) : ∀ (n : Nat) (t : Tr), t.depth ≤ n → t.told = true → t.steps.length ≤ 1000 → F_ends_in c n [t.T] = (ret (sLst t.ends) : M W T)
  | 0, t, hd, _, _ => by cases t <;> (rw [Tr.depth] at hd; omega)
  | n + 1, t, hd, ht, hlen => by
    have ih := F_ends_in_e c n
    show run 2 (g_ends_in c (F_ends_in c n)) [t.T] = _
    refine run_rt ?_
    unfold g_ends_in
    cases t with
    | leaf s =>
      have v0 : (fVar 0 [Sl.fz (Tr.leaf s).T, Sl.un, Sl.un] : M W T) = ret (.str s) := by unfold Tr.T; rfl
      refine seq_rt ((dIf_t (fB_e (f1_e v0 isa_str_str))).trans (dRet_e (asL_e ?_)))
      show fLst (aCons (fVar 0) aNil) _ = _
      unfold fLst
      rw [aCons_e v0 aNil_e, ret_bnd, if_pos (by rw [sizeLine_eq]; simp)]
      rfl
    | again a b =>
      simp only [Tr.told, Bool.and_eq_true] at ht
      have ea := ih a (by have := parts_depth (t := .again a b) a (by simp [Tr.parts]); omega) ht.1 (parts_short hlen a (by simp [Tr.parts]))
      unfold Tr.T
      have v0 : (fVar 0 [Sl.fz (.tup [.str "again", a.T, b.T]), Sl.un, Sl.un] : M W T) = ret (.tup [.str "again", a.T, b.T]) := rfl
      have e0 : (f2 ixT (fVar 0) (fC (.int 0)) [Sl.fz (.tup [.str "again", a.T, b.T]), Sl.un, Sl.un] : M W T) = ret (.str "again") := f2_e v0 rfl rfl
      have e1 : (f2 ixT (fVar 0) (fC (.int 1)) [Sl.fz (.tup [.str "again", a.T, b.T]), Sl.un, Sl.un] : M W T) = ret a.T := f2_e v0 rfl rfl
      refine (seq_nx (dIf_f (fB_e (f1_e v0 isa_str_tup)))).trans ?_
      refine (seq_nx (dIf_f (fB_e (f2_e e0 rfl (by rw [eq_str]; simp only [Bool.false_eq_true, if_false]; rw [show (("again" : Str) == "behind") = false by decide +kernel]))))).trans ?_
      refine seq_rt ((dIf_t (fB_e (f2_e e0 rfl (by rw [eq_str]; simp)))).trans (dRet_e ((fCall_e (aCons_e e1 aNil_e) rfl).trans ea)))
    | join w ps =>
      have hj : isJoin w = true := by simp only [Tr.told, Bool.and_eq_true] at ht; exact ht.1.1
      have h2 : 2 ≤ ps.length := by simp only [Tr.told, Bool.and_eq_true, decide_eq_true_eq] at ht; exact ht.1.2
      have each : ∀ p ∈ ps, F_ends_in c n [p.T] = (ret (sLst p.ends) : M W T) := fun p hp => ih p (by have := parts_depth (t := .join w ps) p hp; omega) (parts_told ht p hp) (parts_short hlen p hp)
      have hbl := ends_len (.join w ps)
      unfold Tr.T
      rw [Ts_map]
      have v0 : (fVar 0 [Sl.fz (.tup [.str w, .tup (ps.map Tr.T)]), Sl.un, Sl.un] : M W T) = ret (.tup [.str w, .tup (ps.map Tr.T)]) := rfl
      have e0 : (f2 ixT (fVar 0) (fC (.int 0)) [Sl.fz (.tup [.str w, .tup (ps.map Tr.T)]), Sl.un, Sl.un] : M W T) = ret (.str w) := f2_e v0 rfl rfl
      have e1 : (f2 ixT (fVar 0) (fC (.int 1)) [Sl.fz (.tup [.str w, .tup (ps.map Tr.T)]), Sl.un, Sl.un] : M W T) = ret (.tup (ps.map Tr.T)) := f2_e v0 rfl rfl
      refine (seq_nx (dIf_f (fB_e (f1_e v0 isa_str_tup)))).trans ?_
      cases hw : (w == ("behind" : Str)) with
      | true =>
        have hne : ps ≠ [] := fun z => by subst z; simp at h2
        have hlast : (f2 ixT (f2 ixT (fVar 0) (fC (.int 1))) (f1 negT (fC (.int 1))) [Sl.fz (.tup [.str w, .tup (ps.map Tr.T)]), Sl.un, Sl.un] : M W T) = ret (ps.getLast hne).T :=
          f2_e (t := .tup (ps.map Tr.T)) (u := .int (-1)) (v := (ps.getLast hne).T) e1 (f1_e rfl rfl) (last_at ps hne)
        refine seq_rt ((dIf_t (fB_e (f2_e e0 rfl (by rw [eq_str]; simp only [Bool.false_eq_true, if_false, hw])))).trans (dRet_e ((fCall_e (aCons_e hlast aNil_e) rfl).trans ((each _ (List.getLast_mem hne)).trans ?_))))
        rw [Tr.ends, hw, if_pos rfl, end1_last ps hne]
      | false =>
        refine (seq_nx (dIf_f (fB_e (f2_e e0 rfl (by rw [eq_str]; simp only [Bool.false_eq_true, if_false, hw]))))).trans ?_
        refine (seq_nx (dIf_f (fB_e (f2_e e0 rfl (by rw [eq_str]; simp only [Bool.false_eq_true, if_false, join_again hj]))))).trans ?_
        refine dRet_e (asL_e ?_)
        have eq : (Tr.join w ps).ends.map T.str = ps.flatMap fun p => p.ends.map T.str := by rw [Tr.ends, hw, if_neg (by simp), endss_flat, List.map_flatMap]
        rw [eq]
        refine fLc2_map (ps := ps) Tr.T (fun p => p.ends.map T.str) (fItems_t e1) (fun p hp => fItems_l ((fCall_e (aCons_e rfl aNil_e) rfl).trans (each p hp))) (fun _ _ _ _ => rfl) ?_
        rw [← eq, List.length_map, sizeLine_eq]
        omega
end
end PL

set_option maxHeartbeats 4000000
namespace PL
open PySem L2
section
variable {W : Type}
/-! ### loops, lists of texts -/
theorem loopD_inv {i : Nat} {g : Rho → M W Fl} (Inv : List T → Rho → Prop) (step : ∀ t ts ρ, Inv (t :: ts) ρ → ∃ ρ2, g (ρ.set i (.fz t)) = ret (.nx ρ2) ∧ Inv ts ρ2) : ∀ ts ρ, Inv ts ρ → ∃ ρ', loopD (gN i) g ts ρ = ret (.nx ρ') ∧ Inv [] ρ'
  | [], ρ, h => ⟨ρ, rfl, h⟩
  | t :: ts, ρ, h => by
    obtain ⟨ρ2, h1, h2⟩ := step t ts ρ h
    obtain ⟨ρ', h3, h4⟩ := loopD_inv Inv step ts ρ2 h2
    refine ⟨ρ', ?_, h4⟩
    unfold loopD
    show bnd (lift (some (ρ.set i (.fz t)))) _ = _
    rw [lift_some, ret_bnd, h1, ret_bnd]
    exact h3
theorem dFor_inv {i : Nat} {fi : Rho → M W (List T)} {g : Rho → M W Fl} {ρ : Rho} {ts : List T} (Inv : List T → Rho → Prop) (hi : fi ρ = ret ts) (h0 : Inv ts ρ) (step : ∀ t ts ρ, Inv (t :: ts) ρ → ∃ ρ2, g (ρ.set i (.fz t)) = ret (.nx ρ2) ∧ Inv ts ρ2) :
    ∃ ρ', dFor fi (gN i) g ρ = ret (.nx ρ') ∧ Inv [] ρ' := by
  obtain ⟨ρ', h1, h2⟩ := loopD_inv Inv step ts ρ h0
  exact ⟨ρ', by unfold dFor; rw [hi, ret_bnd, h1], h2⟩
theorem dataTs_strs : ∀ xs : List Str, dataTs (xs.map T.str) = some (xs.map PyData.str)
  | [] => rfl
  | x :: xs => by simp [dataTs, dataT, dataTs_strs xs]
theorem inT_strs (neg : Bool) (s : Str) (xs : List Str) : inT neg (.str s) (sLst xs) = some (.bl (if neg then !xs.any (· == s) else xs.any (· == s))) := by
  show ((dataT (.str s)).bind fun d => (dataTs (xs.map T.str)).bind fun es => if d.depth ≤ 150 then some (T.bl (if neg then !es.any (fun y => PyData.eqv y d) else es.any fun y => PyData.eqv y d)) else none) = _
  rw [dataTs_strs]
  show (if (PyData.str s).depth ≤ 150 then some (T.bl (if neg then !(xs.map PyData.str).any (fun y => PyData.eqv y (.str s)) else (xs.map PyData.str).any fun y => PyData.eqv y (.str s))) else none) = _
  rw [if_pos (by simp [PyData.depth]), List.any_map]
  have : ((fun y => PyData.eqv y (.str s)) ∘ PyData.str) = fun x : Str => x == s := by
    funext x
    simp [PyData.eqv]
  rw [this]
theorem eq_nil (neg : Bool) (xs : List Str) : eqT neg (sLst xs) (.lst []) = some (.bl (if neg then !xs.isEmpty else xs.isEmpty)) := by
  show ((dataTs (xs.map T.str)).map PyData.list).bind (fun d => ((dataTs []).map PyData.list).bind fun e => if min d.depth e.depth ≤ 150 then some (T.bl (if neg then !PyData.eqv d e else PyData.eqv d e)) else none) = _
  rw [dataTs_strs]
  show (if min (PyData.list (xs.map PyData.str)).depth (PyData.list []).depth ≤ 150 then some (T.bl (if neg then !PyData.eqv (.list (xs.map PyData.str)) (.list []) else PyData.eqv (.list (xs.map PyData.str)) (.list []))) else none) = _
  have h1 : (PyData.list []).depth ≤ 150 := by simp [PyData.depth, PyData.depthAll]
  rw [if_pos (by omega)]
  have h2 : PyData.eqv (.list (xs.map PyData.str)) (.list []) = xs.isEmpty := by cases xs <;> simp [PyData.eqv, PyData.eqvAll]
  rw [h2]
/-- both ends of a body -/
def both (t : Tr) : List Str := t.begins.filter fun s => t.ends.any (· == s)
mutual
def Tr.apart : Tr → Bool
  | .leaf _ => true
  | .join _ ps => Tr.aparts ps
  | .again a b => (both a).isEmpty && a.apart && b.apart
def Tr.aparts : List Tr → Bool
  | [] => true
  | t :: ts => t.apart && Tr.aparts ts
end
theorem aparts_all : ∀ {ps : List Tr}, Tr.aparts ps = true → ∀ t ∈ ps, t.apart = true
  | [], _, t, h => by cases h
  | p :: ps, h, t, ht => by
    simp only [Tr.aparts, Bool.and_eq_true] at h
    rcases List.mem_cons.mp ht with rfl | ht
    · exact h.1
    · exact aparts_all h.2 t ht
theorem parts_apart {t : Tr} (h : t.apart = true) : ∀ p ∈ t.parts, p.apart = true := by
  intro p hp
  cases t with
  | leaf s => cases hp
  | join w ps => exact aparts_all h p hp
  | again a b =>
    simp only [Tr.apart, Bool.and_eq_true] at h
    simp only [Tr.parts, List.mem_cons, List.not_mem_nil, or_false] at hp
    rcases hp with rfl | rfl
    · exact h.1.2
    · exact h.2
theorem F_need_bodies_e (c : Cs) : ∀ (n : Nat) (t : Tr), t.depth ≤ n → n ≤ 30 → t.told = true → t.steps.length ≤ 1000 → t.apart = true → F_need_bodies c n [t.T] = (ret .non : M W T)
  | 0, t, hd, _, _, _, _ => by cases t <;> (rw [Tr.depth] at hd; omega)
  | n + 1, t, hd, hn, ht, hlen, hap => by
    have ih := F_need_bodies_e c n
    show run 3 (g_need_bodies c (F_need_bodies c n)) [t.T] = _
    unfold g_need_bodies
    by_cases hl : ∃ s, t = .leaf s
    · obtain ⟨s, rfl⟩ := hl
      have v0 : (fVar 0 [Sl.fz (Tr.leaf s).T, Sl.un, Sl.un, Sl.un] : M W T) = ret (.str s) := by unfold Tr.T; rfl
      exact run_rt (seq_rt ((dIf_t (fB_e (f1_e v0 isa_str_str))).trans rfl))
    · have hl' : ∀ s, t ≠ .leaf s := fun s e => hl ⟨s, e⟩
      have v0 : (fVar 0 [Sl.fz t.T, Sl.un, Sl.un, Sl.un] : M W T) = ret t.T := rfl
      obtain ⟨ρ', hfor, x, rfl, _⟩ := dFor_inv (W := W) (i := 1) (g := dExpr (fCall 1 (aCons (fVar 1) aNil) (F_need_bodies c n))) (ρ := [Sl.fz t.T, Sl.un, Sl.un, Sl.un]) (fun ts ρ => ∃ x, ρ = [Sl.fz t.T, x, Sl.un, Sl.un] ∧ ∃ ps : List Tr, ts = ps.map Tr.T ∧ ∀ p ∈ ps, p ∈ t.parts)
        (fItems_t ((fCall_e (aCons_e v0 aNil_e) rfl).trans (F_parts_of_e c (told_wd t ht) hl'))) ⟨Sl.un, rfl, t.parts, rfl, fun _ h => h⟩ (fun u ts ρ h => by
          obtain ⟨x, rfl, ps, e, hps⟩ := h
          cases ps with
          | nil => cases e
          | cons p ps =>
            cases e
            refine ⟨[Sl.fz t.T, Sl.fz p.T, Sl.un, Sl.un], ?_, Sl.fz p.T, rfl, ps, rfl, fun q hq => hps q (List.mem_cons_of_mem _ hq)⟩
            have hp := hps p List.mem_cons_self
            have e1 : (fCall 1 (aCons (fVar 1) aNil) (F_need_bodies c n) [Sl.fz t.T, Sl.fz p.T, Sl.un, Sl.un] : M W T) = ret .non := (fCall_e (aCons_e rfl aNil_e) rfl).trans (ih p (by have := parts_depth p hp; omega) (by omega) (parts_told ht p hp) (parts_short hlen p hp) (parts_apart hap p hp))
            show dExpr _ _ = _
            unfold dExpr
            show bnd (fCall 1 (aCons (fVar 1) aNil) (F_need_bodies c n) [Sl.fz t.T, Sl.fz p.T, Sl.un, Sl.un]) _ = _
            rw [e1]
            rfl)
      suffices h : ∃ ρ2, (dIf (fB (f2 (eqT false) (f2 ixT (fVar 0) (fC (.int 0))) (fC (.str "again")))) (seqD (dSet 2 (xFz (asL (fLc (fItems (fCall 1 (aCons (f2 ixT (fVar 0) (fC (.int 1))) aNil) (F_begins_in c 30))) [3] (gN 3) (fB (f2 (inT false) (fVar 3) (fCall 1 (aCons (f2 ixT (fVar 0) (fC (.int 1))) aNil) (F_ends_in c 30)))) (fVar 3))))) (dIf (fB (f2 (eqT true) (fVar 2) (asL (fLst aNil)))) (fun _ => stuck) (fun ρ => ret (.nx ρ)))) (fun ρ => ret (.nx ρ)) [Sl.fz t.T, x, Sl.un, Sl.un] : M W Fl) = ret (.nx ρ2) by
        obtain ⟨ρ2, h⟩ := h
        exact run_nx ((seq_nx (dIf_f (fB_e (f1_e v0 (isa_node hl'))))).trans ((seq_nx hfor).trans h))
      cases t with
      | leaf s => exact absurd rfl (hl' s)
      | join w ps =>
        have e0 : (f2 ixT (fVar 0) (fC (.int 0)) [Sl.fz (Tr.join w ps).T, x, Sl.un, Sl.un] : M W T) = ret (.str w) := by unfold Tr.T; exact f2_e rfl rfl rfl
        have hj : isJoin w = true := by simp only [Tr.told, Bool.and_eq_true] at ht; exact ht.1.1
        exact ⟨_, dIf_f (fB_e (f2_e e0 rfl (by rw [eq_str]; simp only [Bool.false_eq_true, if_false, join_again hj])))⟩
      | again a b =>
        simp only [Tr.told, Bool.and_eq_true] at ht
        simp only [Tr.apart, Bool.and_eq_true] at hap
        have hda : a.depth ≤ 30 := by have := parts_depth (t := .again a b) a (by simp [Tr.parts]); omega
        have hla : a.steps.length ≤ 1000 := parts_short hlen a (by simp [Tr.parts])
        have e0 : (f2 ixT (fVar 0) (fC (.int 0)) [Sl.fz (Tr.again a b).T, x, Sl.un, Sl.un] : M W T) = ret (.str "again") := by unfold Tr.T; exact f2_e rfl rfl rfl
        have e1 : ∀ y, (f2 ixT (fVar 0) (fC (.int 1)) [Sl.fz (Tr.again a b).T, x, Sl.un, y] : M W T) = ret a.T := fun y => by rw [show (Tr.again a b).T = .tup [.str "again", a.T, b.T] by rw [Tr.T]]; exact f2_e rfl rfl rfl
        have hb : ∀ y, (fCall 1 (aCons (f2 ixT (fVar 0) (fC (.int 1))) aNil) (F_begins_in c 30) [Sl.fz (Tr.again a b).T, x, Sl.un, y] : M W T) = ret (sLst a.begins) := fun y => (fCall_e (aCons_e (e1 y) aNil_e) rfl).trans (F_begins_in_e c 30 a hda ht.1 hla)
        have he : ∀ y, (fCall 1 (aCons (f2 ixT (fVar 0) (fC (.int 1))) aNil) (F_ends_in c 30) [Sl.fz (Tr.again a b).T, x, Sl.un, y] : M W T) = ret (sLst a.ends) := fun y => (fCall_e (aCons_e (e1 y) aNil_e) rfl).trans (F_ends_in_e c 30 a hda ht.1 hla)
        have hc : (fLc (fItems (fCall 1 (aCons (f2 ixT (fVar 0) (fC (.int 1))) aNil) (F_begins_in c 30))) [3] (gN 3) (fB (f2 (inT false) (fVar 3) (fCall 1 (aCons (f2 ixT (fVar 0) (fC (.int 1))) aNil) (F_ends_in c 30)))) (fVar 3) [Sl.fz (Tr.again a b).T, x, Sl.un, Sl.un] : M W (List T)) = ret ((both a).map T.str) := by
          have q := fLc_pure (W := W) (fi := fItems (fCall 1 (aCons (f2 ixT (fVar 0) (fC (.int 1))) aNil) (F_begins_in c 30))) (vs := [3]) (i := 3) (gt := fB (f2 (inT false) (fVar 3) (fCall 1 (aCons (f2 ixT (fVar 0) (fC (.int 1))) aNil) (F_ends_in c 30)))) (ge := fVar 3) (ρ := [Sl.fz (Tr.again a b).T, x, Sl.un, Sl.un]) (ts := a.begins.map T.str)
            (fun u => match u with | .str s => a.ends.any (· == s) | _ => false) id (fItems_l (hb _)) (by rw [List.length_map, sizeLine_eq]; have := begins_len a; omega)
            (fun u hu => by
              obtain ⟨s, _, rfl⟩ := List.mem_map.mp hu
              exact fB_e (f2_e (t := .str s) (u := sLst a.ends) rfl (he _) (by rw [inT_strs]; rfl)))
            (fun u hu _ => rfl)
          rw [q, List.filter_map, List.map_id]
          rfl
        refine ⟨_, (dIf_t (fB_e (f2_e e0 rfl (by rw [eq_str]; simp)))).trans ((seq_nx (dSet_e (xFz_e (asL_e hc)))).trans (dIf_f (fB_e (f2_e (t := sLst (both a)) (u := .lst []) rfl ?_ (by rw [eq_nil, if_pos rfl, hap.1.1]; rfl)))))⟩
        refine asL_e ?_
        unfold fLst
        rw [aNil_e, ret_bnd, if_pos (by rw [sizeLine_eq]; simp)]

/-! ### sorted texts -/
def srt (xs : List Str) : List T := (xs.map T.str).mergeSort (PySem.W.dataLe false dat)
def unS : T → Str
  | .str s => s
  | _ => ⟨#[]⟩
theorem srt_perm (xs : List Str) : (srt xs).Perm (xs.map T.str) := List.mergeSort_perm _ _
theorem srt_strs (xs : List Str) : ∃ ys : List Str, srt xs = ys.map T.str ∧ ys.Perm xs := by
  refine ⟨(srt xs).map unS, ?_, ?_⟩
  · rw [List.map_map]
    refine (List.map_id _).symm.trans (List.map_congr_left fun t ht => ?_)
    obtain ⟨s, _, rfl⟩ := List.mem_map.mp ((srt_perm xs).mem_iff.mp ht)
    rfl
  · have := (srt_perm xs).map unS
    rw [List.map_map] at this
    have e : xs.map (unS ∘ T.str) = xs := by
      refine (List.map_congr_left fun s _ => ?_).trans (List.map_id _)
      rfl
    rw [e] at this
    exact this
theorem srt_len (xs : List Str) : (srt xs).length = xs.length := by rw [(srt_perm xs).length_eq, List.length_map]
theorem sortable_strs (xs : List Str) : sortableB (xs.map PyData.str) = true := by
  unfold sortableB
  simp only [Bool.and_eq_true, List.all_eq_true, Bool.or_eq_true, decide_eq_true_eq]
  refine ⟨⟨fun d hd e he => ?_, .inr fun d hd => ?_⟩, fun d hd => ?_⟩
  · obtain ⟨a, _, rfl⟩ := List.mem_map.mp hd
    obtain ⟨b, _, rfl⟩ := List.mem_map.mp he
    simp [PySem.W.alike]
  · obtain ⟨a, _, rfl⟩ := List.mem_map.mp hd
    rfl
  · obtain ⟨a, _, rfl⟩ := List.mem_map.mp hd
    simp [PyData.depth]
theorem sortT_strs {xs : List Str} (h : xs.length ≤ 1000) : sortT (sLst xs) = some (srt xs) := by
  show ((dataTs (xs.map T.str)).bind fun ds => if sortableB ds = true ∧ (xs.map T.str).length ≤ sizeLine then some ((xs.map T.str).mergeSort (PySem.W.dataLe false dat)) else none) = _
  rw [dataTs_strs]
  show (if sortableB (xs.map PyData.str) = true ∧ (xs.map T.str).length ≤ sizeLine then some ((xs.map T.str).mergeSort (PySem.W.dataLe false dat)) else none) = _
  rw [if_pos ⟨sortable_strs xs, by rw [List.length_map, sizeLine_eq]; omega⟩]
  rfl
theorem F_init_e (c : Cs) {t : Tr} (hd : t.depth ≤ 30) (hw : t.wd = true) (hl : t.steps.length ≤ 1000) : F_Form___init__ c [t.T] = (ret [t.T, .tup (srt t.steps)] : M W (List T)) := by
  unfold F_Form___init__ runI g_Form___init__
  have v1 : (fVar 1 [Sl.un, Sl.fz t.T] : M W T) = ret t.T := rfl
  have e2 : (f1 tupT (asL (f1l sortT (fCall 1 (aCons (fVar 1) aNil) (F_steps_in c 30)))) [Sl.un, Sl.fz t.T] : M W T) = ret (.tup (srt t.steps)) :=
    f1_e (asL_e (f1l_e ((fCall_e (aCons_e v1 aNil_e) rfl).trans (F_steps_in_e c 30 t hd hw hl)) (sortT_strs hl))) rfl
  show noEr (iCons (fVar 1) (iCons (f1 tupT (asL (f1l sortT (fCall 1 (aCons (fVar 1) aNil) (F_steps_in c 30))))) iNil) [Sl.un, Sl.fz t.T]) = _
  unfold iCons
  rw [v1, noEr_ret, ret_bnd]
  show noEr (bnd (bnd (noEr (f1 tupT (asL (f1l sortT (fCall 1 (aCons (fVar 1) aNil) (F_steps_in c 30)))) [Sl.un, Sl.fz t.T])) fun u => bnd (iNil [Sl.un, Sl.fz t.T]) fun zs => ret (u :: zs)) fun zs => ret (t.T :: zs)) = _
  rw [e2]
  rfl
/-- the object of a form -/
def formT (c : Cs) (t : Tr) : T := .ins c.Form ns_Form [t.T, .tup (srt t.steps)]
theorem fld_told (c : Cs) (t : Tr) : fldT c.Form ns_Form "own_told" (formT c t) = some t.T := by
  show (if c.Form = c.Form ∧ ns_Form = ns_Form then lookT "own_told" ns_Form [t.T, .tup (srt t.steps)] else none) = _
  rw [if_pos ⟨rfl, rfl⟩]
  rfl
theorem own_ne : (("own_steps" : Str) == "own_told") = false := by decide +kernel
theorem fld_steps (c : Cs) (t : Tr) : fldT c.Form ns_Form "own_steps" (formT c t) = some (.tup (srt t.steps)) := by
  show (if c.Form = c.Form ∧ ns_Form = ns_Form then lookT "own_steps" ns_Form [t.T, .tup (srt t.steps)] else none) = _
  rw [if_pos ⟨rfl, rfl⟩]
  show (if (("own_steps" : Str) == "own_told") = true then some t.T else lookT "own_steps" ["own_steps"] [.tup (srt t.steps)]) = _
  rw [own_ne, if_neg (by simp)]
  show (if (("own_steps" : Str) == "own_steps") = true then some (T.tup (srt t.steps)) else none) = _
  rw [if_pos (by simp)]
theorem F_told_e (c : Cs) (t : Tr) : F_Form_told c [formT c t] = (ret t.T : M W T) := run_rt (dRet_e (f1_e (t := formT c t) rfl (fld_told c t)))
/-! ### in -/
theorem inT_tup (neg : Bool) (s : Str) (xs : List Str) : inT neg (.str s) (.tup (xs.map T.str)) = some (.bl (if neg then !xs.any (· == s) else xs.any (· == s))) := inT_strs neg s xs
theorem any_perm {xs ys : List Str} (h : ys.Perm xs) (s : Str) : ys.any (· == s) = xs.any (· == s) := by
  rw [Bool.eq_iff_iff]
  simp only [List.any_eq_true]
  exact ⟨fun ⟨x, hx, e⟩ => ⟨x, h.mem_iff.mp hx, e⟩, fun ⟨x, hx, e⟩ => ⟨x, h.mem_iff.mpr hx, e⟩⟩
/-! ### == -/
theorem F_eq_not (c : Cs) (t : Tr) {u : T} (h : isaC c.Form u = some (.bl false)) : F_Form___eq__ c [formT c t, u] = (ret (.bl false) : M W T) := run_rt (dRet_e (fAnd_f (f1_e (t := u) rfl h)))
theorem F_eq_form (c : Cs) (t u : Tr) {z : T} (h : eqT false t.T u.T = some z) : F_Form___eq__ c [formT c t, formT c u] = (ret z : M W T) :=
  run_rt (dRet_e ((fAnd_t (f1_e (t := formT c u) rfl (by show (if c.Form = c.Form then some (T.bl true) else none) = _; rw [if_pos rfl]))).trans (f2_e (f1_e (t := formT c t) rfl (fld_told c t)) (f1_e (t := formT c u) rfl (fld_told c u)) h)))
/-! ### a tree's data -/
mutual
def Tr.dat : Tr → PyData
  | .leaf s => .str s
  | .join w ps => .tuple [.str w, .tuple (Tr.dats ps)]
  | .again a b => .tuple [.str "again", a.dat, b.dat]
def Tr.dats : List Tr → List PyData
  | [] => []
  | t :: ts => t.dat :: Tr.dats ts
end
mutual
theorem dat_T : ∀ t : Tr, dataT t.T = some t.dat
  | .leaf s => rfl
  | .join w ps => by
    rw [Tr.T, Tr.dat]
    simp [dataT, dataTs, dats_T ps]
  | .again a b => by
    rw [Tr.T, Tr.dat]
    simp [dataT, dataTs, dat_T a, dat_T b]
theorem dats_T : ∀ ps : List Tr, dataTs (Tr.Ts ps) = some (Tr.dats ps)
  | [] => rfl
  | t :: ts => by
    rw [Tr.Ts, Tr.dats]
    simp [dataTs, dat_T t, dats_T ts]
end
mutual
theorem dat_depth : ∀ t : Tr, t.dat.depth ≤ 2 * t.depth
  | .leaf s => by simp [Tr.dat, PyData.depth]
  | .join w ps => by
    have := dats_depth ps
    rw [Tr.dat, Tr.depth]
    simp only [PyData.depth, PyData.depthAll]
    omega
  | .again a b => by
    have h1 := dat_depth a
    have h2 := dat_depth b
    rw [Tr.dat, Tr.depth]
    simp only [PyData.depth, PyData.depthAll]
    omega
theorem dats_depth : ∀ ps : List Tr, PyData.depthAll (Tr.dats ps) ≤ 2 * Tr.depths ps
  | [] => by simp [Tr.dats, PyData.depthAll]
  | t :: ts => by
    have h1 := dat_depth t
    have h2 := dats_depth ts
    rw [Tr.dats, Tr.depths]
    simp only [PyData.depthAll]
    omega
end
theorem eqT_trees (neg : Bool) {t u : Tr} (h : t.depth ≤ 60) : eqT neg t.T u.T = some (.bl (if neg then !PyData.eqv t.dat u.dat else PyData.eqv t.dat u.dat)) := by
  unfold eqT
  rw [dat_T, dat_T]
  show (if min t.dat.depth u.dat.depth ≤ 150 then _ else none) = _
  rw [if_pos (by have := dat_depth t; omega)]
end
end PL

set_option maxHeartbeats 4000000
namespace PL
open PySem L2
section
variable {W : Type}
def keysOf (xs : List Str) : List Key := xs.map Sum.inr
def ones (n : Nat) : List T := List.replicate n (.int 1)
theorem find_none {xs : List Str} {s : Str} (h : s ∉ xs) : ∀ ts : List T, ((keysOf xs).zip ts).find? (fun kv => decide (kv.1 = (Sum.inr s : Key))) = none := by
  intro ts
  rw [List.find?_eq_none]
  rintro ⟨k, t⟩ hk
  obtain ⟨x, hx, rfl⟩ := List.mem_map.mp (List.of_mem_zip hk).1
  simp only [decide_eq_true_eq]
  intro e
  exact h (by injection e with e; exact e ▸ hx)
theorem hasK_none {xs : List Str} {s : Str} (h : s ∉ xs) : hasK (keysOf xs) (.inr s) = false := by
  unfold hasK
  rw [List.any_eq_false]
  intro k hk
  obtain ⟨x, hx, rfl⟩ := List.mem_map.mp hk
  simp only [decide_eq_true_eq]
  intro e
  exact h (by injection e with e; exact e ▸ hx)
theorem putD_new {xs : List Str} {s : Str} (h : s ∉ xs) : putD (keysOf xs) (ones xs.length) (.inr s) (.int 1) = (keysOf (xs ++ [s]), ones (xs ++ [s]).length) := by
  unfold putD
  rw [if_neg (by rw [hasK_none h]; simp)]
  simp [keysOf, ones, List.replicate_succ']
theorem dPut_new {ρ0 : Sl} {xs : List Str} {s : Str} (h : s ∉ xs) (hl : xs.length ≤ 1000) :
    (dPut 1 (fVar 2) (f2 addT (f3 getT (fVarS 1) (fVar 2) (fC (.int 0))) (fC (.int 1))) [ρ0, .od (keysOf xs) (ones xs.length), .fz (.str s)] : M W Fl) = ret (.nx [ρ0, .od (keysOf (xs ++ [s])) (ones (xs ++ [s]).length), .fz (.str s)]) := by
  have e1 : (f3 getT (fVarS 1) (fVar 2) (fC (.int 0)) [ρ0, .od (keysOf xs) (ones xs.length), .fz (.str s)] : M W T) = ret (.int 0) := by
    show lift (getT (.dct (keysOf xs) (ones xs.length)) (.str s) (.int 0)) = _
    show lift (some (((((keysOf xs).zip (ones xs.length)).find? fun kv => decide (kv.1 = (Sum.inr s : Key))).map (·.2)).getD (.int 0))) = _
    rw [find_none h]
    rfl
  have e2 : (f2 addT (f3 getT (fVarS 1) (fVar 2) (fC (.int 0))) (fC (.int 1)) [ρ0, .od (keysOf xs) (ones xs.length), .fz (.str s)] : M W T) = ret (.int 1) := f2_e e1 rfl rfl
  show odM 1 _ (fun _ _ => bnd (f2 addT (f3 getT (fVarS 1) (fVar 2) (fC (.int 0))) (fC (.int 1)) _) _) = _
  show bnd (f2 addT (f3 getT (fVarS 1) (fVar 2) (fC (.int 0))) (fC (.int 1)) [ρ0, .od (keysOf xs) (ones xs.length), .fz (.str s)]) _ = _
  rw [e2, ret_bnd]
  show (if (keysOf xs).length < sizeLine then ret (Fl.nx ([ρ0, .od (keysOf xs) (ones xs.length), .fz (.str s)].set 1 (.od (putD (keysOf xs) (ones xs.length) (.inr s) (.int 1)).1 (putD (keysOf xs) (ones xs.length) (.inr s) (.int 1)).2))) else stuck) = _
  rw [if_pos (by rw [keysOf, List.length_map, sizeLine_eq]; omega), putD_new h]
  rfl

theorem find_one {s : Str} : ∀ {xs : List Str}, s ∈ xs → (((keysOf xs).zip (ones xs.length)).find? fun kv => decide (kv.1 = (Sum.inr s : Key))).map (·.2) = some (.int 1)
  | x :: xs, h => by
    by_cases e : x = s
    · subst e
      simp [keysOf, ones, List.replicate_succ]
    · have hx : s ∈ xs := by
        rcases List.mem_cons.mp h with q | q
        · exact absurd q.symm e
        · exact q
      have ih := find_one hx
      simp only [keysOf, ones, List.map_cons, List.length_cons, List.replicate_succ, List.zip_cons_cons, List.find?_cons]
      rw [decide_eq_false (fun z => e (by injection z))]
      exact ih
theorem F_need_steps_e (c : Cs) {xs : List Str} (hl : xs.length ≤ 10) : F_need_steps c [.dct (keysOf xs) (ones xs.length)] = (ret .non : M W T) := by
  unfold F_need_steps g_need_steps
  have e1 : (fLc (fKeys 0) [2] (gN 2) (fB (f2 (ltT fun i j => decide (j < i)) (f2 dgetT (fVar 0) (fVar 2)) (fC (.int 1)))) (fVar 2) [Sl.fz (.dct (keysOf xs) (ones xs.length)), Sl.un, Sl.un] : M W (List T)) = ret [] := by
    have q := fLc_pure (W := W) (fi := fKeys 0) (vs := [2]) (i := 2) (gt := fB (f2 (ltT fun i j => decide (j < i)) (f2 dgetT (fVar 0) (fVar 2)) (fC (.int 1)))) (ge := fVar 2) (ρ := [Sl.fz (.dct (keysOf xs) (ones xs.length)), Sl.un, Sl.un]) (ts := (keysOf xs).map keyV)
      (fun _ => false) id rfl (by rw [List.length_map, keysOf, List.length_map, sizeLine_eq]; omega) (fun u hu => by
        obtain ⟨k, hk, rfl⟩ := List.mem_map.mp hu
        obtain ⟨s, hs, rfl⟩ := List.mem_map.mp hk
        refine fB_e (f2_e (t := .int 1) (u := .int 1) (f2_e (t := .dct (keysOf xs) (ones xs.length)) (u := .str s) rfl rfl ?_) rfl rfl)
        exact find_one hs) (fun u hu z => by cases z)
    rw [q, show ((keysOf xs).map keyV).filter (fun _ => false) = [] from List.filter_eq_nil_iff.mpr fun _ _ => by simp]
    rfl
  refine run_nx ((seq_nx (dSet_e (xFz_e (asL_e e1)))).trans ((seq_nx (dIf_f (fB_e (f2_e (t := sLst []) (u := .lst []) rfl ?_ (by rw [eq_nil]; rfl))))).trans (dIf_f (fB_e (f2_e (t := .int (keysOf xs).length) (u := .int 10) (f1_e (t := .dct (keysOf xs) (ones xs.length)) rfl rfl) rfl ?_)))))
  · refine asL_e ?_
    unfold fLst
    rw [aNil_e, ret_bnd, if_pos (by rw [sizeLine_eq]; simp)]
  · show some (T.bl (decide ((10 : Int) < ((keysOf xs).length : Nat)))) = _
    rw [decide_eq_false (by rw [keysOf, List.length_map]; omega)]
/-- Form.of of a told form whose steps are different and whose bodies are apart -/
theorem F_of_e (c : Cs) {t : Tr} (hd : t.depth ≤ 30) (ht : t.told = true) (hl : t.steps.length ≤ 10) (nd : t.steps.Nodup) (hap : t.apart = true) : F_Form_of c [t.T] = (ret (formT c t) : M W T) := by
  unfold F_Form_of
  refine run_rt ?_
  unfold g_Form_of
  have v0 : ∀ x y, (fVar 0 [Sl.fz t.T, x, y] : M W T) = ret t.T := fun _ _ => rfl
  refine (seq_nx (dIf_f (bNot_e (fB_e ((fCall_e (aCons_e (v0 _ _) aNil_e) rfl).trans (is_told_ok c 30 t hd ht (by omega))))))).trans ?_
  refine (seq_nx (dSet_e (s := .od [] []) rfl)).trans ?_
  obtain ⟨ρ', hfor, x, hρ⟩ := dFor_inv (W := W) (i := 2) (g := dPut 1 (fVar 2) (f2 addT (f3 getT (fVarS 1) (fVar 2) (fC (.int 0))) (fC (.int 1)))) (ρ := [Sl.fz t.T, .od [] [], Sl.un]) (fi := fItems (fCall 1 (aCons (fVar 0) aNil) (F_steps_in c 30))) (ts := t.steps.map T.str)
    (fun ts ρ => ∃ x done rest, ts = List.map T.str rest ∧ done ++ rest = t.steps ∧ ρ = [Sl.fz t.T, .od (keysOf done) (ones done.length), x])
    (fItems_l ((fCall_e (aCons_e (v0 _ _) aNil_e) rfl).trans (F_steps_in_e c 30 t hd (told_wd t ht) (by omega)))) ⟨Sl.un, [], t.steps, rfl, rfl, rfl⟩ (fun u ts ρ h => by
      obtain ⟨x, done, rest, e, hdr, rfl⟩ := h
      cases rest with
      | nil => cases e
      | cons s rest =>
        cases e
        have hn : s ∉ done := fun z => by
          rw [← hdr] at nd
          exact (List.nodup_append.mp nd).2.2 s z s List.mem_cons_self rfl
        have hdl : done.length ≤ 1000 := by
          have := congrArg List.length hdr
          rw [List.length_append] at this
          omega
        exact ⟨_, dPut_new hn hdl, .fz (.str s), done ++ [s], rest, rfl, by rw [← hdr]; simp, rfl⟩)
  obtain ⟨done, rest, e, hdr, rfl⟩ := hρ
  have hr : rest = [] := by cases rest with
    | nil => rfl
    | cons _ _ => cases e
  subst hr
  rw [List.append_nil] at hdr
  subst hdr
  refine (seq_nx hfor).trans ?_
  have e4 : (dExpr (fCall 1 (aCons (fVar 1) aNil) (F_need_steps c)) (frzAt 1 [Sl.fz t.T, .od (keysOf t.steps) (ones t.steps.length), x]) : M W Fl) = ret (.nx [Sl.fz t.T, .fz (.dct (keysOf t.steps) (ones t.steps.length)), x]) := by
    show dExpr _ [Sl.fz t.T, .fz (.dct (keysOf t.steps) (ones t.steps.length)), x] = _
    unfold dExpr
    rw [show (fCall 1 (aCons (fVar 1) aNil) (F_need_steps c) [Sl.fz t.T, .fz (.dct (keysOf t.steps) (ones t.steps.length)), x] : M W T) = ret .non from (fCall_e (aCons_e (t := .dct (keysOf t.steps) (ones t.steps.length)) rfl aNil_e) rfl).trans (F_need_steps_e c hl)]
    rfl
  refine (seq_nx e4).trans ?_
  have e5 : (dExpr (fCall 1 (aCons (fVar 0) aNil) (F_need_bodies c 30)) [Sl.fz t.T, .fz (.dct (keysOf t.steps) (ones t.steps.length)), x] : M W Fl) = ret (.nx [Sl.fz t.T, .fz (.dct (keysOf t.steps) (ones t.steps.length)), x]) := by
    unfold dExpr
    rw [show (fCall 1 (aCons (fVar 0) aNil) (F_need_bodies c 30) [Sl.fz t.T, .fz (.dct (keysOf t.steps) (ones t.steps.length)), x] : M W T) = ret .non from (fCall_e (aCons_e (v0 _ _) aNil_e) rfl).trans (F_need_bodies_e c 30 t hd (Nat.le_refl _) ht (by omega) hap)]
    rfl
  refine (seq_nx e5).trans (dRet_e ?_)
  show fMake c.Form ns_Form 1 (aCons (fVar 0) aNil) (F_Form___init__ c) _ = _
  unfold fMake
  rw [aCons_e (v0 _ _) aNil_e, ret_bnd, if_pos (show [t.T].length = 1 from rfl), F_init_e c hd (told_wd t ht) (by omega), ret_bnd]
  rfl
end
end PL

set_option maxHeartbeats 4000000
namespace PL
open PySem L2
section
variable {W : Type}
theorem addT_strs {xs ys : List Str} (h : xs.length + ys.length ≤ 1000) : addT (sLst xs) (sLst ys) = some (sLst (xs ++ ys)) := by
  show (if (xs.map T.str).length + (ys.map T.str).length ≤ sizeLine then some (T.lst (xs.map T.str ++ ys.map T.str)) else none) = _
  rw [if_pos (by rw [List.length_map, List.length_map, sizeLine_eq]; omega)]
  simp [sLst]
/-- the parts as the law finds them -/
theorem law_parts {ρ : Rho} {t : Tr} (h0 : ρ[0]? = some (.fz t.T)) (hw : t.wd = true) (hl : ∀ s, t ≠ .leaf s) :
    (fIf (fB (f2 (eqT false) (f2 ixT (fVar 0) (fC (.int 0))) (fC (.str "again")))) (fSlice (fVar 0) (fPart (fC (.int 1))) fNoPart) (f2 ixT (fVar 0) (fC (.int 1))) ρ : M W T) = ret (.tup (t.parts.map Tr.T)) := by
  have v0 : (fVar 0 ρ : M W T) = ret t.T := fVar_e h0
  cases t with
  | leaf s => exact absurd rfl (hl s)
  | join w ps =>
    simp only [Tr.wd, Bool.and_eq_true, Bool.not_eq_true'] at hw
    rw [show (Tr.join w ps).T = .tup [.str w, .tup (Tr.Ts ps)] by rw [Tr.T]] at v0
    have e0 : (f2 ixT (fVar 0) (fC (.int 0)) ρ : M W T) = ret (.str w) := f2_e v0 rfl rfl
    have e1 : (f2 ixT (fVar 0) (fC (.int 1)) ρ : M W T) = ret (.tup (Tr.Ts ps)) := f2_e v0 rfl rfl
    refine (fIf_f (fB_e (f2_e e0 rfl (by rw [eq_str]; simp [hw.1])))).trans (e1.trans ?_)
    rw [Ts_map]
    rfl
  | again a b =>
    rw [show (Tr.again a b).T = .tup [.str "again", a.T, b.T] by rw [Tr.T]] at v0
    have e0 : (f2 ixT (fVar 0) (fC (.int 0)) ρ : M W T) = ret (.str "again") := f2_e v0 rfl rfl
    refine (fIf_t (fB_e (f2_e e0 rfl (by rw [eq_str]; simp)))).trans ?_
    unfold fSlice
    rw [v0]
    rfl
theorem F_law_steps_e (c : Cs) : ∀ (n : Nat) (t : Tr), t.depth ≤ n → t.wd = true → t.steps.length ≤ 1000 → F__law_steps c n [t.T] = (ret (sLst t.steps) : M W T)
  | 0, t, hd, _, _ => by cases t <;> (rw [Tr.depth] at hd; omega)
  | n + 1, t, hd, hw, hlen => by
    have ih := F_law_steps_e c n
    show run 2 (g__law_steps c (F__law_steps c n)) [t.T] = _
    refine run_rt ?_
    unfold g__law_steps
    by_cases hl : ∃ s, t = .leaf s
    · obtain ⟨s, rfl⟩ := hl
      have v0 : (fVar 0 [Sl.fz (Tr.leaf s).T, Sl.un, Sl.un] : M W T) = ret (.str s) := by unfold Tr.T; rfl
      refine seq_rt ((dIf_t (fB_e (f1_e v0 isa_str_str))).trans (dRet_e (asL_e ?_)))
      show fLst (aCons (fVar 0) aNil) _ = _
      unfold fLst
      rw [aCons_e v0 aNil_e, ret_bnd, if_pos (by rw [sizeLine_eq]; simp)]
      rfl
    · have hl' : ∀ s, t ≠ .leaf s := fun s e => hl ⟨s, e⟩
      have v0 : (fVar 0 [Sl.fz t.T, Sl.un, Sl.un] : M W T) = ret t.T := rfl
      refine (seq_nx (dIf_f (fB_e (f1_e v0 (isa_node hl'))))).trans ?_
      have e1 : (dSet 1 (xFz (asL (fLst aNil))) [Sl.fz t.T, Sl.un, Sl.un] : M W Fl) = ret (.nx [Sl.fz t.T, Sl.fz (sLst []), Sl.un]) := dSet_e (xFz_e (asL_e (by unfold fLst; rw [aNil_e, ret_bnd, if_pos (by rw [sizeLine_eq]; simp)]; rfl)))
      refine (seq_nx e1).trans ?_
      obtain ⟨ρ', hfor, x, acc, rest, e, hdr, rfl⟩ := dFor_inv (W := W) (i := 2) (g := dSet 1 (xFz (f2 addT (fVar 1) (fCall 1 (aCons (fVar 2) aNil) (F__law_steps c n))))) (ρ := [Sl.fz t.T, Sl.fz (sLst []), Sl.un])
        (fun ts ρ => ∃ x acc rest, ts = List.map Tr.T rest ∧ (acc ++ rest.flatMap Tr.steps = t.steps ∧ ∀ p ∈ rest, p ∈ t.parts) ∧ ρ = [Sl.fz t.T, Sl.fz (sLst acc), x])
        (fItems_t (law_parts rfl hw hl')) ⟨Sl.un, [], t.parts, rfl, ⟨(steps_parts hl').symm, fun _ h => h⟩, rfl⟩ (fun u ts ρ h => by
          obtain ⟨x, acc, rest, e, ⟨hdr, hps⟩, rfl⟩ := h
          cases rest with
          | nil => cases e
          | cons p rest =>
            cases e
            have hp := hps p List.mem_cons_self
            have e2 : (fCall 1 (aCons (fVar 2) aNil) (F__law_steps c n) [Sl.fz t.T, Sl.fz (sLst acc), Sl.fz p.T] : M W T) = ret (sLst p.steps) := (fCall_e (aCons_e rfl aNil_e) rfl).trans (ih p (by have := parts_depth p hp; omega) (parts_wd hw p hp) (parts_short hlen p hp))
            have hsum : acc.length + p.steps.length ≤ 1000 := by
              have := congrArg List.length hdr
              rw [List.flatMap_cons, List.length_append, List.length_append] at this
              omega
            exact ⟨[Sl.fz t.T, Sl.fz (sLst (acc ++ p.steps)), Sl.fz p.T], dSet_e (xFz_e (f2_e (t := sLst acc) rfl e2 (addT_strs hsum))), .fz p.T, acc ++ p.steps, rest, rfl, ⟨by rw [← hdr]; simp, fun q hq => hps q (List.mem_cons_of_mem _ hq)⟩, rfl⟩)
      have hr : rest = [] := by
        cases rest with
        | nil => rfl
        | cons _ _ => cases e
      subst hr
      simp only [List.flatMap_nil, List.append_nil] at hdr
      refine (seq_nx hfor).trans (dRet_e ?_)
      rw [← hdr.1]
      rfl
end
end PL

set_option maxHeartbeats 4000000
namespace PL
open PySem L2
section
variable {W : Type}
theorem ret_inj (w : W) {α : Type} {a b : α} (h : (ret a : M W α) = ret b) : a = b := by
  have := congrFun h w
  simp only [ret, Option.some.injEq, Prod.mk.injEq, R.ok.injEq, and_true] at this
  exact this
theorem fLc_mapP {α : Type} {fi : Rho → M W (List T)} {vs : List Nat} {i : Nat} {ge : Rho → M W T} {ρ : Rho} (ps : List α) (tt g : α → T) (hi : fi ρ = ret (ps.map tt)) (hl : ps.length ≤ sizeLine)
    (h2 : ∀ p ∈ ps, ge ((wipeR ρ vs).set i (.fz (tt p))) = ret (g p)) : fLc fi vs (gN i) tYesM ge ρ = ret (ps.map g) := by
  classical
  funext w
  let f : T → T := fun u => if h : ∃ v, ge ((wipeR ρ vs).set i (.fz u)) = ret v then h.choose else .non
  have hf : ∀ p ∈ ps, ge ((wipeR ρ vs).set i (.fz (tt p))) = ret (f (tt p)) := fun p hp => by
    have h : ∃ v, ge ((wipeR ρ vs).set i (.fz (tt p))) = ret v := ⟨_, h2 p hp⟩
    show _ = ret (if h : ∃ v, ge ((wipeR ρ vs).set i (.fz (tt p))) = ret v then h.choose else .non)
    rw [dif_pos h]
    exact h.choose_spec
  rw [fLc_map f hi (by rw [List.length_map]; exact hl) (fun t ht => by
    obtain ⟨p, hp, rfl⟩ := List.mem_map.mp ht
    exact hf p hp), List.map_map]
  rw [show ps.map (f ∘ tt) = ps.map g from List.map_congr_left fun p hp => ret_inj w ((hf p hp).symm.trans (h2 p hp))]
def edgT (t : Tr) : T := .tup [sLst t.begins, sLst t.ends]
theorem F__law_edges_e (c : Cs) : ∀ (n : Nat) (t : Tr), t.depth ≤ n → t.told = true → t.steps.length ≤ 1000 → F__law_edges c n [t.T] = (ret (edgT t) : M W T)
  | 0, t, hd, _, _ => by cases t <;> (rw [Tr.depth] at hd; omega)
  | n + 1, t, hd, ht, hlen => by
    have ih := F__law_edges_e c n
    show run 5 (g__law_edges c (F__law_edges c n)) [t.T] = _
    refine run_rt ?_
    unfold g__law_edges
    cases t with
    | leaf s =>
      have v0 : (fVar 0 [Sl.fz (Tr.leaf s).T, Sl.un, Sl.un, Sl.un, Sl.un, Sl.un] : M W T) = ret (.str s) := by unfold Tr.T; rfl
      have l1 : (asL (fLst (aCons (fVar 0) aNil)) [Sl.fz (Tr.leaf s).T, Sl.un, Sl.un, Sl.un, Sl.un, Sl.un] : M W T) = ret (sLst [s]) := by
        refine asL_e ?_
        unfold fLst
        rw [aCons_e v0 aNil_e, ret_bnd, if_pos (by rw [sizeLine_eq]; simp)]
        rfl
      refine seq_rt ((dIf_t (fB_e (f1_e v0 isa_str_str))).trans (dRet_e ?_))
      unfold fTup
      rw [aCons_e l1 (aCons_e l1 aNil_e)]
      rfl
    | again a b =>
      simp only [Tr.told, Bool.and_eq_true] at ht
      have ea := ih a (by have := parts_depth (t := .again a b) a (by simp [Tr.parts]); omega) ht.1 (parts_short hlen a (by simp [Tr.parts]))
      unfold Tr.T
      have v0 : (fVar 0 [Sl.fz (.tup [.str "again", a.T, b.T]), Sl.un, Sl.un, Sl.un, Sl.un, Sl.un] : M W T) = ret (.tup [.str "again", a.T, b.T]) := rfl
      have e0 : (f2 ixT (fVar 0) (fC (.int 0)) [Sl.fz (.tup [.str "again", a.T, b.T]), Sl.un, Sl.un, Sl.un, Sl.un, Sl.un] : M W T) = ret (.str "again") := f2_e v0 rfl rfl
      have e1 : (f2 ixT (fVar 0) (fC (.int 1)) [Sl.fz (.tup [.str "again", a.T, b.T]), Sl.un, Sl.un, Sl.un, Sl.un, Sl.un] : M W T) = ret a.T := f2_e v0 rfl rfl
      refine (seq_nx (dIf_f (fB_e (f1_e v0 isa_str_tup)))).trans ?_
      exact seq_rt ((dIf_t (fB_e (f2_e e0 rfl (by rw [eq_str]; simp)))).trans (dRet_e ((fCall_e (aCons_e e1 aNil_e) rfl).trans ea)))
    | join w ps =>
      have hj : isJoin w = true := by simp only [Tr.told, Bool.and_eq_true] at ht; exact ht.1.1
      have h2 : 2 ≤ ps.length := by simp only [Tr.told, Bool.and_eq_true, decide_eq_true_eq] at ht; exact ht.1.2
      have each : ∀ p ∈ ps, F__law_edges c n [p.T] = (ret (edgT p) : M W T) := fun p hp => ih p (by have := parts_depth (t := .join w ps) p hp; omega) (parts_told ht p hp) (parts_short hlen p hp)
      have hfew : ps.length ≤ sizeLine := by
        have := parts_few (t := .join w ps) ht hlen
        simp only [Tr.parts] at this
        rw [sizeLine_eq]; omega
      have hbl := begins_len (.join w ps)
      have hel := ends_len (.join w ps)
      unfold Tr.T
      rw [Ts_map]
      have v0 : ∀ x, (fVar 0 [Sl.fz (.tup [.str w, .tup (ps.map Tr.T)]), x, Sl.un, Sl.un, Sl.un, Sl.un] : M W T) = ret (.tup [.str w, .tup (ps.map Tr.T)]) := fun _ => rfl
      have e0 : ∀ x, (f2 ixT (fVar 0) (fC (.int 0)) [Sl.fz (.tup [.str w, .tup (ps.map Tr.T)]), x, Sl.un, Sl.un, Sl.un, Sl.un] : M W T) = ret (.str w) := fun x => f2_e (v0 x) rfl rfl
      have e1 : (f2 ixT (fVar 0) (fC (.int 1)) [Sl.fz (.tup [.str w, .tup (ps.map Tr.T)]), Sl.un, Sl.un, Sl.un, Sl.un, Sl.un] : M W T) = ret (.tup (ps.map Tr.T)) := f2_e (v0 _) rfl rfl
      refine (seq_nx (dIf_f (fB_e (f1_e (v0 _) isa_str_tup)))).trans ?_
      refine (seq_nx (dIf_f (fB_e (f2_e (e0 _) rfl (by rw [eq_str]; simp only [Bool.false_eq_true, if_false, join_again hj]))))).trans ?_
      refine (seq_nx (dSet_e (xFz_e (asL_e (fLc_mapP ps Tr.T edgT (fItems_t e1) hfew fun p hp => (fCall_e (aCons_e (t := p.T) rfl aNil_e) rfl).trans (each p hp)))))).trans ?_
      show seqD _ _ [Sl.fz (.tup [.str w, .tup (ps.map Tr.T)]), Sl.fz (.lst (ps.map edgT)), Sl.un, Sl.un, Sl.un, Sl.un] = _
      cases hw : (w == ("behind" : Str)) with
      | true =>
        have hne : ps ≠ [] := fun z => by subst z; simp at h2
        have v1 : (fVar 1 [Sl.fz (.tup [.str w, .tup (ps.map Tr.T)]), Sl.fz (.lst (ps.map edgT)), Sl.un, Sl.un, Sl.un, Sl.un] : M W T) = ret (.lst (ps.map edgT)) := rfl
        have hf : ixT (.lst (ps.map edgT)) (.int 0) = some (edgT (ps.head hne)) := by
          cases ps with
          | nil => exact absurd rfl hne
          | cons p rest => simp [ixT, atI, ixN]
        have hg : ixT (.lst (ps.map edgT)) (.int (-1)) = some (edgT (ps.getLast hne)) := by
          have hpos : 0 < ps.length := List.length_pos_iff.mpr hne
          show atI (ps.map edgT) (-1) = _
          unfold atI ixN
          rw [if_neg (by omega), if_pos (by rw [List.length_map]; omega)]
          show (ps.map edgT)[((-1 : Int) + ((ps.map edgT).length : Nat)).toNat]? = _
          rw [List.length_map, show ((-1 : Int) + (ps.length : Nat)).toNat = ps.length - 1 by omega, List.getElem?_map, List.getLast_eq_getElem, List.getElem?_eq_getElem (by omega)]
          rfl
        refine seq_rt ((dIf_t (fB_e (f2_e (e0 _) rfl (by rw [eq_str]; simp only [Bool.false_eq_true, if_false, hw])))).trans (dRet_e ?_))
        unfold fTup
        have q1 : (f2 ixT (f2 ixT (fVar 1) (fC (.int 0))) (fC (.int 0)) [Sl.fz (.tup [.str w, .tup (ps.map Tr.T)]), Sl.fz (.lst (ps.map edgT)), Sl.un, Sl.un, Sl.un, Sl.un] : M W T) = ret (sLst (ps.head hne).begins) := f2_e (t := edgT (ps.head hne)) (u := .int 0) (f2_e v1 rfl hf) rfl rfl
        have q2 : (f2 ixT (f2 ixT (fVar 1) (f1 negT (fC (.int 1)))) (fC (.int 1)) [Sl.fz (.tup [.str w, .tup (ps.map Tr.T)]), Sl.fz (.lst (ps.map edgT)), Sl.un, Sl.un, Sl.un, Sl.un] : M W T) = ret (sLst (ps.getLast hne).ends) := f2_e (t := edgT (ps.getLast hne)) (u := .int 1) (f2_e (u := .int (-1)) v1 (f1_e rfl rfl) hg) rfl rfl
        rw [aCons_e q1 (aCons_e q2 aNil_e)]
        rw [edgT, Tr.begins, Tr.ends, hw, if_pos rfl, if_pos rfl, end1_last ps hne]
        cases ps with
        | nil => exact absurd rfl hne
        | cons p rest => rfl
      | false =>
        refine (seq_nx (dIf_f (fB_e (f2_e (e0 _) rfl (by rw [eq_str]; simp only [Bool.false_eq_true, if_false, hw]))))).trans ?_
        have nl : ∀ ρ, (asL (fLst aNil) ρ : M W T) = ret (sLst []) := fun ρ => asL_e (by unfold fLst; rw [aNil_e, ret_bnd, if_pos (by rw [sizeLine_eq]; simp)]; rfl)
        have e2 : (dPar 3 4 (xFz (asL (fLst aNil))) (xFz (asL (fLst aNil))) [Sl.fz (.tup [.str w, .tup (ps.map Tr.T)]), Sl.fz (.lst (ps.map edgT)), Sl.un, Sl.un, Sl.un, Sl.un] : M W Fl) = ret (.nx [Sl.fz (.tup [.str w, .tup (ps.map Tr.T)]), Sl.fz (.lst (ps.map edgT)), Sl.un, Sl.fz (sLst []), Sl.fz (sLst []), Sl.un]) := by
          unfold dPar
          rw [xFz_e (nl _), ret_bnd, ret_bnd]
          rfl
        refine (seq_nx e2).trans ?_
        have sb : (Tr.join w ps).begins = ps.flatMap Tr.begins := by rw [Tr.begins, hw, if_neg (by simp), beginss_flat]
        have se : (Tr.join w ps).ends = ps.flatMap Tr.ends := by rw [Tr.ends, hw, if_neg (by simp), endss_flat]
        obtain ⟨ρ', hfor, x, ab, ae, rest, e, ⟨hb, he⟩, rfl⟩ := dFor_inv (W := W) (i := 5) (g := dPar 3 4 (xFz (f2 addT (fVar 3) (f2 ixT (fVar 5) (fC (.int 0))))) (xFz (f2 addT (fVar 4) (f2 ixT (fVar 5) (fC (.int 1)))))) (fi := fItems (fVar 1)) (ρ := [Sl.fz (.tup [.str w, .tup (ps.map Tr.T)]), Sl.fz (.lst (ps.map edgT)), Sl.un, Sl.fz (sLst []), Sl.fz (sLst []), Sl.un])
          (fun ts ρ => ∃ x ab ae rest, ts = List.map edgT rest ∧ (ab ++ rest.flatMap Tr.begins = ps.flatMap Tr.begins ∧ ae ++ rest.flatMap Tr.ends = ps.flatMap Tr.ends) ∧ ρ = [Sl.fz (.tup [.str w, .tup (ps.map Tr.T)]), Sl.fz (.lst (ps.map edgT)), Sl.un, Sl.fz (sLst ab), Sl.fz (sLst ae), x])
          (fItems_l rfl) ⟨Sl.un, [], [], ps, rfl, ⟨rfl, rfl⟩, rfl⟩ (fun u ts ρ h => by
            obtain ⟨x, ab, ae, rest, e, ⟨hb, he⟩, rfl⟩ := h
            cases rest with
            | nil => cases e
            | cons p rest =>
              cases e
              have lb : ab.length + p.begins.length ≤ 1000 := by
                have := congrArg List.length hb
                rw [List.flatMap_cons, List.length_append, List.length_append, ← sb] at this
                omega
              have le : ae.length + p.ends.length ≤ 1000 := by
                have := congrArg List.length he
                rw [List.flatMap_cons, List.length_append, List.length_append, ← se] at this
                omega
              refine ⟨[Sl.fz (.tup [.str w, .tup (ps.map Tr.T)]), Sl.fz (.lst (ps.map edgT)), Sl.un, Sl.fz (sLst (ab ++ p.begins)), Sl.fz (sLst (ae ++ p.ends)), Sl.fz (edgT p)], ?_, .fz (edgT p), ab ++ p.begins, ae ++ p.ends, rest, rfl, ⟨by rw [← hb]; simp, by rw [← he]; simp⟩, rfl⟩
              show dPar 3 4 _ _ [Sl.fz (.tup [.str w, .tup (ps.map Tr.T)]), Sl.fz (.lst (ps.map edgT)), Sl.un, Sl.fz (sLst ab), Sl.fz (sLst ae), Sl.fz (edgT p)] = _
              have v5 : (fVar 5 [Sl.fz (.tup [.str w, .tup (ps.map Tr.T)]), Sl.fz (.lst (ps.map edgT)), Sl.un, Sl.fz (sLst ab), Sl.fz (sLst ae), Sl.fz (edgT p)] : M W T) = ret (edgT p) := rfl
              unfold dPar
              rw [xFz_e (f2_e (t := sLst ab) (u := sLst p.begins) rfl (f2_e v5 rfl rfl) (addT_strs lb)), ret_bnd, xFz_e (f2_e (t := sLst ae) (u := sLst p.ends) rfl (f2_e v5 rfl rfl) (addT_strs le)), ret_bnd]
              rfl)
        have hr : rest = [] := by
          cases rest with
          | nil => rfl
          | cons _ _ => cases e
        subst hr
        simp only [List.flatMap_nil, List.append_nil] at hb he
        refine (seq_nx hfor).trans (dRet_e ?_)
        unfold fTup
        rw [aCons_e (t := sLst ab) rfl (aCons_e (t := sLst ae) rfl aNil_e), edgT, sb, se, ← hb, ← he]
        rfl
end
end PL

set_option maxHeartbeats 4000000
namespace PL
open PySem L2
section
variable {W : Type}
theorem F__law_apart_e (c : Cs) (t : Tr) (hd : t.depth ≤ 30) (ht : t.told = true) (hlen : t.steps.length ≤ 1000) : F__law_apart c [t.T] = (ret (.bl (both t).isEmpty) : M W T) := by
  show run 3 (g__law_apart c) [t.T] = _
  refine run_rt ?_
  unfold g__law_apart
  have hbl := begins_len t
  have e1 : (fCall 1 (aCons (fVar 0) aNil) (F__law_edges c 30) [Sl.fz t.T, Sl.un, Sl.un, Sl.un] : M W T) = ret (edgT t) := (fCall_e (aCons_e (t := t.T) rfl aNil_e) rfl).trans (F__law_edges_e c 30 t hd ht hlen)
  have e2 : (dUnp (gT2 1 2) (fCall 1 (aCons (fVar 0) aNil) (F__law_edges c 30)) [Sl.fz t.T, Sl.un, Sl.un, Sl.un] : M W Fl) = ret (.nx [Sl.fz t.T, Sl.fz (sLst t.begins), Sl.fz (sLst t.ends), Sl.un]) := by
    unfold dUnp
    rw [e1]
    rfl
  refine (seq_nx e2).trans (dRet_e ?_)
  have hc : (fLc (fItems (fVar 1)) [3] (gN 3) (fB (f2 (inT false) (fVar 3) (fVar 2))) (fVar 3) [Sl.fz t.T, Sl.fz (sLst t.begins), Sl.fz (sLst t.ends), Sl.un] : M W (List T)) = ret ((both t).map T.str) := by
    have q := fLc_pure (W := W) (fi := fItems (fVar 1)) (vs := [3]) (i := 3) (gt := fB (f2 (inT false) (fVar 3) (fVar 2))) (ge := fVar 3) (ρ := [Sl.fz t.T, Sl.fz (sLst t.begins), Sl.fz (sLst t.ends), Sl.un]) (ts := t.begins.map T.str)
      (fun u => match u with | .str s => t.ends.any (· == s) | _ => false) id (fItems_l rfl) (by rw [List.length_map, sizeLine_eq]; omega)
      (fun u hu => by
        obtain ⟨s, _, rfl⟩ := List.mem_map.mp hu
        exact fB_e (f2_e (t := .str s) (u := sLst t.ends) rfl rfl (by rw [inT_strs]; rfl)))
      (fun u hu _ => rfl)
    rw [q, List.filter_map, List.map_id]
    rfl
  exact f2_e (t := sLst (both t)) (u := .lst []) (asL_e hc) (asL_e (by unfold fLst; rw [aNil_e, ret_bnd, if_pos (by rw [sizeLine_eq]; simp)])) (by rw [eq_nil]; rfl)
end
end PL

set_option maxHeartbeats 4000000
namespace PL
open PySem L2
/-! T11: draws: what is promised of them. -/
structure DOk (d : Addr) (w : Dr) : Prop where
  at_ : w.d = d
  rest : 0 ≤ w.rest
  turn : 0 ≤ w.turn
  large : ∀ x ∈ w.large, 0 ≤ x
section
variable {α β : Type} {d : Addr} {n k N : Nat}
/-- m gives a value of which P, at most n turns on -/
def Tot (d : Addr) (n : Nat) (m : M Dr α) (P : α → Prop) : Prop := ∀ w, DOk d w → w.turn + (n : Int) ≤ 35184372088832 → ∃ a w', m w = some (.ok a, w') ∧ P a ∧ DOk d w' ∧ w'.turn ≤ w.turn + (n : Int)
theorem Tot.ofRet {m : M Dr α} {P : α → Prop} {a : α} (e : m = ret a) (h : P a) : Tot d n m P := fun w hw _ => ⟨a, w, by rw [e]; rfl, h, hw, by omega⟩
theorem Tot.bnd {m : M Dr α} {f : α → M Dr β} {P : α → Prop} {Q : β → Prop} (h : Tot d n m P) (hk : ∀ a, P a → Tot d k (f a) Q) (e : n + k ≤ N) : Tot d N (bnd m f) Q := fun w hw hb => by
  obtain ⟨a, w1, e1, p, h1, t1⟩ := h w hw (by omega)
  obtain ⟨b, w2, e2, q, h2, t2⟩ := hk a p w1 h1 (by omega)
  exact ⟨b, w2, by unfold PL.bnd; rw [e1]; exact e2, q, h2, by omega⟩
theorem Tot.mono {m : M Dr α} {P Q : α → Prop} (h : Tot d n m P) (hn : n ≤ N) (hp : ∀ a, P a → Q a) : Tot d N m Q := fun w hw hb => by
  obtain ⟨a, w1, e1, p, h1, t1⟩ := h w hw (by omega)
  exact ⟨a, w1, e1, hp a p, h1, by omega⟩
theorem Tot.noEr {m : M Dr α} {P : α → Prop} (h : Tot d n m P) : Tot d n (noEr m) P := fun w hw hb => by
  obtain ⟨a, w1, e1, p, h1, t1⟩ := h w hw hb
  exact ⟨a, w1, by unfold PL.noEr; rw [e1], p, h1, t1⟩
theorem bnd_at {m : M Dr α} {f : α → M Dr β} {w w' : Dr} {a : α} (e : m w = some (.ok a, w')) : bnd m f w = f a w' := by unfold PL.bnd; rw [e]
theorem onW_e {i : Nat} {ρ : Rho} {m : M Dr α} {w : Dr} (h : ρ[i]? = some (.fz (.raw (.ref w.d)))) : onW i ρ m w = m w := by
  unfold onW
  rw [h]
  show (if w.d = w.d then m w else none) = _
  rw [if_pos rfl]
theorem eq_int (neg : Bool) (a b : Int) : eqT neg (.int a) (.int b) = some (.bl (if neg then !(a == b) else a == b)) := by
  show (if min (PyData.int a).depth (PyData.int b).depth ≤ 150 then some (T.bl (if neg then !PyData.eqv (.int a) (.int b) else PyData.eqv (.int a) (.int b))) else none) = _
  rw [if_pos (by simp [PyData.depth])]
  simp [PyData.eqv]
abbrev cW : Rho → M Dr Bool := bAnd (fB (f2 (eqT false) (fRest 0) (fC (.int 0)))) (fB (fNe Dr.large 0))
theorem cW_e {ρ : Rho} {w : Dr} (h : ρ[0]? = some (.fz (.raw (.ref w.d)))) : cW ρ w = some (.ok (w.rest == 0 && !w.large.isEmpty), w) := by
  have e1 : fRest 0 ρ w = some (.ok (.int w.rest), w) := onW_e h
  have e2 : fB (f2 (eqT false) (fRest 0) (fC (.int 0))) ρ w = some (.ok (w.rest == 0), w) := by
    show bnd (bnd (fRest 0 ρ) _) boolM w = _
    rw [bnd_assoc, bnd_at e1]
    show bnd (bnd (ret (.int 0)) fun u => lift (eqT false (.int w.rest) u)) boolM w = _
    rw [ret_bnd, eq_int]
    rfl
  have e3 : fB (fNe Dr.large 0) ρ w = some (.ok (!w.large.isEmpty), w) := by
    show bnd (fNe Dr.large 0 ρ) boolM w = _
    rw [bnd_at (a := T.bl (!w.large.isEmpty)) (w' := w) (onW_e h)]
    rfl
  show bnd (fB (f2 (eqT false) (fRest 0) (fC (.int 0))) ρ) _ w = _
  rw [bnd_at e2]
  cases w.rest == 0 with
  | true => rw [if_pos rfl, e3]; rfl
  | false => rw [if_neg (by simp)]; rfl
theorem while_e {ρ : Rho} {d : Addr} (h : ρ[0]? = some (.fz (.raw (.ref d)))) : ∀ (n : Nat) (w : Dr), w.large.length = n → DOk d w → ∃ w', whileN cW (dRestPop 0) (n + 1) ρ w = some (.ok (.nx ρ), w') ∧ DOk d w' ∧ w'.turn = w.turn
  | n, w, hn, hw => by
    have hd := hw.at_
    subst hd
    have e := cW_e h
    unfold whileN
    rw [bnd_at e]
    cases hc : (w.rest == 0 && !w.large.isEmpty) with
    | false => exact ⟨w, by rw [if_neg (by simp)]; rfl, hw, rfl⟩
    | true =>
      rw [if_pos rfl]
      cases hL : w.large with
      | nil => rw [hL] at hc; simp at hc
      | cons x r =>
        rw [hL] at hn
        cases n with
        | zero => cases hn
        | succ n =>
          have hx : 0 ≤ x := hw.large x (by rw [hL]; exact List.mem_cons_self)
          have e2 : dRestPop 0 ρ w = some (.ok (.nx ρ), { w with rest := x, large := r }) := by
            unfold dRestPop
            rw [onW_e h]
            rw [hL]
          rw [bnd_at e2]
          obtain ⟨w', h1, h2, h3⟩ := while_e h n { w with rest := x, large := r } (by simpa using hn) ⟨rfl, hx, hw.turn, fun y hy => hw.large y (by rw [hL]; exact List.mem_cons_of_mem _ hy)⟩
          exact ⟨w', h1, h2, h3⟩
abbrev sDraw (d : Addr) (k : Int) : Rho := [Sl.fz (.raw (.ref d)), .fz (.int k), .un, .un, .un, .un]
theorem mod_e {a b : Int} (h : 0 < b) : modT (.int a) (.int b) = some (.int (a % b)) := by
  show (if decide (0 < b) = true then some (T.int (a % b)) else none) = _
  rw [if_pos (by simpa using h)]
theorem cmul_e {a b : Int} (h : 0 ≤ a ∧ a < 1000000) : mulT (.int a) (.int b) = some (.int (a * b)) := by
  show (if decide (CMul a b) = true then some (T.int (a * b)) else none) = _
  rw [if_pos (by simp only [decide_eq_true_eq]; exact .inl ⟨by omega, by omega⟩)]
theorem cpow_e {a b : Int} (h : 0 ≤ a ∧ a < 18446744073709551616) (hb : 0 ≤ b ∧ b < 100) : powT (.int a) (.int b) = some (.int (a ^ b.toNat)) := by
  show (if decide (CPow a b) = true then some (T.int (a ^ b.toNat)) else none) = _
  rw [if_pos (by simp only [decide_eq_true_eq]; exact ⟨hb.1, by omega, by omega⟩)]
theorem cdiv_e {a b : Int} (h : 0 < b ∧ b < 1073741824) : fdivT (.int a) (.int b) = some (.int (a / b)) := by
  show (if decide (CDiv a b) = true then some (T.int (a / b)) else none) = _
  rw [if_pos (by simp only [decide_eq_true_eq]; exact h)]
theorem add_e {a b : Int} : addT (.int a) (.int b) = some (.int (a + b)) := rfl
theorem sub_e {a b : Int} : subT (.int a) (.int b) = some (.int (a - b)) := rfl
theorem f1_ret {g : T → Option T} {fa : Rho → M Dr T} {ρ : Rho} {w w' : Dr} {t u : T} (e : fa ρ w = some (.ok t, w')) (h : g t = some u) : f1 g fa ρ w = some (.ok u, w') := by
  show bnd (fa ρ) _ w = _
  rw [bnd_at e, h]
  rfl
theorem f2_ret {g : T → T → Option T} {fa fb : Rho → M Dr T} {ρ : Rho} {w w1 w2 : Dr} {t u v : T} (e : fa ρ w = some (.ok t, w1)) (e2 : fb ρ w1 = some (.ok u, w2)) (h : g t u = some v) : f2 g fa fb ρ w = some (.ok v, w2) := by
  show bnd (fa ρ) _ w = _
  rw [bnd_at e]
  show bnd (fb ρ) _ w1 = _
  rw [bnd_at e2, h]
  rfl
theorem fB_ret {fa : Rho → M Dr T} {ρ : Rho} {w w' : Dr} {b : Bool} (e : fa ρ w = some (.ok (.bl b), w')) : fB fa ρ w = some (.ok b, w') := by
  show bnd (fa ρ) _ w = _
  rw [bnd_at e]
  rfl
theorem dSet_ret {i : Nat} {fa : Rho → M Dr T} {ρ : Rho} {w w' : Dr} {t : T} (e : fa ρ w = some (.ok t, w')) : dSet i (xFz fa) ρ w = some (.ok (.nx (ρ.set i (.fz t))), w') := by
  show bnd (bnd (fa ρ) _) _ w = _
  rw [bnd_assoc, bnd_at e]
  rfl
theorem seq_ret {g h : Rho → M Dr Fl} {ρ ρ' : Rho} {w w' : Dr} (e : g ρ w = some (.ok (.nx ρ'), w')) : seqD g h ρ w = h ρ' w' := by
  show bnd (g ρ) _ w = _
  rw [bnd_at e]
theorem dRet_ret {fa : Rho → M Dr T} {ρ : Rho} {w w' : Dr} {t : T} (e : fa ρ w = some (.ok t, w')) : dRet fa ρ w = some (.ok (.rt t), w') := by
  show bnd (fa ρ) _ w = _
  rw [bnd_at e]
  rfl
theorem int_ret {fa : Rho → M Dr T} {ρ : Rho} {w w' : Dr} {i : Int} (e : fa ρ w = some (.ok (.int i), w')) : f1 toInt fa ρ w = some (.ok (.int i), w') := f1_ret e rfl
theorem intM_e (i : Int) : (intM (.int i) : M Dr Int) = ret i := rfl
theorem ex_of {x y : Option (R Fl × Dr)} {P : Int → Dr → Prop} (e : x = y) (h : ∃ i w', y = some (.ok (.rt (.int i)), w') ∧ P i w') : ∃ i w', x = some (.ok (.rt (.int i)), w') ∧ P i w' := by rw [e]; exact h
theorem draw_tot (c : Cs) {d : Addr} {k : Int} (hk : 0 < k) (hk2 : k < 1000000) : Tot d 1 (F__law_draw c [.raw (.ref d), .int k]) (fun t => ∃ i : Int, t = .int i ∧ 0 ≤ i ∧ i < k) := fun w hw hb => by
  have h0 : ∀ x y z u, ([Sl.fz (.raw (.ref d)), .fz (.int k), x, y, z, u] : Rho)[0]? = some (.fz (.raw (.ref d))) := fun _ _ _ _ => rfl
  obtain ⟨w1, e1, hw1, ht1⟩ := while_e (h0 .un .un .un .un) _ w rfl hw
  have hd := hw1.at_
  have e1' : dWhile cW (dRestPop 0) (sDraw d k) w = some (.ok (.nx (sDraw d k)), w1) := dWhile_iff.mpr ⟨_, e1⟩
  suffices hs : ∃ i w', g__law_draw c (sDraw d k) w = some (.ok (.rt (.int i)), w') ∧ (0 ≤ i ∧ i < k) ∧ DOk d w' ∧ w'.turn ≤ w.turn + 1 by
    obtain ⟨i, w', h1, h2, h3, h4⟩ := hs
    refine ⟨.int i, w', ?_, ⟨i, rfl, h2⟩, h3, h4⟩
    show bnd (g__law_draw c (sDraw d k)) _ w = _
    rw [bnd_at h1]
    rfl
  unfold g__law_draw
  rw [seq_ret e1']
  have r0 : ∀ x y z u w, w.d = d → fRest 0 [Sl.fz (.raw (.ref d)), .fz (.int k), x, y, z, u] w = some (.ok (.int w.rest), w) := fun x y z u w e => onW_e (by rw [e]; rfl)
  by_cases hr : 0 < w1.rest
  · have c1 : fB (f2 (ltT fun i j => decide (j < i)) (fRest 0) (fC (.int 0))) (sDraw d k) w1 = some (.ok true, w1) := fB_ret (f2_ret (r0 _ _ _ _ _ hd) rfl (by show some (T.bl (decide (0 < w1.rest))) = _; rw [decide_eq_true hr]))
    refine ⟨w1.rest % k, { w1 with rest := w1.rest / k }, ?_, ⟨Int.emod_nonneg _ (by omega), Int.emod_lt_of_pos _ hk⟩, ⟨hd, Int.ediv_nonneg hw1.rest (by omega), hw1.turn, hw1.large⟩, by show w1.turn ≤ _; omega⟩
    show bnd (dIf _ _ _ (sDraw d k)) _ w1 = _
    have e2 : dIf (fB (f2 (ltT fun i j => decide (j < i)) (fRest 0) (fC (.int 0)))) (seqD (dSet 2 (xFz (f2 modT (f1 toInt (fRest 0)) (fVar 1)))) (seqD (dRest 0 (f2 fdivT (fRest 0) (fVar 1))) (dRet (fVar 2)))) (fun ρ => ret (.nx ρ)) (sDraw d k) w1 = some (.ok (.rt (.int (w1.rest % k))), { w1 with rest := w1.rest / k }) := by
      show bnd (fB _ (sDraw d k)) _ w1 = _
      rw [bnd_at c1, if_pos rfl]
      refine (seq_ret (dSet_ret (f2_ret (t := .int w1.rest) (u := .int k) (int_ret (r0 _ _ _ _ _ hd)) rfl (mod_e hk)))).trans ?_
      have e3 : dRest 0 (f2 fdivT (fRest 0) (fVar 1)) [Sl.fz (.raw (.ref d)), .fz (.int k), .fz (.int (w1.rest % k)), .un, .un, .un] w1 = some (.ok (.nx [Sl.fz (.raw (.ref d)), .fz (.int k), .fz (.int (w1.rest % k)), .un, .un, .un]), { w1 with rest := w1.rest / k }) := by
        show bnd (f2 fdivT (fRest 0) (fVar 1) _) _ w1 = _
        rw [bnd_at (f2_ret (r0 _ _ _ _ _ hd) rfl (cdiv_e ⟨hk, by omega⟩))]
        rw [intM_e, ret_bnd, onW_e (by rw [hd]; rfl)]
      exact (seq_ret e3).trans rfl
    rw [bnd_at e2]
    rfl
  · have c1 : fB (f2 (ltT fun i j => decide (j < i)) (fRest 0) (fC (.int 0))) (sDraw d k) w1 = some (.ok false, w1) := fB_ret (f2_ret (r0 _ _ _ _ _ hd) rfl (by show some (T.bl (decide (0 < w1.rest))) = _; rw [decide_eq_false hr]))
    have e2 : dIf (fB (f2 (ltT fun i j => decide (j < i)) (fRest 0) (fC (.int 0)))) (seqD (dSet 2 (xFz (f2 modT (f1 toInt (fRest 0)) (fVar 1)))) (seqD (dRest 0 (f2 fdivT (fRest 0) (fVar 1))) (dRet (fVar 2)))) (fun ρ => ret (.nx ρ)) (sDraw d k) w1 = some (.ok (.nx (sDraw d k)), w1) := by
      show bnd (fB _ (sDraw d k)) _ w1 = _
      rw [bnd_at c1, if_neg (by simp)]
      rfl
    rw [seq_ret e2]
    have t0 : fTurn 0 (sDraw d k) w1 = some (.ok (.int w1.turn), w1) := onW_e (by rw [hd]; rfl)
    refine ex_of (seq_ret (dSet_ret (f2_ret (u := .int 1) t0 rfl add_e))) ?_
    let t := w1.turn + 1
    have ht : 0 < t ∧ t < 35184372088833 := ⟨by have := hw1.turn; omega, by omega⟩
    let w2 : Dr := { w1 with turn := t }
    have hw2 : DOk d w2 := ⟨hd, hw1.rest, by show 0 ≤ t; omega, hw1.large⟩
    have e3 : dTurn 0 (fVar 3) [Sl.fz (.raw (.ref d)), .fz (.int k), .un, .fz (.int t), .un, .un] w1 = some (.ok (.nx [Sl.fz (.raw (.ref d)), .fz (.int k), .un, .fz (.int t), .un, .un]), w2) := by
      show bnd (ret (T.int t)) _ w1 = _
      rw [ret_bnd, intM_e, ret_bnd, onW_e (by rw [hd]; rfl)]
    show ∃ i w', seqD (dTurn 0 (fVar 3)) _ [Sl.fz (.raw (.ref d)), .fz (.int k), .un, .fz (.int t), .un, .un] w1 = _ ∧ _
    rw [seq_ret e3]
    obtain ⟨cell, e4⟩ : ∃ cell : Int, fIf (fB (fNe Dr.cells 0)) (fCell 0 (f2 modT (f1 toInt (fVar 3)) (fLenC 0))) (fC (.int 0)) [Sl.fz (.raw (.ref d)), .fz (.int k), .un, .fz (.int t), .un, .un] w2 = some (.ok (.int cell), w2) := by
      have q1 : fB (fNe Dr.cells 0) [Sl.fz (.raw (.ref d)), .fz (.int k), .un, .fz (.int t), .un, .un] w2 = some (.ok (!w2.cells.isEmpty), w2) := fB_ret (onW_e (by show _ = some (Sl.fz (.raw (.ref w1.d))); rw [hd]; rfl))
      cases hC : w2.cells with
      | nil =>
        refine ⟨0, ?_⟩
        rw [hC] at q1
        show bnd (fB _ _) _ w2 = _
        rw [bnd_at q1]
        rfl
      | cons z zs =>
        rw [hC] at q1
        have hl : (0 : Int) < ((z :: zs).length : Nat) := by simp
        have hm1 := Int.emod_nonneg t (by omega : (((z :: zs).length : Nat) : Int) ≠ 0)
        have hm2 := Int.emod_lt_of_pos t hl
        have hlt : (t % (((z :: zs).length : Nat) : Int)).toNat < (z :: zs).length := by omega
        refine ⟨(z :: zs)[(t % (((z :: zs).length : Nat) : Int)).toNat], ?_⟩
        show bnd (fB _ _) _ w2 = _
        rw [bnd_at q1]
        show fCell 0 _ _ w2 = _
        unfold fCell
        rw [onW_e (by show _ = some (Sl.fz (.raw (.ref w1.d))); rw [hd]; rfl)]
        have q2 : fLenC 0 [Sl.fz (.raw (.ref d)), .fz (.int k), .un, .fz (.int t), .un, .un] w2 = some (.ok (.int ((z :: zs).length : Nat)), w2) := by
          unfold fLenC
          rw [onW_e (by show _ = some (Sl.fz (.raw (.ref w1.d))); rw [hd]; rfl), hC]
        rw [bnd_at (f2_ret (t := .int t) (int_ret (fa := fVar 3) (i := t) (w' := w2) rfl) q2 (mod_e hl)), intM_e, ret_bnd]
        rw [onW_e (by show _ = some (Sl.fz (.raw (.ref w1.d))); rw [hd]; rfl)]
        rw [if_pos hm1, hC, List.getElem?_eq_getElem hlt]
    rw [seq_ret (dSet_ret e4)]
    show ∃ i w', seqD (dSet 5 _) _ [Sl.fz (.raw (.ref d)), .fz (.int k), .un, .fz (.int t), .fz (.int cell), .un] w2 = _ ∧ _
    have m1 := Int.emod_nonneg cell (by decide : (2147483563 : Int) ≠ 0)
    have m2 := Int.emod_lt_of_pos cell (by decide : (0 : Int) < 2147483563)
    refine ex_of (seq_ret (dSet_ret (f2_ret (u := .int 2147483647) (int_ret (f2_ret (u := .int 3) (f2_ret (u := .int 54321) (f2_ret (f2_ret (u := .int 2147483563) (int_ret (i := cell) (w' := w2) rfl) rfl (mod_e (by decide))) (f2_ret (t := .int 48271) (u := .int t) (w2 := w2) rfl rfl (cmul_e ⟨by decide, by decide⟩)) add_e) rfl add_e) rfl (cpow_e ⟨by omega, by omega⟩ ⟨by decide, by decide⟩))) rfl (mod_e (by decide))))) ?_
    generalize hmix : (cell % 2147483563 + 48271 * t + 54321) ^ (Int.toNat 3) % 2147483647 = mix
    have x1 : 0 ≤ mix := by rw [← hmix]; exact Int.emod_nonneg _ (by decide)
    have x2 : mix < 2147483647 := by rw [← hmix]; exact Int.emod_lt_of_pos _ (by decide)
    refine ⟨_, w2, dRet_ret (f2_ret (u := .int k) (int_ret (f2_ret (u := .int 17) (f2_ret (u := .int 2147483549) (int_ret (f2_ret (u := .int 5) (f2_ret (t := .int mix) (w1 := w2) rfl (f2_ret (t := .int 130363) (u := .int t) (w2 := w2) rfl rfl (cmul_e ⟨by decide, by decide⟩)) add_e) rfl (cpow_e ⟨by omega, by omega⟩ ⟨by decide, by decide⟩))) rfl (mod_e (by decide))) rfl (cdiv_e ⟨by decide, by decide⟩))) rfl (mod_e hk)), ⟨Int.emod_nonneg _ (by omega), Int.emod_lt_of_pos _ hk⟩, hw2, by show w1.turn + 1 ≤ _; omega⟩
end
end PL

set_option maxHeartbeats 4000000
namespace PL
open PySem L2
/-! T12: loops of draws; _law_pick, _law_names. -/
section
variable {d : Addr} {n k N : Nat}
theorem Tot.eq {α : Type} {m m' : M Dr α} {P : α → Prop} (e : m = m') (h : Tot d n m' P) : Tot d n m P := by rw [e]; exact h
/-- goes on, with a state of which P -/
def Nx (P : Rho → Prop) : Fl → Prop := fun fl => ∃ ρ', fl = .nx ρ' ∧ P ρ'
theorem Tot.seq {g h : Rho → M Dr Fl} {ρ : Rho} {P : Rho → Prop} {Q : Fl → Prop} (hg : Tot d n (g ρ) (Nx P)) (hh : ∀ ρ', P ρ' → Tot d k (h ρ') Q) (e : n + k ≤ N) : Tot d N (seqD g h ρ) Q := by
  refine Tot.bnd hg (fun fl hf => ?_) e
  obtain ⟨ρ', rfl, hp⟩ := hf
  exact hh ρ' hp
theorem Tot.set {i : Nat} {fa : Rho → M Dr T} {ρ : Rho} {P : T → Prop} (h : Tot d n (fa ρ) P) : Tot d n (dSet i (xFz fa) ρ) (Nx fun ρ' => ∃ t, P t ∧ ρ' = ρ.set i (.fz t)) := by
  show Tot d n (PL.bnd (PL.bnd (fa ρ) fun t => PL.ret (Sl.fz t)) _) _
  rw [bnd_assoc]
  refine Tot.bnd h (fun t ht => ?_) (k := 0) (Nat.le_refl _)
  exact .ofRet rfl ⟨_, rfl, t, ht, rfl⟩
theorem Tot.f2 {g : T → T → Option T} {fa fb : Rho → M Dr T} {ρ : Rho} {P Q R : T → Prop} (ha : Tot d n (fa ρ) P) (hb : Tot d k (fb ρ) Q) (hg : ∀ t u, P t → Q u → ∃ v, g t u = some v ∧ R v) (e : n + k ≤ N) : Tot d N (f2 g fa fb ρ) R := by
  refine Tot.bnd ha (fun t ht => ?_) (k := k) e
  refine Tot.bnd hb (fun u hu => ?_) (k := 0) (Nat.le_refl _)
  obtain ⟨v, h1, h2⟩ := hg t u ht hu
  rw [h1]
  exact .ofRet rfl h2
theorem Tot.cons {fa : Rho → M Dr T} {fr : Rho → M Dr (List T)} {ρ : Rho} {P : T → Prop} {Q : List T → Prop} (ha : Tot d n (fa ρ) P) (hr : Tot d k (fr ρ) Q) (e : n + k ≤ N) : Tot d N (aCons fa fr ρ) (fun ts => ∃ t us, ts = t :: us ∧ P t ∧ Q us) := by
  refine Tot.bnd ha (fun t ht => ?_) e
  refine Tot.bnd hr (fun us hu => ?_) (k := 0) (Nat.le_refl _)
  exact .ofRet rfl ⟨t, us, rfl, ht, hu⟩
theorem Tot.val {fa : Rho → M Dr T} {ρ : Rho} {t : T} (e : fa ρ = ret t) : Tot d 0 (fa ρ) (fun u => u = t) := .ofRet e rfl
theorem nx_set {i : Nat} {ρ : Rho} {P : T → Prop} {Q : Rho → Prop} (h : ∀ t, P t → Q (ρ.set i (.fz t))) : ∀ fl, (Nx fun ρ' => ∃ t, P t ∧ ρ' = ρ.set i (.fz t)) fl → Nx Q fl := fun fl ⟨ρ', e, t, ht, e2⟩ => ⟨ρ', e, by rw [e2]; exact h t ht⟩
theorem Tot.iff_ {gc : Rho → M Dr Bool} {g h : Rho → M Dr Fl} {ρ : Rho} {P : Bool → Prop} {Q : Fl → Prop} (hc : Tot d n (gc ρ) P) (hg : P true → Tot d k (g ρ) Q) (hh : P false → Tot d k (h ρ) Q) (e : n + k ≤ N) : Tot d N (dIf gc g h ρ) Q := by
  refine Tot.bnd hc (fun b hb => ?_) e
  cases b with
  | true => exact hg hb
  | false => exact hh hb
theorem Tot.test {fa : Rho → M Dr T} {ρ : Rho} {P : Bool → Prop} (h : Tot d n (fa ρ) (fun t => ∃ b, t = .bl b ∧ P b)) : Tot d n (fB fa ρ) P := by
  refine Tot.bnd h (fun t ht => ?_) (k := 0) (Nat.le_refl _)
  obtain ⟨b, rfl, hb⟩ := ht
  exact .ofRet rfl hb
theorem Tot.asL {f : Rho → M Dr (List T)} {ρ : Rho} {P : List T → Prop} (h : Tot d n (f ρ) P) : Tot d n (asL f ρ) (fun t => ∃ ts, t = .lst ts ∧ P ts) := by
  refine Tot.bnd h (fun ts ht => ?_) (k := 0) (Nat.le_refl _)
  exact .ofRet rfl ⟨ts, rfl, ht⟩
theorem draw_call (c : Cs) {ρ : Rho} {fa fb : Rho → M Dr T} {k : Int} (h1 : fa ρ = ret (.raw (.ref d))) (h2 : fb ρ = ret (.int k)) (hk : 0 < k) (hk2 : k < 1000000) : Tot d 1 (fCall 2 (aCons fa (aCons fb aNil)) (F__law_draw c) ρ) (fun t => ∃ i : Int, t = .int i ∧ 0 ≤ i ∧ i < k) :=
  Tot.eq (fCall_e (aCons_e h1 (aCons_e h2 aNil_e)) rfl) (draw_tot c hk hk2)
theorem Tot.run {m : Nat} {g : Rho → M Dr Fl} {ts : List T} {P : T → Prop} (h : Tot d n (g (ts.map Sl.fz ++ List.replicate m Sl.un)) (fun fl => ∃ t, fl = .rt t ∧ P t)) : Tot d n (run m g ts) P := by
  refine Tot.bnd h (fun fl hf => ?_) (k := 0) (Nat.le_refl _)
  obtain ⟨t, rfl, ht⟩ := hf
  exact .ofRet rfl ht
theorem Tot.rt {fa : Rho → M Dr T} {ρ : Rho} {P : T → Prop} (h : Tot d n (fa ρ) P) : Tot d n (dRet fa ρ) (fun fl => ∃ t, fl = .rt t ∧ P t) := by
  refine Tot.bnd h (fun t ht => ?_) (k := 0) (Nat.le_refl _)
  exact .ofRet rfl ⟨t, rfl, ht⟩
theorem Tot.loop {i : Nat} {g : Rho → M Dr Fl} (Inv : List T → Rho → Prop) (step : ∀ t ts ρ, Inv (t :: ts) ρ → Tot d n (g (ρ.set i (.fz t))) (fun fl => ∃ ρ2, fl = .nx ρ2 ∧ Inv ts ρ2)) : ∀ ts ρ, Inv ts ρ → Tot d (ts.length * n) (loopD (gN i) g ts ρ) (fun fl => ∃ ρ', fl = .nx ρ' ∧ Inv [] ρ')
  | [], ρ, h => .ofRet rfl ⟨ρ, rfl, h⟩
  | t :: ts, ρ, h => by
    unfold loopD
    show Tot d _ (PL.bnd (lift (some (ρ.set i (.fz t)))) _) _
    rw [lift_some, ret_bnd]
    refine Tot.bnd (step t ts ρ h) (fun fl hf => ?_) (k := ts.length * n) (by rw [List.length_cons, Nat.succ_mul]; omega)
    obtain ⟨ρ2, rfl, h2⟩ := hf
    exact Tot.loop Inv step ts ρ2 h2
theorem Tot.comp {vs : List Nat} {i : Nat} {ge : Rho → M Dr T} {ρ : Rho} {P : T → Prop} : ∀ ts : List T, (∀ t ∈ ts, Tot d n (ge ((wipeR ρ vs).set i (.fz t))) P) → Tot d (ts.length * n) (compD vs (gN i) tYesM ge ρ ts) (fun us => us.length = ts.length ∧ ∀ u ∈ us, P u)
  | [], _ => .ofRet rfl ⟨rfl, fun _ h => nomatch h⟩
  | t :: ts, h => by
    unfold compD
    show Tot d _ (PL.bnd (lift (some ((wipeR ρ vs).set i (.fz t)))) _) _
    rw [lift_some, ret_bnd]
    show Tot d _ (PL.bnd (PL.noEr (PL.ret true)) _) _
    rw [noEr_ret, ret_bnd, if_pos rfl]
    refine Tot.bnd (h t List.mem_cons_self).noEr (fun u hu => ?_) (k := ts.length * n) (by rw [List.length_cons, Nat.succ_mul]; omega)
    refine Tot.bnd (Tot.comp ts fun v hv => h v (List.mem_cons_of_mem _ hv)) (fun us hus => ?_) (k := 0) (Nat.le_refl _)
    refine .ofRet rfl ⟨by rw [List.length_cons, List.length_cons, hus.1], fun v hv => ?_⟩
    rcases List.mem_cons.mp hv with rfl | hv
    · exact hu
    · exact hus.2 v hv
/-- a while loop with a measure -/
theorem Tot.whl {gc : Rho → M Dr Bool} {g : Rho → M Dr Fl} (Inv : Nat → Rho → Prop) (hc : ∀ m ρ, Inv m ρ → gc ρ = ret (decide (0 < m))) (step : ∀ m ρ, 0 < m → Inv m ρ → Tot d n (g ρ) (fun fl => ∃ ρ2 m2, fl = .nx ρ2 ∧ m2 < m ∧ Inv m2 ρ2)) : ∀ m ρ, Inv m ρ → Tot d (m * n) (dWhile gc g ρ) (fun fl => ∃ ρ', fl = .nx ρ' ∧ Inv 0 ρ') := by
  intro m
  induction m using Nat.strongRecOn with
  | ind m ih =>
    intro ρ h
    rw [dWhile_eq, hc m ρ h, ret_bnd]
    by_cases hm : 0 < m
    · rw [decide_eq_true hm, if_pos rfl]
      refine Tot.bnd (step m ρ hm h) (fun fl hf => ?_) (k := (m - 1) * n) (by
        obtain ⟨m', rfl⟩ : ∃ m', m = m' + 1 := ⟨m - 1, by omega⟩
        rw [Nat.succ_mul, Nat.add_sub_cancel]; omega)
      obtain ⟨ρ2, m2, rfl, hlt, h2⟩ := hf
      exact (ih m2 hlt ρ2 h2).mono (Nat.mul_le_mul_right n (by omega)) fun _ q => q
    · rw [decide_eq_false hm, if_neg (by simp)]
      have : m = 0 := by omega
      subst this
      exact .ofRet rfl ⟨ρ, rfl, h⟩
end
section
variable {d : Addr}
theorem at_mem {α : Type} {ts : List α} {i : Int} (h0 : 0 ≤ i) (h1 : i < (ts.length : Nat)) : ∃ t, atI ts i = some t ∧ t ∈ ts := by
  have hlt : i.toNat < ts.length := by omega
  refine ⟨ts[i.toNat], ?_, List.getElem_mem _⟩
  unfold atI ixN
  rw [if_pos h0, if_pos h1]
  exact List.getElem?_eq_getElem hlt
theorem pick_lst (c : Cs) {ts : List T} (h0 : 0 < ts.length) (hl : ts.length < 1000000) : Tot d 1 (F__law_pick c [.raw (.ref d), .lst ts]) (fun t => t ∈ ts) := by
  refine Tot.run (Tot.rt (Tot.f2 (n := 0) (k := 1) (P := fun t => t = .lst ts) (.val rfl) (draw_call c (k := (ts.length : Nat)) rfl (f1_e (t := .lst ts) rfl rfl) (by omega) (by omega)) (fun t u ht hu => ?_) (Nat.le_refl _)))
  subst ht
  obtain ⟨i, rfl, h1, h2⟩ := hu
  exact at_mem h1 h2
theorem pick_str (c : Cs) {z : Str} (h0 : 0 < z.length) (hl : z.length < 1000) : Tot d 1 (F__law_pick c [.raw (.ref d), .str z]) (fun t => ∃ x, t = .str ⟨#[x]⟩ ∧ x ∈ z.cps.toList) := by
  have hz : z.length ≤ sizeLine := by rw [sizeLine_eq]; omega
  have hlen : lenT (.str z) = some (.int (z.length : Nat)) := by show (if z.length ≤ sizeLine then some (T.int (z.length : Nat)) else none) = _; rw [if_pos hz]
  refine Tot.run (Tot.rt (Tot.f2 (n := 0) (k := 1) (P := fun t => t = .str z) (.val rfl) (draw_call c (k := (z.length : Nat)) rfl (f1_e (t := .str z) rfl hlen) (by omega) (by omega)) (fun t u ht hu => ?_) (Nat.le_refl _)))
  subst ht
  obtain ⟨i, rfl, h1, h2⟩ := hu
  obtain ⟨x, hx, hm⟩ := at_mem (ts := z.cps.toList) h1 (by rw [Array.length_toList]; exact h2)
  refine ⟨.str ⟨#[x]⟩, ?_, x, rfl, hm⟩
  show (if z.length ≤ sizeLine then (atI z.cps.toList i).map fun c => T.str ⟨#[c]⟩ else none) = _
  rw [if_pos hz, hx]
  rfl
/-! ### words -/
def LET : Str := "abcdefghijklmnopqrstuvwxyz"
theorem let_in : ∀ x ∈ LET.cps.toList, inL x = true := by
  have : LET.cps.toList.all inL = true := by decide +kernel
  exact fun x hx => List.all_eq_true.mp this x hx
theorem isStep_iff {s : Str} : isStep s = true ↔ 1 ≤ s.length ∧ s.length ≤ 6 ∧ ∀ x ∈ s.cps.toList, inL x = true := by
  unfold isStep
  simp only [Bool.and_eq_true, decide_eq_true_eq, List.all_eq_true]
  exact ⟨fun ⟨⟨a, b⟩, c⟩ => ⟨a, b, c⟩, fun ⟨a, b, c⟩ => ⟨⟨a, b⟩, c⟩⟩
theorem str_app_len (a b : Str) : (a ++ b).length = a.length + b.length := by
  show (a.cps ++ b.cps).size = _
  rw [Array.size_append]
  rfl
theorem str_app_toList (a b : Str) : (a ++ b).cps.toList = a.cps.toList ++ b.cps.toList := by
  show (a.cps ++ b.cps).toList = _
  rw [Array.toList_append]
theorem cut5_toList (z : Str) : (cutS z none (some 5)).cps.toList = z.cps.toList.take 5 := by
  unfold cutS
  show (z.cps.toList.drop 0).take (HT.sIx z.length z.length (some ((5 : Nat) : Int)) - 0) = _
  rw [HT.sIx_nat, List.drop_zero, Nat.sub_zero]
  by_cases h : z.length ≤ 5
  · rw [Nat.min_eq_right h]
    rw [List.take_of_length_le (by rw [Array.length_toList]; exact Nat.le_refl _), List.take_of_length_le (by rw [Array.length_toList]; exact h)]
  · rw [Nat.min_eq_left (by omega)]
theorem len_toList (z : Str) : z.cps.toList.length = z.length := Array.length_toList
theorem cut5_step {z : Str} (h : isStep z = true) : isStep (cutS z none (some 5)) = true := by
  rw [isStep_iff] at h ⊢
  rw [← len_toList, cut5_toList, List.length_take, len_toList]
  exact ⟨by omega, by omega, fun x hx => h.2.2 x (List.mem_of_mem_take hx)⟩
theorem cut5_len {z : Str} : (cutS z none (some 5)).length ≤ 5 := by
  rw [← len_toList, cut5_toList, List.length_take]
  omega
theorem app_step {z : Str} {x : Nat} (h : isStep z = true) (h5 : z.length ≤ 5) (hx : inL x = true) : isStep (z ++ ⟨#[x]⟩) = true := by
  rw [isStep_iff] at h ⊢
  rw [str_app_len, str_app_toList]
  refine ⟨by omega, by show z.length + 1 ≤ 6; omega, fun y hy => ?_⟩
  rcases List.mem_append.mp hy with hy | hy
  · exact h.2.2 y hy
  · rcases List.mem_singleton.mp hy with rfl
    exact hx
theorem nodup_sub {α : Type} [DecidableEq α] : ∀ {l m : List α}, l.Nodup → (∀ x ∈ l, x ∈ m) → l.length ≤ m.length
  | [], m, _, _ => Nat.zero_le _
  | x :: l, m, h, hs => by
    have hx : x ∈ m := hs x List.mem_cons_self
    have hn := List.nodup_cons.mp h
    have ih := nodup_sub (l := l) (m := m.erase x) hn.2 fun y hy => (List.mem_erase_of_ne (fun e => hn.1 (by rw [← e]; exact hy))).mpr (hs y (List.mem_cons_of_mem _ hy))
    rw [List.length_erase_of_mem hx] at ih
    have : 0 < m.length := List.length_pos_of_mem hx
    rw [List.length_cons]
    omega
/-- the word and those near it -/
def nears (w : Str) : List Str := w :: LET.cps.toList.map fun x => cutS w none (some 5) ++ ⟨#[x]⟩
theorem nears_step {w : Str} (h : isStep w = true) : ∀ s ∈ nears w, isStep s = true := by
  intro s hs
  rcases List.mem_cons.mp hs with rfl | hs
  · exact h
  · obtain ⟨x, hx, rfl⟩ := List.mem_map.mp hs
    exact app_step (cut5_step h) cut5_len (let_in x hx)
theorem let_nodup : LET.cps.toList.Nodup := by decide +kernel
theorem let_len : LET.cps.toList.length = 26 := by decide +kernel
theorem nears_new (w : Str) {xs : List Str} (h : xs.length < 26) : ∃ s ∈ nears w, s ∉ xs := by
  apply Classical.byContradiction
  intro hc
  have hall : ∀ s ∈ nears w, s ∈ xs := fun s hs => Classical.byContradiction fun z => hc ⟨s, hs, z⟩
  have nd : (LET.cps.toList.map fun x => cutS w none (some 5) ++ (⟨#[x]⟩ : Str)).Nodup := by
    refine List.Pairwise.map _ (fun a b hab e => hab ?_) let_nodup
    have := congrArg (fun z : Str => z.cps.toList) e
    rw [str_app_toList, str_app_toList] at this
    have := List.append_cancel_left this
    simpa using this
  have := nodup_sub nd fun s hs => hall s (List.mem_cons_of_mem _ hs)
  rw [List.length_map, let_len] at this
  omega
end
end PL

set_option maxHeartbeats 4000000
namespace PL
open PySem L2
/-! T13: what is promised of the parts of a body that draws; _law_names. -/
section
variable {d : Addr} {n k N : Nat}
/-- ints from 0 -/
theorem range_tot {fa : Rho → M Dr T} {ρ : Rho} {lo hi : Int} (h0 : hi < 1000000) (h : Tot d n (fa ρ) (fun t => ∃ i : Int, t = .int i ∧ lo ≤ i ∧ i ≤ hi)) (hlo : 0 ≤ lo) : Tot d n (fRange1 fa ρ) (fun ts => (lo : Int) ≤ (ts.length : Nat) ∧ ((ts.length : Nat) : Int) ≤ hi) := by
  refine Tot.bnd h (fun t ht => ?_) (k := 0) (Nat.le_refl _)
  obtain ⟨i, rfl, h1, h2⟩ := ht
  show Tot d 0 (PL.bnd (PL.ret i) _) _
  rw [ret_bnd, if_pos ⟨by omega, by omega⟩]
  refine .ofRet rfl ?_
  show lo ≤ (((List.range i.toNat).map fun j => T.int (0 + (j : Nat))).length : Nat) ∧ _
  unfold intsT
  rw [List.length_map, List.length_range]
  omega
theorem lc_tot {fi : Rho → M Dr (List T)} {vs : List Nat} {i : Nat} {ge : Rho → M Dr T} {ρ : Rho} {m : Nat} {Q : List T → Prop} {P : T → Prop} (hi : Tot d n (fi ρ) (fun ts => ts.length ≤ m ∧ Q ts)) (hm : m ≤ 1000) (he : ∀ t, Tot d k (ge ((wipeR ρ vs).set i (.fz t))) P) (e : n + m * k ≤ N) :
    Tot d N (fLc fi vs (gN i) tYesM ge ρ) (fun us => (∃ ts : List T, Q ts ∧ us.length = ts.length) ∧ ∀ u ∈ us, P u) := by
  refine Tot.bnd hi (fun ts ht => ?_) (k := m * k) e
  rw [if_pos (by rw [sizeLine_eq]; omega)]
  refine (Tot.comp (P := P) ts fun t _ => he t).mono (Nat.mul_le_mul_right k ht.1) fun us hus => ⟨⟨ts, ht.2, hus.1⟩, hus.2⟩
end
theorem strsT_map : ∀ xs : List Str, strsT (xs.map T.str) = some xs
  | [] => rfl
  | x :: xs => by rw [List.map_cons]; unfold strsT; rw [strsT_map xs]; rfl
theorem lst_nil {W : Type} {ρ : Rho} : (asL (fLst aNil) ρ : M W T) = ret (sLst []) := asL_e (by unfold fLst; rw [aNil_e, ret_bnd, if_pos (by rw [sizeLine_eq]; simp)]; rfl)
/-- letters joined -/
theorem glue_fold : ∀ (xs : List Nat) (acc : Array Nat), ((xs.map fun x => (⟨#[x]⟩ : Str)).foldl (fun acc p => acc ++ (Str.ofString "").cps ++ p.cps) acc).toList = acc.toList ++ xs
  | [], acc => by simp
  | x :: xs, acc => by
    rw [List.map_cons, List.foldl_cons, glue_fold xs]
    rw [Array.toList_append, Array.toList_append, show (Str.ofString "").cps.toList = [] from by decide +kernel]
    simp
theorem join_letters (xs : List Nat) : (Txt.join "" (xs.map fun x => (⟨#[x]⟩ : Str))).cps.toList = xs := by
  unfold Txt.join Builtin.Str.glued
  cases xs with
  | nil => rfl
  | cons x xs =>
    show (((xs.map fun x => (⟨#[x]⟩ : Str)).foldl (fun acc p => acc ++ (Str.ofString "").cps ++ p.cps) #[x]).toList) = _
    rw [glue_fold]
    rfl
theorem letters_of : ∀ {us : List T}, (∀ u ∈ us, ∃ x, u = T.str ⟨#[x]⟩ ∧ x ∈ LET.cps.toList) → ∃ xs : List Nat, us = xs.map (fun x => T.str ⟨#[x]⟩) ∧ ∀ x ∈ xs, x ∈ LET.cps.toList
  | [], _ => ⟨[], rfl, fun _ h => nomatch h⟩
  | u :: us, h => by
    obtain ⟨x, hx, hm⟩ := h u List.mem_cons_self
    obtain ⟨xs, e, ha⟩ := letters_of fun v hv => h v (List.mem_cons_of_mem _ hv)
    refine ⟨x :: xs, by rw [hx, e]; rfl, fun y hy => ?_⟩
    rcases List.mem_cons.mp hy with rfl | hy
    · exact hm
    · exact ha y hy
theorem joinT_letters {xs : List Nat} (hl : xs.length ≤ 100) : joinT "" (.lst (xs.map fun x => T.str ⟨#[x]⟩)) = some (.str (Txt.join "" (xs.map fun x => (⟨#[x]⟩ : Str)))) := by
  have e : (xs.map fun x => T.str ⟨#[x]⟩) = (xs.map fun x => (⟨#[x]⟩ : Str)).map T.str := by rw [List.map_map]; rfl
  show ((some (xs.map fun x => T.str ⟨#[x]⟩)).bind fun ts => (strsT ts).bind fun ys => if (ys.map (·.length)).sum + ys.length * (Str.ofString "").length ≤ 16777216 then some (T.str (Txt.join "" ys)) else none) = _
  rw [e]
  show ((strsT _).bind fun ys => _) = _
  rw [strsT_map]
  show (if ((xs.map fun x => (⟨#[x]⟩ : Str)).map (·.length)).sum + (xs.map fun x => (⟨#[x]⟩ : Str)).length * (Str.ofString "").length ≤ 16777216 then _ else none) = _
  rw [if_pos ?_]
  rw [show (Str.ofString "").length = 0 from by decide +kernel, Nat.mul_zero, Nat.add_zero, List.map_map]
  have : ∀ l : List Nat, (l.map ((fun s : Str => s.length) ∘ fun x => (⟨#[x]⟩ : Str))).sum = l.length := fun l => by
    induction l with
    | nil => rfl
    | cons a l ih => rw [List.map_cons, List.sum_cons, ih, List.length_cons]; show 1 + _ = _; omega
  rw [this]
  omega
theorem join_step {xs : List Nat} (h1 : 1 ≤ xs.length) (h2 : xs.length ≤ 6) (ha : ∀ x ∈ xs, x ∈ LET.cps.toList) : isStep (Txt.join "" (xs.map fun x => (⟨#[x]⟩ : Str))) = true := by
  rw [isStep_iff, ← len_toList, join_letters]
  exact ⟨h1, h2, fun x hx => let_in x (ha x hx)⟩
def WORDS : List Str := ["behind", "either", "beside", "again", "step", "begin", "end", "tie", "keep", "put", "leave", "a", "b"]
def MORE : List Str := ["c", "d", "aa", "ab", "zzzzzz"]
theorem words_step : ∀ s ∈ WORDS ++ MORE, isStep s = true := by
  have : (WORDS ++ MORE).all isStep = true := by decide +kernel
  exact fun x hx => List.all_eq_true.mp this x hx
section
variable {W : Type} {ρ : Rho}
theorem fLst_e {fa : Rho → M W (List T)} {ts : List T} (e : fa ρ = ret ts) (h : ts.length ≤ 1000) : fLst fa ρ = ret ts := by
  unfold fLst
  rw [e, ret_bnd, if_pos (by rw [sizeLine_eq]; omega)]
theorem fTup_e {fa : Rho → M W (List T)} {ts : List T} (e : fa ρ = ret ts) (h : ts.length ≤ 1000) : fTup fa ρ = ret (.tup ts) := by
  unfold fTup
  rw [e, ret_bnd, if_pos (by rw [sizeLine_eq]; omega)]
theorem fSlice_e {fa : Rho → M W T} {l h : Rho → M W (Option Int)} {t u : T} {lo hi : Option Int} (e : fa ρ = ret t) (e1 : l ρ = ret lo) (e2 : h ρ = ret hi) (q : sliceT lo hi t = some u) : fSlice fa l h ρ = ret u := by
  unfold fSlice
  rw [e, ret_bnd, e1, ret_bnd, e2, ret_bnd, q]
  rfl
theorem fPart_e {fa : Rho → M W T} {i : Int} (e : fa ρ = ret (.int i)) : fPart fa ρ = ret (some i) := by
  unfold fPart
  rw [e, ret_bnd]
  rfl
end
/-- names: so many different steps -/
def GoodNames (m : Nat) (xs : List Str) : Prop := xs.length = m ∧ xs.Nodup ∧ ∀ x ∈ xs, isStep x = true
abbrev sNames (d : Addr) (m : Int) (xs : List Str) (x5 x6 x7 x8 x9 x10 : Sl) : Rho := [.fz (.raw (.ref d)), .fz (.int m), .fz (.str LET), .ow (xs.map T.str), .fz (sLst WORDS), x5, x6, x7, x8, x9, x10]
theorem nears_e {W : Type} {d : Addr} {m : Int} {xs : List Str} {x5 x7 x8 x9 x10 : Sl} {z : Str} (hz : isStep z = true) :
    (f2 addT (asL (fLst (aCons (fVar 6) aNil))) (asL (fLc (fItems (fVar 2)) [9] (gN 9) tYesM (f2 addT (fSlice (fVar 6) fNoPart (fPart (fC (.int 5)))) (fVar 9)))) (sNames d m xs x5 (.fz (.str z)) x7 x8 x9 x10) : M W T) = ret (sLst (nears z)) := by
  have hzl : z.length ≤ sizeLine := by have := (isStep_iff.mp hz).2.1; rw [sizeLine_eq]; omega
  have e1 : (asL (fLc (fItems (fVar 2)) [9] (gN 9) tYesM (f2 addT (fSlice (fVar 6) fNoPart (fPart (fC (.int 5)))) (fVar 9))) (sNames d m xs x5 (.fz (.str z)) x7 x8 x9 x10) : M W T) = ret (.lst (LET.cps.toList.map fun x => T.str (cutS z none (some 5) ++ ⟨#[x]⟩))) := by
    refine asL_e (fLc_mapP LET.cps.toList (fun x => T.str ⟨#[x]⟩) (fun x => T.str (cutS z none (some 5) ++ ⟨#[x]⟩)) (fItems_s (z := LET) rfl) (by rw [let_len, sizeLine_eq]; omega) fun x hx => ?_)
    refine f2_e (t := .str (cutS z none (some 5))) (u := .str ⟨#[x]⟩) (fSlice_e (t := .str z) rfl rfl (fPart_e rfl) (by show (if z.length ≤ sizeLine then _ else none) = _; rw [if_pos hzl])) rfl ?_
    show (if (cutS z none (some 5)).length + 1 ≤ sizeLine then _ else none) = _
    have := cut5_len (z := z)
    rw [if_pos (by rw [sizeLine_eq]; omega)]
  refine f2_e (t := .lst [.str z]) (asL_e (fLst_e (aCons_e rfl aNil_e) (by simp))) e1 ?_
  show (if 1 + (LET.cps.toList.map fun x => T.str (cutS z none (some 5) ++ ⟨#[x]⟩)).length ≤ sizeLine then some (T.lst ([T.str z] ++ _)) else none) = _
  rw [if_pos (by rw [List.length_map, let_len, sizeLine_eq]; omega)]
  unfold sLst nears
  rw [List.map_cons, List.map_map]
  rfl
theorem newest_e {d : Addr} {m : Int} {xs : List Str} {x5 x6 x7 x9 x10 : Sl} {z : Str} (hl : xs.length ≤ 20) (hz : isStep z = true) : ∃ s, s ∉ xs ∧ isStep s = true ∧
    (dAppend 3 (f2 ixT (asL (fLc (fItems (fVar 8)) [10] (gN 10) (fB (f2 (inT true) (fVar 10) (fVarS 3))) (fVar 10))) (fC (.int 0))) (sNames d m xs x5 x6 x7 (.fz (sLst (nears z))) x9 x10) : M Dr Fl) = ret (.nx (sNames d m (xs ++ [s]) x5 x6 x7 (.fz (sLst (nears z))) x9 x10)) := by
  have hnl : (nears z).length = 27 := by unfold nears; rw [List.length_cons, List.length_map, let_len]
  have e1 := fLc_pure (W := Dr) (fi := fItems (fVar 8)) (vs := [10]) (i := 10) (gt := fB (f2 (inT true) (fVar 10) (fVarS 3))) (ge := fVar 10) (ρ := sNames d m xs x5 x6 x7 (.fz (sLst (nears z))) x9 x10) (ts := (nears z).map T.str)
    (fun u => match u with | .str s => !xs.any (· == s) | _ => false) id (fItems_l rfl) (by rw [List.length_map, hnl, sizeLine_eq]; omega)
    (fun u hu => by
      obtain ⟨s, _, rfl⟩ := List.mem_map.mp hu
      exact fB_e (f2_e (t := .str s) (u := sLst xs) rfl rfl (by rw [inT_strs]; rfl)))
    (fun u hu _ => rfl)
  rw [List.map_id, List.filter_map] at e1
  have e2 : ((nears z).filter ((fun u => match u with | T.str s => !xs.any (· == s) | _ => false) ∘ T.str)) = (nears z).filter fun s => !xs.any (· == s) := rfl
  rw [e2] at e1
  cases hf : (nears z).filter fun s => !xs.any (· == s) with
  | nil =>
    exfalso
    obtain ⟨s, hs, hn⟩ := nears_new z (xs := xs) (by omega)
    have : s ∈ (nears z).filter fun s => !xs.any (· == s) := by
      rw [List.mem_filter]
      refine ⟨hs, ?_⟩
      simp only [Bool.not_eq_true', List.any_eq_false, beq_iff_eq]
      intro y hy e
      exact hn (e ▸ hy)
    rw [hf] at this
    cases this
  | cons s r =>
    have hs : s ∈ (nears z).filter fun s => !xs.any (· == s) := by rw [hf]; exact List.mem_cons_self
    rw [List.mem_filter] at hs
    have hn : s ∉ xs := fun z => by
      have := hs.2
      simp only [Bool.not_eq_true', List.any_eq_false, beq_iff_eq] at this
      exact this s z rfl
    refine ⟨s, hn, nears_step hz s hs.1, ?_⟩
    rw [hf] at e1
    show owM 3 _ _ = _
    show bnd (f2 ixT (asL (fLc (fItems (fVar 8)) [10] (gN 10) (fB (f2 (inT true) (fVar 10) (fVarS 3))) (fVar 10))) (fC (.int 0)) _) _ = _
    rw [f2_e (g := ixT) (t := .lst ((s :: r).map T.str)) (u := .int 0) (v := .str s) (asL_e e1) rfl (by simp [ixT, atI, ixN]), ret_bnd, if_pos (by rw [List.length_map, sizeLine_eq]; omega)]
    show ret (Fl.nx ((sNames d m xs x5 x6 x7 (.fz (sLst (nears z))) x9 x10).set 3 (.ow (xs.map T.str ++ [.str s])))) = _
    rw [sNames, sNames, List.map_append]
    rfl
end PL

set_option maxHeartbeats 4000000
namespace PL
open PySem L2
/-! T14: _law_names. -/
section
variable {d : Addr} {n k N : Nat}
theorem word_tot (c : Cs) {m : Int} {xs : List Str} {x5 x6 x7 x8 x9 x10 : Sl} : Tot d 7 (fM1 joinT (fC (.str "")) (asL (fLc (fRange1 (f2 addT (fC (.int 1)) (fCall 2 (aCons (fVar 0) (aCons (fC (.int 6)) aNil)) (F__law_draw c)))) [7] (gN 7) tYesM (fCall 2 (aCons (fVar 0) (aCons (fVar 2) aNil)) (F__law_pick c)))) (sNames d m xs x5 x6 x7 x8 x9 x10)) (fun t => ∃ s, t = .str s ∧ isStep s = true) := by
  show Tot d 7 (PL.bnd (PL.ret (T.str "")) _) _
  rw [ret_bnd]
  show Tot d 7 (PL.bnd (PL.ret ("" : Str)) _) _
  rw [ret_bnd]
  have hr : Tot d 1 (fRange1 (f2 addT (fC (.int 1)) (fCall 2 (aCons (fVar 0) (aCons (fC (.int 6)) aNil)) (F__law_draw c))) (sNames d m xs x5 x6 x7 x8 x9 x10)) (fun ts => ((1 : Int) ≤ (ts.length : Nat) ∧ ((ts.length : Nat) : Int) ≤ 6)) :=
    range_tot (by omega) (Tot.f2 (n := 0) (k := 1) (P := fun u => u = .int 1) (.val rfl) (draw_call c rfl rfl (by decide) (by decide)) (fun t u ht hu => by
      obtain ⟨i, rfl, h1, h2⟩ := hu
      subst ht
      exact ⟨.int (1 + i), rfl, 1 + i, rfl, by omega, by omega⟩) (Nat.le_refl _)) (by decide)
  have hl := lc_tot (vs := [7]) (i := 7) (m := 6) (k := 1) (N := 7) (ge := fCall 2 (aCons (fVar 0) (aCons (fVar 2) aNil)) (F__law_pick c)) (Q := fun ts => 1 ≤ ts.length ∧ ts.length ≤ 6) (P := fun u => ∃ x, u = T.str ⟨#[x]⟩ ∧ x ∈ LET.cps.toList) (hr.mono (Nat.le_refl _) fun ts h => ⟨by omega, by omega, by omega⟩) (by omega)
    (fun t => Tot.eq (fCall_e (ts := [.raw (.ref d), .str LET]) (aCons_e rfl (aCons_e rfl aNil_e)) rfl) (pick_str c (by decide +kernel) (by decide +kernel))) (by omega)
  refine Tot.bnd (Tot.asL hl) (fun t ht => ?_) (k := 0) (Nat.le_refl _)
  obtain ⟨us, rfl, ⟨ts, ⟨h1, h2⟩, h3⟩, h4⟩ := ht
  obtain ⟨ys, rfl, hy⟩ := letters_of h4
  rw [List.length_map] at h3
  rw [joinT_letters (by omega)]
  exact .ofRet rfl ⟨_, rfl, join_step (by omega) (by omega) hy⟩
theorem range_e {W : Type} {fa : Rho → M W T} {ρ : Rho} {m : Nat} (e : fa ρ = ret (.int (m : Nat))) (h : m ≤ 1000000) : fRange1 fa ρ = ret (intsT 0 m) := by
  unfold fRange1
  rw [e, ret_bnd]
  show bnd (ret ((m : Nat) : Int)) _ = _
  rw [ret_bnd, if_pos ⟨by omega, by omega⟩, Int.toNat_natCast]
theorem names_tot (c : Cs) {m : Nat} (hm : 1 ≤ m ∧ m ≤ 10) : Tot d (m * 9) (F__law_names c [.raw (.ref d), .int (m : Nat)]) (fun t => ∃ xs, t = sLst xs ∧ GoodNames m xs) := by
  unfold F__law_names
  refine Tot.run ?_
  unfold g__law_names
  have e1 : (dPar 2 3 (xFz (fC (.str "abcdefghijklmnopqrstuvwxyz"))) (xOw (fLst aNil)) ([T.raw (.ref d), .int (m : Nat)].map Sl.fz ++ List.replicate 9 Sl.un) : M Dr Fl) = ret (.nx [.fz (.raw (.ref d)), .fz (.int (m : Nat)), .fz (.str LET), .ow [], .un, .un, .un, .un, .un, .un, .un]) := by
    unfold dPar
    rw [xFz_e (t := .str LET) rfl, ret_bnd]
    show bnd (bnd (fLst aNil _) _) _ = _
    rw [fLst_e aNil_e (by simp), ret_bnd, ret_bnd]
    rfl
  refine Tot.eq (seq_nx e1) ?_
  have e2 : (dSet 4 (xFz (asL (fLst (aCons (fC (.str "behind")) (aCons (fC (.str "either")) (aCons (fC (.str "beside")) (aCons (fC (.str "again")) (aCons (fC (.str "step")) (aCons (fC (.str "begin")) (aCons (fC (.str "end")) (aCons (fC (.str "tie")) (aCons (fC (.str "keep")) (aCons (fC (.str "put")) (aCons (fC (.str "leave")) (aCons (fC (.str "a")) (aCons (fC (.str "b")) aNil)))))))))))))))) [.fz (.raw (.ref d)), .fz (.int (m : Nat)), .fz (.str LET), .ow [], .un, .un, .un, .un, .un, .un, .un] : M Dr Fl) = ret (.nx (sNames d (m : Nat) [] .un .un .un .un .un .un)) :=
    dSet_e (xFz_e (asL_e (fLst_e (ts := WORDS.map T.str) rfl (by simp [WORDS]))))
  refine Tot.eq (seq_nx e2) ?_
  refine Tot.seq (n := m * 9) (k := 0) (P := fun ρ => ∃ xs x5 x6 x7 x8 x9 x10, ρ = sNames d (m : Nat) xs x5 x6 x7 x8 x9 x10 ∧ GoodNames m xs) ?_ (fun ρ hρ => ?_) (Nat.le_refl _)
  case refine_2 =>
    obtain ⟨xs, x5, x6, x7, x8, x9, x10, rfl, h⟩ := hρ
    exact .ofRet (dRet_e (t := sLst xs) rfl) ⟨sLst xs, rfl, xs, rfl, h⟩
  have er : (fRange1 (fVar 1) (sNames d (m : Nat) [] .un .un .un .un .un .un) : M Dr (List T)) = ret (intsT 0 m) := range_e rfl (by omega)
  unfold dFor
  rw [er, ret_bnd]
  have hlen : (intsT 0 m).length = m := by unfold intsT; rw [List.length_map, List.length_range]
  refine Tot.mono (Tot.loop (d := d) (n := 9) (i := 5) (fun ts ρ => ∃ xs x5 x6 x7 x8 x9 x10, ρ = sNames d (m : Nat) xs x5 x6 x7 x8 x9 x10 ∧ xs.length + ts.length = m ∧ xs.Nodup ∧ ∀ x ∈ xs, isStep x = true) ?step (intsT 0 m) (sNames d (m : Nat) [] .un .un .un .un .un .un) ⟨[], _, _, _, _, _, _, rfl, by rw [hlen]; simp, List.nodup_nil, fun _ h => nomatch h⟩) (by rw [hlen]; exact Nat.le_refl _) (fun fl hf => ?post)
  case post =>
    obtain ⟨ρ', e, xs, x5, x6, x7, x8, x9, x10, rfl, hl, hnd, hst⟩ := hf
    exact ⟨_, e, xs, x5, x6, x7, x8, x9, x10, rfl, by simpa using hl, hnd, hst⟩
  case step =>
    intro t ts ρ h
    obtain ⟨xs, x5, x6, x7, x8, x9, x10, rfl, hl, hnd, hst⟩ := h
    rw [List.length_cons] at hl
    show Tot d 9 (seqD _ _ (sNames d (m : Nat) xs (.fz t) x6 x7 x8 x9 x10)) _
    -- the word
    refine Tot.seq (n := 1) (k := 8) (P := fun ρ => ∃ z, isStep z = true ∧ ρ = sNames d (m : Nat) xs (.fz t) (.fz (.str z)) x7 x8 x9 x10) ?_ (fun ρ hρ => ?_) (Nat.le_refl _)
    · refine (Tot.set (Tot.eq (fCall_e (ts := [.raw (.ref d), .lst ((WORDS ++ MORE).map T.str)]) (aCons_e rfl (aCons_e (f2_e (t := sLst WORDS) (u := sLst MORE) rfl (asL_e (fLst_e (ts := MORE.map T.str) rfl (by simp [MORE]))) (addT_strs (by simp [WORDS, MORE]))) aNil_e)) rfl) (pick_lst c (by simp [WORDS, MORE]) (by simp [WORDS, MORE])))).mono (Nat.le_refl _) (nx_set fun u hu => ?_)
      obtain ⟨z, hz, rfl⟩ := List.mem_map.mp hu
      exact ⟨z, words_step z hz, rfl⟩
    obtain ⟨z, hz, rfl⟩ := hρ
    -- or letters
    refine Tot.seq (n := 8) (k := 0) (P := fun ρ => ∃ z, isStep z = true ∧ ρ = sNames d (m : Nat) xs (.fz t) (.fz (.str z)) x7 x8 x9 x10) ?_ (fun ρ hρ => ?_) (Nat.le_refl _)
    · refine Tot.iff_ (n := 1) (k := 7) (P := fun _ => True) (Tot.test (Tot.f2 (n := 1) (k := 0) (Q := fun u => u = .int 0) (draw_call c (k := 3) rfl rfl (by decide) (by decide)) (.val rfl) (fun a b ha hb => ?_) (Nat.le_refl _))) (fun _ => ?_) (fun _ => .ofRet rfl ⟨_, rfl, z, hz, rfl⟩) (Nat.le_refl _)
      · obtain ⟨i, rfl, _⟩ := ha
        subst hb
        exact ⟨_, eq_int false i 0, _, rfl, trivial⟩
      · refine (Tot.set (word_tot c)).mono (Nat.le_refl _) (nx_set fun u hu => ?_)
        obtain ⟨s, rfl, hs⟩ := hu
        exact ⟨s, hs, rfl⟩
    obtain ⟨y, hy, rfl⟩ := hρ
    refine Tot.eq (seq_nx (dSet_e (xFz_e (nears_e hy)))) ?_
    obtain ⟨s, h1, h2, h3⟩ := newest_e (d := d) (m := (m : Nat)) (xs := xs) (x5 := .fz t) (x6 := .fz (.str y)) (x7 := x7) (x9 := x9) (x10 := x10) (z := y) (by omega) hy
    refine .ofRet h3 ⟨_, rfl, xs ++ [s], _, _, _, _, _, _, rfl, by rw [List.length_append, List.length_singleton]; omega, ?_, fun x hx => ?_⟩
    · rw [List.nodup_append]
      refine ⟨hnd, List.pairwise_singleton _ _, fun a ha b hb e => ?_⟩
      rcases List.mem_singleton.mp hb with rfl
      exact h1 (e ▸ ha)
    · rcases List.mem_append.mp hx with hx | hx
      · exact hst x hx
      · rcases List.mem_singleton.mp hx with rfl
        exact h2
end
end PL

set_option maxHeartbeats 4000000
namespace PL
open PySem L2
/-! T15: _law_shape. -/
def cst : Nat → Nat
  | 0 => 0
  | m + 1 => 10 + (m + 1) * (cst m + 1) + 5 * cst m
theorem cst_succ (m : Nat) : cst m ≤ cst (m + 1) := by
  show cst m ≤ 10 + (m + 1) * (cst m + 1) + 5 * cst m
  omega
theorem cst_le {a b : Nat} (h : a ≤ b) : cst a ≤ cst b := by
  induction h with
  | refl => exact Nat.le_refl _
  | step _ ih => exact Nat.le_trans ih (cst_succ _)
/-! ### where steps stand -/
mutual
theorem begins_sub : ∀ (t : Tr), ∀ s ∈ t.begins, s ∈ t.steps
  | .leaf _, s, h => h
  | .join w ps, s, h => by
    rw [Tr.begins] at h
    rw [Tr.steps]
    split at h
    · exact begin1_sub ps s h
    · exact beginss_sub ps s h
  | .again a b, s, h => by
    rw [Tr.begins] at h
    rw [Tr.steps]
    exact List.mem_append_left _ (begins_sub a s h)
theorem begin1_sub : ∀ (ps : List Tr), ∀ s ∈ Tr.begin1 ps, s ∈ Tr.stepss ps
  | [], s, h => nomatch h
  | t :: ts, s, h => List.mem_append_left _ (begins_sub t s h)
theorem beginss_sub : ∀ (ps : List Tr), ∀ s ∈ Tr.beginss ps, s ∈ Tr.stepss ps
  | [], s, h => nomatch h
  | t :: ts, s, h => by
    rcases List.mem_append.mp h with h | h
    · exact List.mem_append_left _ (begins_sub t s h)
    · exact List.mem_append_right _ (beginss_sub ts s h)
end
mutual
theorem ends_sub : ∀ (t : Tr), ∀ s ∈ t.ends, s ∈ t.steps
  | .leaf _, s, h => h
  | .join w ps, s, h => by
    rw [Tr.ends] at h
    rw [Tr.steps]
    split at h
    · exact end1_sub ps s h
    · exact endss_sub ps s h
  | .again a b, s, h => by
    rw [Tr.ends] at h
    rw [Tr.steps]
    exact List.mem_append_left _ (ends_sub a s h)
theorem end1_sub : ∀ (ps : List Tr), ∀ s ∈ Tr.end1 ps, s ∈ Tr.stepss ps
  | [], s, h => nomatch h
  | [t], s, h => List.mem_append_left _ (ends_sub t s h)
  | p :: t :: ts, s, h => List.mem_append_right _ (end1_sub (t :: ts) s h)
theorem endss_sub : ∀ (ps : List Tr), ∀ s ∈ Tr.endss ps, s ∈ Tr.stepss ps
  | [], s, h => nomatch h
  | t :: ts, s, h => by
    rcases List.mem_append.mp h with h | h
    · exact List.mem_append_left _ (ends_sub t s h)
    · exact List.mem_append_right _ (endss_sub ts s h)
end
/-- a told tree of just these steps -/
structure Shp (xs : List Str) (t : Tr) : Prop where
  told : t.told = true
  steps : t.steps = xs
  apart : t.apart = true
  depth : t.depth ≤ xs.length
theorem both_row {a b : Tr} {xs ys : List Str} (ha : Shp xs a) (hb : Shp ys b) (nd : (xs ++ ys).Nodup) : (both (.join "behind" [a, b])).isEmpty = true := by
  rw [List.isEmpty_iff]
  unfold both
  rw [List.filter_eq_nil_iff]
  intro s hs he
  have h1 : s ∈ a.steps := begins_sub a s (by rw [Tr.begins] at hs; simpa [Tr.begin1] using hs)
  rw [List.any_eq_true] at he
  obtain ⟨y, hy, e⟩ := he
  have e2 : y = s := by simpa using e
  subst e2
  have h2 : y ∈ b.steps := ends_sub b y (by rw [Tr.ends] at hy; simpa [Tr.end1] using hy)
  rw [ha.steps] at h1
  rw [hb.steps] at h2
  exact (List.nodup_append.mp nd).2.2 y h1 y h2 rfl
theorem depth_pos : ∀ t : Tr, 1 ≤ t.depth
  | .leaf _ => Nat.le_refl _
  | .join w ps => by rw [Tr.depth]; omega
  | .again a b => by rw [Tr.depth]; omega
theorem shp_row {a b : Tr} {xs ys : List Str} (ha : Shp xs a) (hb : Shp ys b) (hx : 1 ≤ xs.length) (hy : 1 ≤ ys.length) : Shp (xs ++ ys) (.join "behind" [a, b]) := by
  refine ⟨?_, ?_, ?_, ?_⟩
  · simp [Tr.told, Tr.tolds, ha.told, hb.told, isJoin]
  · rw [Tr.steps]; simp [Tr.stepss, ha.steps, hb.steps]
  · simp [Tr.apart, Tr.aparts, ha.apart, hb.apart]
  · rw [Tr.depth]
    simp only [Tr.depths]
    have := ha.depth
    have := hb.depth
    rw [List.length_append]
    omega
theorem shp_again {a b : Tr} {xs ys : List Str} (ha : Shp xs a) (hb : Shp ys b) (hx : 1 ≤ xs.length) (hy : 1 ≤ ys.length) (hap : (both a).isEmpty = true) : Shp (xs ++ ys) (.again a b) := by
  refine ⟨?_, ?_, ?_, ?_⟩
  · simp [Tr.told, ha.told, hb.told]
  · rw [Tr.steps, ha.steps, hb.steps]
  · simp [Tr.apart, ha.apart, hb.apart, hap]
  · rw [Tr.depth]
    have := ha.depth
    have := hb.depth
    rw [List.length_append]
    omega
theorem tolds_of : ∀ {ps : List Tr}, (∀ p ∈ ps, p.told = true) → Tr.tolds ps = true
  | [], _ => rfl
  | p :: ps, h => by
    rw [Tr.tolds, h p List.mem_cons_self, tolds_of fun q hq => h q (List.mem_cons_of_mem _ hq)]
    rfl
theorem aparts_of : ∀ {ps : List Tr}, (∀ p ∈ ps, p.apart = true) → Tr.aparts ps = true
  | [], _ => rfl
  | p :: ps, h => by
    rw [Tr.aparts, h p List.mem_cons_self, aparts_of fun q hq => h q (List.mem_cons_of_mem _ hq)]
    rfl
theorem depths_of {n : Nat} : ∀ {ps : List Tr}, (∀ p ∈ ps, p.depth ≤ n) → Tr.depths ps ≤ n
  | [], _ => Nat.zero_le _
  | p :: ps, h => by
    rw [Tr.depths]
    have h1 := h p List.mem_cons_self
    have h2 := depths_of (ps := ps) fun q hq => h q (List.mem_cons_of_mem _ hq)
    omega
theorem GoodNames.part {m : Nat} {xs ys : List Str} (h : GoodNames m xs) (hs : ys.Sublist xs) : GoodNames ys.length ys := ⟨rfl, h.2.1.sublist hs, fun x hx => h.2.2 x (hs.subset hx)⟩
/-! ### slices of names -/
theorem take_names {xs : List Str} {k : Nat} : sliceT none (some (k : Nat)) (sLst xs) = some (sLst (xs.take k)) := by
  show some (T.lst (((xs.map T.str).drop (HT.sIx (xs.map T.str).length 0 none)).take (HT.sIx (xs.map T.str).length (xs.map T.str).length (some (k : Nat)) - HT.sIx (xs.map T.str).length 0 none))) = _
  rw [HT.sIx_none, HT.sIx_nat, List.drop_zero, Nat.sub_zero, sLst, List.map_take]
  by_cases h : k ≤ (xs.map T.str).length
  · rw [Nat.min_eq_left h]
  · rw [Nat.min_eq_right (by omega), List.take_length, List.take_of_length_le (by omega)]
theorem drop_names {xs : List Str} {k : Nat} : sliceT (some (k : Nat)) none (sLst xs) = some (sLst (xs.drop k)) := by
  show some (T.lst (((xs.map T.str).drop (HT.sIx (xs.map T.str).length 0 (some (k : Nat)))).take (HT.sIx (xs.map T.str).length (xs.map T.str).length none - HT.sIx (xs.map T.str).length 0 (some (k : Nat))))) = _
  rw [HT.sIx_none, HT.sIx_nat, sLst, List.map_drop]
  by_cases h : k ≤ (xs.map T.str).length
  · rw [Nat.min_eq_left h, List.take_of_length_le (by rw [List.length_drop]; exact Nat.le_refl _)]
  · rw [Nat.min_eq_right (by omega), Nat.sub_self, List.take_zero, List.drop_of_length_le (by omega)]
theorem mid_names {xs : List Str} {j k : Nat} (hj : j ≤ xs.length) (hk : k ≤ xs.length) : sliceT (some (j : Nat)) (some (k : Nat)) (sLst xs) = some (sLst ((xs.drop j).take (k - j))) := by
  show some (T.lst (((xs.map T.str).drop (HT.sIx (xs.map T.str).length 0 (some (j : Nat)))).take (HT.sIx (xs.map T.str).length (xs.map T.str).length (some (k : Nat)) - HT.sIx (xs.map T.str).length 0 (some (j : Nat))))) = _
  rw [HT.sIx_nat, HT.sIx_nat, List.length_map, Nat.min_eq_left hj, Nat.min_eq_left hk, sLst, List.map_take, List.map_drop]
theorem eq_nilT (neg : Bool) (ps : List Tr) : eqT neg (.lst (ps.map Tr.T)) (.lst []) = some (.bl (if neg then !ps.isEmpty else ps.isEmpty)) := by
  have hd : dataTs (ps.map Tr.T) = some (Tr.dats ps) := by rw [← Ts_map]; exact dats_T ps
  show ((dataTs (ps.map Tr.T)).map PyData.list).bind (fun d => ((dataTs []).map PyData.list).bind fun e => if min d.depth e.depth ≤ 150 then some (T.bl (if neg then !PyData.eqv d e else PyData.eqv d e)) else none) = _
  rw [hd]
  show (if min (PyData.list (Tr.dats ps)).depth (PyData.list []).depth ≤ 150 then some (T.bl (if neg then !PyData.eqv (.list (Tr.dats ps)) (.list []) else PyData.eqv (.list (Tr.dats ps)) (.list []))) else none) = _
  have h1 : (PyData.list []).depth ≤ 150 := by simp [PyData.depth, PyData.depthAll]
  rw [if_pos (by omega)]
  have h2 : PyData.eqv (.list (Tr.dats ps)) (.list []) = ps.isEmpty := by cases ps <;> simp [Tr.dats, PyData.eqv, PyData.eqvAll]
  rw [h2]
end PL

set_option maxHeartbeats 4000000
namespace PL
open PySem L2
/-! T16: _law_shape. -/
section
variable {d : Addr} {n k N : Nat}
theorem Tot.seqR {g h : Rho → M Dr Fl} {ρ : Rho} {P : T → Prop} (hg : Tot d n (g ρ) (fun fl => ∃ t, fl = .rt t ∧ P t)) : Tot d n (seqD g h ρ) (fun fl => ∃ t, fl = .rt t ∧ P t) := by
  refine Tot.bnd hg (fun fl hf => ?_) (k := 0) (Nat.le_refl _)
  obtain ⟨t, rfl, ht⟩ := hf
  exact .ofRet rfl ⟨t, rfl, ht⟩
theorem Tot.nilA {ρ : Rho} : Tot d 0 (aNil ρ : M Dr (List T)) (fun ts => ts = []) := .ofRet rfl rfl
theorem Tot.tup {f : Rho → M Dr (List T)} {ρ : Rho} {P : List T → Prop} (h : Tot d n (f ρ) P) (hl : ∀ ts, P ts → ts.length ≤ 1000) : Tot d n (fTup f ρ) (fun t => ∃ ts, t = .tup ts ∧ P ts) := by
  refine Tot.bnd h (fun ts ht => ?_) (k := 0) (Nat.le_refl _)
  rw [if_pos (by have := hl ts ht; rw [sizeLine_eq]; omega)]
  exact .ofRet rfl ⟨ts, rfl, ht⟩
def JW : List Str := ["behind", "either", "beside", "behind", "either", "beside", "again", "again"]
theorem jw_ok : ∀ s ∈ JW, isJoin s = true ∨ s = "again" := by
  have : JW.all (fun s => isJoin s || decide (s = "again")) = true := by decide +kernel
  intro s hs
  simpa using List.all_eq_true.mp this s hs
/-- what a turn of its own promises -/
def RecOk (d : Addr) (rec : List T → M Dr T) (m : Nat) : Prop := ∀ ys : List Str, 1 ≤ ys.length → ys.length < m → GoodNames ys.length ys → Tot d (cst ys.length) (rec [.raw (.ref d), sLst ys]) (fun t => ∃ tr, t = tr.T ∧ Shp ys tr)
abbrev s8 (d : Addr) (xs : List Str) (x2 x3 x4 x5 x6 x7 : Sl) : Rho := [.fz (.raw (.ref d)), .fz (sLst xs), x2, x3, x4, x5, x6, x7]
theorem rec_call {rec : List T → M Dr T} {m : Nat} (hr : RecOk d rec m) {ρ : Rho} {fa fb : Rho → M Dr T} {ys : List Str} (h1 : fa ρ = ret (.raw (.ref d))) (h2 : fb ρ = ret (sLst ys)) (hl : 1 ≤ ys.length) (hm : ys.length < m) (g : GoodNames ys.length ys) (hN : cst ys.length ≤ N) :
    Tot d N (fCall 2 (aCons fa (aCons fb aNil)) rec ρ) (fun t => ∃ tr, t = tr.T ∧ Shp ys tr) := (Tot.eq (fCall_e (aCons_e h1 (aCons_e h2 aNil_e)) rfl) (hr ys hl hm g)).mono hN fun _ h => h
theorem len_e (xs : List Str) : lenT (sLst xs) = some (.int (xs.length : Nat)) := by show some (T.int ((xs.map T.str).length : Nat)) = _; rw [List.length_map]
/-- again -/
theorem again_tot (c : Cs) {rec : List T → M Dr T} {m : Nat} {xs : List Str} (hr : RecOk d rec m) (hx : GoodNames m xs) (h3 : 3 ≤ m) (h10 : m ≤ 10) {x2 x3 x4 x5 x6 x7 : Sl} :
    Tot d (1 + 5 * cst (m - 1)) (seqD (dSet 3 (xFz (f2 addT (fC (.int 2)) (fCall 2 (aCons (fVar 0) (aCons (f2 subT (f1 lenT (fVar 1)) (fC (.int 2))) aNil)) (F__law_draw c))))) (seqD (dSet 4 (xFz (fCall 2 (aCons (fVar 0) (aCons (fSlice (fVar 1) fNoPart (fPart (fVar 3))) aNil)) rec))) (seqD (dIf (bNot (fB (fCall 1 (aCons (fVar 4) aNil) (F__law_apart c)))) (dSet 4 (xFz (fCall 2 (aCons (fVar 0) (aCons (fSlice (fVar 1) fNoPart (fPart (fVar 3))) aNil)) rec))) (fun ρ => ret (.nx ρ))) (seqD (dIf (bNot (fB (fCall 1 (aCons (fVar 4) aNil) (F__law_apart c)))) (dSet 4 (xFz (fTup (aCons (fC (.str "behind")) (aCons (fTup (aCons (fCall 2 (aCons (fVar 0) (aCons (fSlice (fVar 1) fNoPart (fPart (fC (.int 1)))) aNil)) rec) (aCons (fCall 2 (aCons (fVar 0) (aCons (fSlice (fVar 1) (fPart (fC (.int 1))) (fPart (fVar 3))) aNil)) rec) aNil))) aNil))))) (fun ρ => ret (.nx ρ))) (dRet (fTup (aCons (fC (.str "again")) (aCons (fVar 4) (aCons (fCall 2 (aCons (fVar 0) (aCons (fSlice (fVar 1) (fPart (fVar 3)) fNoPart) aNil)) rec) aNil)))))))) (s8 d xs x2 x3 x4 x5 x6 x7))
    (fun fl => ∃ t, fl = .rt t ∧ ∃ tr, t = Tr.T tr ∧ Shp xs tr) := by
  have hlen := hx.1
  -- the edge
  refine Tot.seq (n := 1) (k := 5 * cst (m - 1)) (P := fun ρ => ∃ e : Nat, 2 ≤ e ∧ e < m ∧ ρ = s8 d xs x2 (.fz (.int (e : Nat))) x4 x5 x6 x7) ?_ (fun ρ hρ => ?_) (Nat.le_refl _)
  · refine (Tot.set (Tot.f2 (n := 0) (k := 1) (R := fun t => ∃ e : Nat, 2 ≤ e ∧ e < m ∧ t = .int (e : Nat)) (P := fun t => t = .int 2) (.val rfl) (draw_call c (k := (m : Nat) - 2) rfl (f2_e (f1_e (t := sLst xs) rfl (len_e xs)) rfl (by rw [hlen]; rfl)) (by omega) (by omega)) (fun t u ht hu => ?_) (Nat.le_refl _))).mono (Nat.le_refl _) (nx_set fun t ht => ?_)
    · obtain ⟨i, rfl, h1, h2⟩ := hu
      subst ht
      refine ⟨.int (2 + i), rfl, (2 + i).toNat, by omega, by omega, ?_⟩
      congr 1
      omega
    · obtain ⟨e, h1, h2, rfl⟩ := ht
      exact ⟨e, h1, h2, rfl⟩
  obtain ⟨e, he2, hem, rfl⟩ := hρ
  have hte : (xs.take e).length = e := by rw [List.length_take]; omega
  have hde : (xs.drop e).length = m - e := by rw [List.length_drop]; omega
  have gt : GoodNames (xs.take e).length (xs.take e) := hx.part (List.take_sublist e xs)
  have gd : GoodNames (xs.drop e).length (xs.drop e) := hx.part (List.drop_sublist e xs)
  have body : ∀ x4, Tot d (cst (m - 1)) (dSet 4 (xFz (fCall 2 (aCons (fVar 0) (aCons (fSlice (fVar 1) fNoPart (fPart (fVar 3))) aNil)) rec)) (s8 d xs x2 (.fz (.int (e : Nat))) x4 x5 x6 x7)) (Nx fun ρ => ∃ tr : Tr, Shp (xs.take e) tr ∧ ρ = s8 d xs x2 (.fz (.int (e : Nat))) (.fz tr.T) x5 x6 x7) := fun x4 =>
    (Tot.set (rec_call hr (ys := xs.take e) (N := cst (m - 1)) rfl (fSlice_e (t := sLst xs) rfl rfl (fPart_e rfl) take_names) (by omega) (by omega) gt (cst_le (by omega)))).mono (Nat.le_refl _) (nx_set fun t ht => by
      obtain ⟨tr, rfl, h⟩ := ht
      exact ⟨tr, h, rfl⟩)
  refine Tot.seq (n := cst (m - 1)) (k := 4 * cst (m - 1)) (body x4) (fun ρ hρ => ?_) (by omega)
  obtain ⟨tr, ht, rfl⟩ := hρ
  have test : ∀ tr : Tr, Shp (xs.take e) tr → (bNot (fB (fCall 1 (aCons (fVar 4) aNil) (F__law_apart c))) (s8 d xs x2 (.fz (.int (e : Nat))) (.fz tr.T) x5 x6 x7) : M Dr Bool) = ret (!(both tr).isEmpty) := fun tr h =>
    bNot_e (fB_e ((fCall_e (aCons_e (t := tr.T) rfl aNil_e) rfl).trans (F__law_apart_e c tr (by have := h.depth; omega) h.told (by rw [h.steps]; omega))))
  refine Tot.seq (n := cst (m - 1)) (k := 3 * cst (m - 1)) (P := fun ρ => ∃ tr : Tr, Shp (xs.take e) tr ∧ ρ = s8 d xs x2 (.fz (.int (e : Nat))) (.fz tr.T) x5 x6 x7) ?_ (fun ρ hρ => ?_) (by omega)
  · exact Tot.iff_ (n := 0) (k := cst (m - 1)) (P := fun _ => True) (.ofRet (test tr ht) trivial) (fun _ => body _) (fun _ => .ofRet rfl ⟨_, rfl, tr, ht, rfl⟩) (by omega)
  clear ht
  obtain ⟨tr, ht, rfl⟩ := hρ
  refine Tot.seq (n := 2 * cst (m - 1)) (k := cst (m - 1)) (P := fun ρ => ∃ tr : Tr, (Shp (xs.take e) tr ∧ (both tr).isEmpty = true) ∧ ρ = s8 d xs x2 (.fz (.int (e : Nat))) (.fz tr.T) x5 x6 x7) ?_ (fun ρ hρ => ?_) (by omega)
  · refine Tot.iff_ (n := 0) (k := 2 * cst (m - 1)) (P := fun b => b = !(both tr).isEmpty) (.ofRet (test tr ht) rfl) (fun _ => ?_) (fun hb => .ofRet rfl ⟨_, rfl, tr, ⟨ht, by simpa using hb⟩, rfl⟩) (by omega)
    have h1 : (xs.take 1).length = 1 := by rw [List.length_take]; omega
    have h2 : ((xs.drop 1).take (e - 1)).length = e - 1 := by rw [List.length_take, List.length_drop]; omega
    have r1 := rec_call hr (ρ := s8 d xs x2 (.fz (.int (e : Nat))) (.fz tr.T) x5 x6 x7) (fa := fVar 0) (fb := fSlice (fVar 1) fNoPart (fPart (fC (.int 1)))) (ys := xs.take 1) (N := cst (m - 1)) rfl (fSlice_e (t := sLst xs) rfl rfl (fPart_e rfl) (take_names (k := 1))) (by omega) (by omega) (hx.part (List.take_sublist 1 xs)) (cst_le (by omega))
    have r2 := rec_call hr (ρ := s8 d xs x2 (.fz (.int (e : Nat))) (.fz tr.T) x5 x6 x7) (fa := fVar 0) (fb := fSlice (fVar 1) (fPart (fC (.int 1))) (fPart (fVar 3))) (ys := (xs.drop 1).take (e - 1)) (N := cst (m - 1)) rfl (fSlice_e (t := sLst xs) rfl (fPart_e rfl) (fPart_e rfl) (mid_names (j := 1) (by omega) (by omega))) (by omega) (by omega) (hx.part ((List.take_sublist _ _).trans (List.drop_sublist _ _))) (cst_le (by omega))
    have inner := Tot.tup (Tot.cons r1 (Tot.cons r2 .nilA (Nat.le_refl _)) (Nat.le_refl _)) (fun ts h => by
      obtain ⟨t, us, rfl, _, t2, us2, rfl, _, rfl⟩ := h
      simp)
    refine (Tot.set (Tot.tup (Tot.cons (n := 0) (P := fun t => t = .str "behind") (.val rfl) (Tot.cons inner .nilA (Nat.le_refl _)) (Nat.le_refl _)) (fun ts h => by
      obtain ⟨t, us, rfl, _, t2, us2, rfl, _, rfl⟩ := h
      simp))).mono (by omega) (nx_set fun t h => ?_)
    obtain ⟨ts, rfl, t1, us, rfl, rfl, t2, us2, rfl, ⟨ts3, rfl, t4, us4, rfl, ⟨a, rfl, ha⟩, t5, us5, rfl, ⟨b, rfl, hb⟩, rfl⟩, rfl⟩ := h
    have hsplit : xs.take 1 ++ (xs.drop 1).take (e - 1) = xs.take e := by
      obtain ⟨e', rfl⟩ : ∃ e', e = e' + 1 := ⟨e - 1, by omega⟩
      cases xs with
      | nil => simp at hlen; omega
      | cons x r => simp
    refine ⟨.join "behind" [a, b], ⟨?_, both_row ha hb (by rw [hsplit]; exact hx.2.1.sublist (List.take_sublist _ _))⟩, ?_⟩
    · have := shp_row ha hb (by omega) (by omega)
      rw [hsplit] at this
      exact this
    · rfl
  clear ht
  obtain ⟨tr, ⟨ht, hap⟩, rfl⟩ := hρ
  have r3 := rec_call hr (ρ := s8 d xs x2 (.fz (.int (e : Nat))) (.fz tr.T) x5 x6 x7) (fa := fVar 0) (fb := fSlice (fVar 1) (fPart (fVar 3)) fNoPart) (ys := xs.drop e) (N := cst (m - 1)) rfl (fSlice_e (t := sLst xs) rfl (fPart_e rfl) rfl drop_names) (by omega) (by omega) gd (cst_le (by omega))
  refine (Tot.rt (Tot.tup (Tot.cons (n := 0) (P := fun t => t = .str "again") (.val rfl) (Tot.cons (n := 0) (P := fun t => t = tr.T) (.val rfl) (Tot.cons r3 .nilA (Nat.le_refl _)) (Nat.le_refl _)) (Nat.le_refl _)) (fun ts h => by
    obtain ⟨t, us, rfl, _, t2, us2, rfl, _, t3, us3, rfl, _, rfl⟩ := h
    simp))).mono (by omega) fun fl h => ?_
  obtain ⟨t, rfl, ts, rfl, t1, us, rfl, rfl, t2, us2, rfl, rfl, t3, us3, rfl, ⟨b, rfl, hb⟩, rfl⟩ := h
  refine ⟨_, rfl, .again tr b, by rw [Tr.T], ?_⟩
  have := shp_again ht hb (by omega) (by omega) hap
  rw [List.take_append_drop] at this
  exact this
end
end PL

set_option maxHeartbeats 4000000
namespace PL
open PySem L2
/-! T17: _law_shape's row of parts, and all of it. -/
section
variable {d : Addr} {n k N : Nat}
theorem stepss_append (ps : List Tr) (q : Tr) : Tr.stepss (ps ++ [q]) = Tr.stepss ps ++ q.steps := by
  rw [stepss_flat, stepss_flat, List.flatMap_append]
  simp
/-- the parts so far, what is left -/
structure Cut (m : Nat) (xs : List Str) (ps : List Tr) (left : List Str) : Prop where
  all : Tr.stepss ps ++ left = xs
  told : ∀ p ∈ ps, p.told = true
  apart : ∀ p ∈ ps, p.apart = true
  depth : ∀ p ∈ ps, p.depth ≤ m - 1
  short : ∀ p ∈ ps, p.steps.length ≤ m - 1
theorem row_tot (c : Cs) {rec : List T → M Dr T} {m : Nat} {xs : List Str} {w : Str} (hr : RecOk d rec m) (hx : GoodNames m xs) (h2 : 2 ≤ m) (h10 : m ≤ 10) (hj : isJoin w = true) {x3 x4 x5 x6 x7 : Sl} :
    Tot d (m * (1 + cst (m - 1))) (seqD (dPar 5 6 (xOw (fLst aNil)) (xFz (asL (f1l itemsT (fVar 1))))) (seqD (dWhile (fB (f2 (eqT true) (fVar 6) (asL (fLst aNil)))) (seqD (dSet 7 (xFz (f2 addT (fC (.int 1)) (fCall 2 (aCons (fVar 0) (aCons (f2 subT (f1 lenT (fVar 6)) (f1 toInt (f2 (eqT false) (fVarS 5) (asL (fLst aNil))))) aNil)) (F__law_draw c))))) (seqD (dAppend 5 (fCall 2 (aCons (fVar 0) (aCons (fSlice (fVar 6) fNoPart (fPart (fVar 7))) aNil)) rec)) (dSet 6 (xFz (fSlice (fVar 6) (fPart (fVar 7)) fNoPart)))))) (fun ρ => (dRet (fTup (aCons (fVar 2) (aCons (f1 tupT (fVar 5)) aNil)))) (frzAt 5 ρ))) (s8 d xs (.fz (.str w)) x3 x4 x5 x6 x7))
    (fun fl => ∃ t, fl = .rt t ∧ ∃ tr, t = Tr.T tr ∧ Shp xs tr) := by
  have hlen := hx.1
  have e1 : (dPar 5 6 (xOw (fLst aNil)) (xFz (asL (f1l itemsT (fVar 1)))) (s8 d xs (.fz (.str w)) x3 x4 x5 x6 x7) : M Dr Fl) = ret (.nx (s8 d xs (.fz (.str w)) x3 x4 (.ow []) (.fz (sLst xs)) x7)) := by
    unfold dPar
    show bnd (bnd (fLst aNil _) _) _ = _
    rw [fLst_e aNil_e (by simp), ret_bnd, ret_bnd, xFz_e (t := sLst xs) (asL_e (f1l_e (t := sLst xs) rfl rfl)), ret_bnd]
    rfl
  refine Tot.eq (seq_nx e1) ?_
  refine Tot.seq (n := m * (1 + cst (m - 1))) (k := 0) (P := fun ρ => ∃ (ps : List Tr) (left : List Str) (x7 : Sl), ρ = s8 d xs (.fz (.str w)) x3 x4 (.ow (ps.map Tr.T)) (.fz (sLst left)) x7 ∧ left.length = 0 ∧ Cut m xs ps left) ?_ (fun ρ hρ => ?_) (Nat.le_refl _)
  case refine_2 =>
    obtain ⟨ps, left, y7, rfl, hl0, hc⟩ := hρ
    have hl : left = [] := List.length_eq_zero_iff.mp hl0
    subst hl
    have hall := hc.all
    rw [List.append_nil] at hall
    have h2ps : 2 ≤ ps.length := by
      match ps, hall, hc with
      | [], hall, _ => rw [Tr.stepss] at hall; subst hall; simp at hlen; omega
      | [p], hall, hc =>
        have := hc.short p List.mem_cons_self
        rw [Tr.stepss, Tr.stepss, List.append_nil] at hall
        rw [hall, hlen] at this
        omega
      | _ :: _ :: _, _, _ => simp
    have hpl : ps.length ≤ 10 := by
      have := stepss_pos ps (tolds_of hc.told)
      rw [hall, hlen] at this
      omega
    refine .ofRet (dRet_e (t := (Tr.join w ps).T) ?_) ⟨_, rfl, .join w ps, rfl, ?_, ?_, ?_, ?_⟩
    · show fTup (aCons (fVar 2) (aCons (f1 tupT (fVar 5)) aNil)) (s8 d xs (.fz (.str w)) x3 x4 (.fz (.lst (ps.map Tr.T))) (.fz (sLst [])) y7) = _
      rw [fTup_e (ts := [.str w, .tup (ps.map Tr.T)]) (aCons_e rfl (aCons_e (f1_e (t := .lst (ps.map Tr.T)) rfl rfl) aNil_e)) (by simp), Tr.T, Ts_map]
    · rw [Tr.told, hj, decide_eq_true h2ps, tolds_of hc.told]; rfl
    · rw [Tr.steps]; exact hall
    · rw [Tr.apart]; exact aparts_of hc.apart
    · rw [Tr.depth]
      have := depths_of hc.depth
      omega
  refine Tot.mono (Tot.whl (n := 1 + cst (m - 1)) (fun j ρ => ∃ (ps : List Tr) (left : List Str) (x7 : Sl), ρ = s8 d xs (.fz (.str w)) x3 x4 (.ow (ps.map Tr.T)) (.fz (sLst left)) x7 ∧ left.length = j ∧ Cut m xs ps left) ?hc ?step m _ ⟨[], xs, x7, rfl, hlen, ⟨by rfl, fun _ h => (nomatch h), fun _ h => (nomatch h), fun _ h => (nomatch h), fun _ h => (nomatch h)⟩⟩) (Nat.le_refl _) (fun fl hf => hf)
  case hc =>
    rintro j ρ ⟨ps, left, y7, rfl, hl, hc⟩
    refine fB_e (f2_e (t := sLst left) rfl lst_nil ?_)
    rw [show sLst [] = T.lst [] from rfl, eq_nil, if_pos rfl]
    congr 2
    subst hl
    cases left <;> simp
  case step =>
    rintro j ρ hj0 ⟨ps, left, y7, rfl, hl, hc⟩
    have hpl : ps.length ≤ 10 := by
      have := stepss_pos ps (tolds_of hc.told)
      have h := congrArg List.length hc.all
      rw [List.length_append, hlen] at h
      omega
    have hjm : j ≤ m := by
      have h := congrArg List.length hc.all
      rw [List.length_append, hlen] at h
      omega
    have hempty : ps = [] → j = m := fun e => by
      have h := congrArg List.length hc.all
      rw [e, Tr.stepss, List.nil_append] at h
      omega
    have hfull : ps ≠ [] → j ≤ m - 1 := fun e => by
      have h := congrArg List.length hc.all
      rw [List.length_append, hlen] at h
      have := stepss_pos ps (tolds_of hc.told)
      have : 0 < ps.length := List.length_pos_iff.mpr e
      omega
    have hdraw : (f2 subT (f1 lenT (fVar 6)) (f1 toInt (f2 (eqT false) (fVarS 5) (asL (fLst aNil)))) (s8 d xs (.fz (.str w)) x3 x4 (.ow (ps.map Tr.T)) (.fz (sLst left)) y7) : M Dr T) = ret (.int ((j : Nat) - (if ps.isEmpty then 1 else 0))) := by
      refine f2_e (f1_e (t := sLst left) rfl (len_e left)) (f1_e (t := .bl ps.isEmpty) (f2_e (t := .lst (ps.map Tr.T)) rfl lst_nil (by rw [show sLst [] = T.lst [] from rfl, eq_nilT]; rfl)) rfl) ?_
      rw [hl]
      rfl
    refine Tot.seq (n := 1) (k := cst (m - 1)) (P := fun ρ => ∃ s : Nat, 1 ≤ s ∧ s ≤ j ∧ s ≤ m - 1 ∧ ρ = s8 d xs (.fz (.str w)) x3 x4 (.ow (ps.map Tr.T)) (.fz (sLst left)) (.fz (.int (s : Nat)))) ?_ (fun ρ hρ => ?_) (Nat.le_refl _)
    · refine (Tot.set (Tot.f2 (n := 0) (k := 1) (R := fun t => ∃ s : Nat, 1 ≤ s ∧ s ≤ j ∧ s ≤ m - 1 ∧ t = .int (s : Nat)) (P := fun t => t = .int 1) (.val rfl) (draw_call c (k := (j : Nat) - (if ps.isEmpty then 1 else 0)) rfl hdraw ?_ ?_) (fun t u ht hu => ?_) (Nat.le_refl _))).mono (Nat.le_refl _) (nx_set fun t ht => ?_)
      · cases ps with
        | nil => have := hempty rfl; simp; omega
        | cons p r => simp; omega
      · split <;> omega
      · obtain ⟨i, rfl, h1, h2⟩ := hu
        subst ht
        refine ⟨.int (1 + i), rfl, (1 + i).toNat, by omega, ?_, ?_, ?_⟩
        · split at h2 <;> omega
        · cases ps with
          | nil => have := hempty rfl; simp at h2; omega
          | cons p r => have := hfull (by simp); simp at h2; omega
        · congr 1
          omega
      · obtain ⟨s, h1, h2, h3, rfl⟩ := ht
        exact ⟨s, h1, h2, h3, rfl⟩
    obtain ⟨s, hs1, hsj, hsm, rfl⟩ := hρ
    have hts : (left.take s).length = s := by rw [List.length_take]; omega
    have hsub : left.Sublist xs := by rw [← hc.all]; exact List.sublist_append_right _ _
    have r1 := rec_call hr (ρ := s8 d xs (.fz (.str w)) x3 x4 (.ow (ps.map Tr.T)) (.fz (sLst left)) (.fz (.int (s : Nat)))) (fa := fVar 0) (fb := fSlice (fVar 6) fNoPart (fPart (fVar 7))) (ys := left.take s) (N := cst (m - 1)) rfl (fSlice_e (t := sLst left) rfl rfl (fPart_e rfl) take_names) (by omega) (by omega) (hx.part ((List.take_sublist _ _).trans hsub)) (cst_le (by omega))
    refine Tot.seq (n := cst (m - 1)) (k := 0) (P := fun ρ => ∃ tr : Tr, Shp (left.take s) tr ∧ ρ = s8 d xs (.fz (.str w)) x3 x4 (.ow ((ps ++ [tr]).map Tr.T)) (.fz (sLst left)) (.fz (.int (s : Nat)))) ?_ (fun ρ hρ => ?_) (Nat.le_refl _)
    · show Tot d _ (PL.bnd (fCall 2 (aCons (fVar 0) (aCons (fSlice (fVar 6) fNoPart (fPart (fVar 7))) aNil)) rec _) _) _
      refine Tot.bnd r1 (fun t ht => ?_) (k := 0) (Nat.le_refl _)
      obtain ⟨tr, rfl, h⟩ := ht
      rw [if_pos (by rw [List.length_map, sizeLine_eq]; omega)]
      refine .ofRet rfl ⟨_, rfl, tr, h, ?_⟩
      rw [s8, s8, List.map_append]
      rfl
    obtain ⟨tr, ht, rfl⟩ := hρ
    refine .ofRet (dSet_e (xFz_e (fSlice_e (t := sLst left) rfl (fPart_e (i := (s : Nat)) rfl) rfl drop_names))) ⟨_, left.length - s, rfl, by omega, ps ++ [tr], left.drop s, _, rfl, by rw [List.length_drop], ?_⟩
    have one : ∀ p ∈ ps ++ [tr], p ∈ ps ∨ p = tr := fun p hp => by
      rcases List.mem_append.mp hp with h | h
      · exact .inl h
      · exact .inr (List.mem_singleton.mp h)
    refine ⟨?_, fun p hp => ?_, fun p hp => ?_, fun p hp => ?_, fun p hp => ?_⟩
    · rw [stepss_append, ht.steps, List.append_assoc, List.take_append_drop]
      exact hc.all
    · rcases one p hp with h | rfl
      · exact hc.told p h
      · exact ht.told
    · rcases one p hp with h | rfl
      · exact hc.apart p h
      · exact ht.apart
    · rcases one p hp with h | rfl
      · exact hc.depth p h
      · have := ht.depth; omega
    · rcases one p hp with h | rfl
      · exact hc.short p h
      · rw [ht.steps]; omega
theorem shape_tot (c : Cs) : ∀ (n m : Nat) (xs : List Str), 1 ≤ m → m ≤ n → m ≤ 10 → GoodNames m xs → Tot d (cst m) (F__law_shape c n [.raw (.ref d), sLst xs]) (fun t => ∃ tr, t = tr.T ∧ Shp xs tr)
  | 0, m, xs, h1, h2, _, _ => by omega
  | n + 1, m, xs, h1, h2, h10, hx => by
    have hlen := hx.1
    have hr : RecOk d (F__law_shape c n) m := fun ys hy hm g => shape_tot c n ys.length ys hy (by omega) (by omega) g
    show Tot d _ (run 6 (g__law_shape c (F__law_shape c n)) _) _
    refine Tot.run ?_
    show Tot d _ (g__law_shape c (F__law_shape c n) (s8 d xs .un .un .un .un .un .un)) _
    unfold g__law_shape
    have t1 : (fB (f2 (eqT false) (f1 lenT (fVar 1)) (fC (.int 1))) (s8 d xs .un .un .un .un .un .un) : M Dr Bool) = ret ((m : Int) == 1) := fB_e (f2_e (f1_e (t := sLst xs) rfl (len_e xs)) rfl (by rw [hlen, eq_int]; rfl))
    by_cases hm1 : m = 1
    · subst hm1
      refine Tot.seqR (Tot.eq (dIf_t t1) (Tot.rt ?_))
      match xs, hlen, hx with
      | [x], _, hx =>
        refine .ofRet (f2_e (t := sLst [x]) (u := .int 0) (v := .str x) rfl rfl rfl) ⟨.leaf x, by rw [Tr.T], ?_, by rw [Tr.steps], rfl, by rw [Tr.depth]; simp⟩
        rw [Tr.told]
        exact hx.2.2 x List.mem_cons_self
    · obtain ⟨m', rfl⟩ : ∃ m', m = m' + 2 := ⟨m - 2, by omega⟩
      have hc : 1 + (1 + 5 * cst (m' + 1)) ≤ cst (m' + 2) := by
        show _ ≤ 10 + (m' + 1 + 1) * (cst (m' + 1) + 1) + 5 * cst (m' + 1)
        omega
      have hc2 : 1 + (m' + 2) * (1 + cst (m' + 1)) ≤ cst (m' + 2) := by
        show _ ≤ 10 + (m' + 2) * (cst (m' + 1) + 1) + 5 * cst (m' + 1)
        rw [Nat.add_comm 1 (cst (m' + 1))]
        omega
      refine Tot.eq (seq_nx (dIf_f (t1.trans (by rw [show (((m' + 2 : Nat) : Int) == 1) = false by simp; omega])))) ?_
      refine Tot.seq (n := 1) (k := cst (m' + 2) - 1) (P := fun ρ => ∃ w ∈ JW, ρ = s8 d xs (.fz (.str w)) .un .un .un .un .un) ?_ (fun ρ hρ => ?_) (by omega)
      · refine (Tot.set (Tot.eq (fCall_e (ts := [.raw (.ref d), .lst (JW.map T.str)]) (aCons_e rfl (aCons_e (asL_e (fLst_e (ts := JW.map T.str) rfl (by simp [JW]))) aNil_e)) rfl) (pick_lst c (by simp [JW]) (by simp [JW])))).mono (Nat.le_refl _) (nx_set fun u hu => ?_)
        obtain ⟨w, hw, rfl⟩ := List.mem_map.mp hu
        exact ⟨w, hw, rfl⟩
      obtain ⟨w, hw, rfl⟩ := hρ
      have ta : (fB (f2 (eqT false) (fVar 2) (fC (.str "again"))) (s8 d xs (.fz (.str w)) .un .un .un .un .un) : M Dr Bool) = ret (w == "again") := fB_e (f2_e (t := .str w) rfl rfl (by rw [eq_str]; rfl))
      have tb : (fB (f2 (ltT fun i j => decide (j < i)) (f1 lenT (fVar 1)) (fC (.int 2))) (s8 d xs (.fz (.str w)) .un .un .un .un .un) : M Dr Bool) = ret (decide (0 < m')) := fB_e (f2_e (f1_e (t := sLst xs) rfl (len_e xs)) rfl (by rw [hlen]; show some (T.bl (decide ((2 : Int) < ((m' + 2 : Nat) : Int)))) = _; congr 2; exact decide_eq_decide.mpr (by omega)))
      by_cases hag : w = "again" ∧ 0 < m'
      · obtain ⟨rfl, hm'⟩ := hag
        refine Tot.seqR (Tot.eq (dIf_t ((bAnd_t (ta.trans (by simp))).trans (tb.trans (by rw [decide_eq_true hm'])))) ((again_tot c hr hx (by omega) h10).mono (by rw [show m' + 2 - 1 = m' + 1 from rfl]; omega) fun _ h => h))
      · have tn : (bAnd (fB (f2 (eqT false) (fVar 2) (fC (.str "again")))) (fB (f2 (ltT fun i j => decide (j < i)) (f1 lenT (fVar 1)) (fC (.int 2)))) (s8 d xs (.fz (.str w)) .un .un .un .un .un) : M Dr Bool) = ret false := by
          by_cases e : w = "again"
          · subst e
            exact (bAnd_t (ta.trans (by simp))).trans (tb.trans (by rw [decide_eq_false (fun h => hag ⟨rfl, h⟩)]))
          · exact bAnd_f (ta.trans (by rw [show (w == ("again" : Str)) = false by simpa using e]))
        refine Tot.eq (seq_nx (dIf_f tn)) ?_
        obtain ⟨y, hy, ey⟩ : ∃ y, isJoin y = true ∧ (dSet 2 (xFz (fIf (fB (f2 (eqT false) (fVar 2) (fC (.str "again")))) (fC (.str "behind")) (fVar 2))) (s8 d xs (.fz (.str w)) .un .un .un .un .un) : M Dr Fl) = ret (.nx (s8 d xs (.fz (.str y)) .un .un .un .un .un)) := by
          by_cases e : w = "again"
          · subst e
            exact ⟨"behind", by decide +kernel, dSet_e (xFz_e ((fIf_t (ta.trans (by simp))).trans rfl))⟩
          · refine ⟨w, ?_, dSet_e (xFz_e ((fIf_f (ta.trans (by rw [show (w == ("again" : Str)) = false by simpa using e]))).trans rfl))⟩
            rcases jw_ok w hw with h | h
            · exact h
            · exact absurd h e
        refine Tot.eq (seq_nx ey) ?_
        exact (row_tot c hr hx (by omega) h10 hy).mono (by rw [show m' + 2 - 1 = m' + 1 from rfl]; omega) fun _ h => h
end
end PL

set_option maxHeartbeats 4000000
namespace PL
open PySem L2
/-! U1: plain forms of trees; the least step. -/
def kl (s : Str) : List Nat := s.cps.toList
theorem kl_inj {a b : Str} (h : kl a = kl b) : a = b := PySem.W.str_of_cps h
theorem kl_le_of {a b : Str} (h : ¬ kl a < kl b) : kl b ≤ kl a := h
theorem kl_anti {a b : Str} (h1 : kl a ≤ kl b) (h2 : kl b ≤ kl a) : a = b := kl_inj (List.le_antisymm h1 h2)
def leastOf : List Str → Str
  | [] => ⟨#[]⟩
  | x :: xs => xs.foldl (fun a y => if kl y < kl a then y else a) x
theorem fold_least : ∀ (xs : List Str) (x : Str), (xs.foldl (fun a y => if kl y < kl a then y else a) x) ∈ x :: xs ∧ ∀ s ∈ x :: xs, kl (xs.foldl (fun a y => if kl y < kl a then y else a) x) ≤ kl s
  | [], x => ⟨List.mem_cons_self, fun s hs => by
    rcases List.mem_cons.mp hs with rfl | hs
    · exact List.le_refl _
    · cases hs⟩
  | y :: ys, x => by
    rw [List.foldl_cons]
    by_cases h : kl y < kl x
    · rw [if_pos h]
      obtain ⟨h1, h2⟩ := fold_least ys y
      refine ⟨List.mem_cons_of_mem _ h1, fun s hs => ?_⟩
      rcases List.mem_cons.mp hs with rfl | hs
      · exact List.le_trans (h2 y List.mem_cons_self) (List.le_of_lt h)
      · exact h2 s hs
    · rw [if_neg h]
      obtain ⟨h1, h2⟩ := fold_least ys x
      refine ⟨?_, fun s hs => ?_⟩
      · rcases List.mem_cons.mp h1 with h1 | h1
        · rw [h1]; exact List.mem_cons_self
        · exact List.mem_cons_of_mem _ (List.mem_cons_of_mem _ h1)
      · rcases List.mem_cons.mp hs with rfl | hs
        · exact h2 _ List.mem_cons_self
        · rcases List.mem_cons.mp hs with rfl | hs
          · exact List.le_trans (h2 x List.mem_cons_self) (kl_le_of h)
          · exact h2 s (List.mem_cons_of_mem _ hs)
theorem leastOf_mem {xs : List Str} (h : xs ≠ []) : leastOf xs ∈ xs := by
  cases xs with
  | nil => exact absurd rfl h
  | cons x xs => exact (fold_least xs x).1
theorem leastOf_le {xs : List Str} {s : Str} (h : s ∈ xs) : kl (leastOf xs) ≤ kl s := by
  cases xs with
  | nil => cases h
  | cons x xs => exact (fold_least xs x).2 s h
theorem leastOf_perm {xs ys : List Str} (p : xs.Perm ys) : leastOf xs = leastOf ys := by
  by_cases h : xs = []
  · subst h
    rw [p.nil_eq]
  · have h' : ys ≠ [] := fun z => h (by subst z; exact p.eq_nil)
    exact kl_anti (leastOf_le (p.mem_iff.mpr (leastOf_mem h'))) (leastOf_le (p.mem_iff.mp (leastOf_mem h)))
theorem minT_strs {xs : List Str} (h : xs ≠ []) : minT (sLst xs) = some (.str (leastOf xs)) := by
  have hal : alikeB (xs.map PyData.str) = true := by
    unfold alikeB
    simp only [Bool.and_eq_true, List.all_eq_true, decide_eq_true_eq]
    refine ⟨⟨fun d hd e he => ?_, fun d hd => ?_⟩, ?_⟩
    · obtain ⟨a, _, rfl⟩ := List.mem_map.mp hd
      obtain ⟨b, _, rfl⟩ := List.mem_map.mp he
      simp [PySem.W.alike]
    · obtain ⟨a, _, rfl⟩ := List.mem_map.mp hd
      rfl
    · have : ∀ l : List Str, PyData.depthAll (l.map PyData.str) ≤ 1 := fun l => by
        induction l with
        | nil => simp [PyData.depthAll]
        | cons a l ih =>
          simp only [List.map_cons, PyData.depthAll, PyData.depth]
          omega
      have := this xs
      omega
  show ((dataTs (xs.map T.str)).bind fun ds => if alikeB ds = true then bestT PySem.W.dataLt (xs.map T.str) else none) = _
  rw [dataTs_strs]
  show (if alikeB (xs.map PyData.str) = true then _ else none) = _
  rw [if_pos hal]
  cases xs with
  | nil => exact absurd rfl h
  | cons x xs =>
    show some ((xs.map T.str).foldl (fun a y => if PySem.W.dataLt (dat y) (dat a) = true then y else a) (.str x)) = _
    have : ∀ (l : List Str) (a : Str), (l.map T.str).foldl (fun a y => if PySem.W.dataLt (dat y) (dat a) = true then y else a) (.str a) = .str (l.foldl (fun a y => if kl y < kl a then y else a) a) := fun l => by
      induction l with
      | nil => intro a; rfl
      | cons b l ih =>
        intro a
        rw [List.map_cons, List.foldl_cons, List.foldl_cons]
        have e : PySem.W.dataLt (dat (.str b)) (dat (.str a)) = decide (kl b < kl a) := PySem.W.dataLt_str b a
        rw [e]
        by_cases hb : kl b < kl a
        · rw [if_pos (decide_eq_true hb), if_pos hb]; exact ih b
        · rw [if_neg (by simpa using hb), if_neg hb]; exact ih a
    rw [this]
    rfl
/-! ### plain trees -/
def least (t : Tr) : Str := leastOf t.steps
def ex (w : Str) : Tr → List Tr
  | .join v qs => if v == w then qs else [.join v qs]
  | t => [t]
def exs (w : Str) (ps : List Tr) : List Tr := ps.flatMap (ex w)
def leT (a b : Tr) : Bool := decide (kl (least a) ≤ kl (least b))
def sortL (ps : List Tr) : List Tr := ps.mergeSort leT
def flatT (w : Str) (ps : List Tr) : Tr := .join w (if w == "behind" then exs w ps else sortL (exs w ps))
def upT (p q : Tr) : Tr := match p with
  | .again x y => .again x (flatT "either" [y, q])
  | p => .again p q
mutual
def plainT : Tr → Tr
  | .leaf s => .leaf s
  | .join w ps => flatT w (plainTs ps)
  | .again a b => upT (plainT a) (plainT b)
def plainTs : List Tr → List Tr
  | [] => []
  | t :: ts => plainT t :: plainTs ts
end
theorem plainTs_map : ∀ ps : List Tr, plainTs ps = ps.map plainT
  | [] => rfl
  | t :: ts => by rw [plainTs, plainTs_map ts]; rfl
theorem leT_trans (a b c : Tr) (h1 : leT a b = true) (h2 : leT b c = true) : leT a c = true := by
  unfold leT at *
  rw [decide_eq_true_eq] at *
  exact List.le_trans h1 h2
theorem leT_total (a b : Tr) : (leT a b || leT b a) = true := by
  unfold leT
  rw [Bool.or_eq_true, decide_eq_true_eq, decide_eq_true_eq]
  exact List.le_total _ _
theorem sortL_perm (ps : List Tr) : (sortL ps).Perm ps := List.mergeSort_perm _ _
theorem sortL_sorted (ps : List Tr) : (sortL ps).Pairwise (fun a b => leT a b = true) := List.pairwise_mergeSort leT_trans leT_total ps
theorem ex_steps (w : Str) (t : Tr) : Tr.stepss (ex w t) = t.steps := by
  cases t with
  | join v qs =>
    show Tr.stepss (if (v == w) = true then qs else [.join v qs]) = _
    split
    · rw [Tr.steps]
    · simp [Tr.stepss]
  | leaf s => show Tr.stepss [.leaf s] = _; simp [Tr.stepss]
  | again a b => show Tr.stepss [.again a b] = _; simp [Tr.stepss]
theorem stepss_app (ps qs : List Tr) : Tr.stepss (ps ++ qs) = Tr.stepss ps ++ Tr.stepss qs := by
  rw [stepss_flat, stepss_flat, stepss_flat, List.flatMap_append]
theorem exs_steps (w : Str) : ∀ ps : List Tr, Tr.stepss (exs w ps) = Tr.stepss ps
  | [] => rfl
  | p :: ps => by
    unfold exs
    rw [List.flatMap_cons, stepss_app, ex_steps, Tr.stepss]
    exact congrArg _ (exs_steps w ps)
theorem stepss_perm {ps qs : List Tr} (h : ps.Perm qs) : (Tr.stepss ps).Perm (Tr.stepss qs) := by
  rw [stepss_flat, stepss_flat]
  exact h.flatMap_right _
theorem flat_steps (w : Str) (ps : List Tr) : (flatT w ps).steps.Perm (Tr.stepss ps) := by
  unfold flatT
  rw [Tr.steps, ← exs_steps w ps]
  split
  · exact List.Perm.refl _
  · exact stepss_perm (sortL_perm _)
theorem up_steps (p q : Tr) : (upT p q).steps.Perm (p.steps ++ q.steps) := by
  cases p with
  | again x y =>
    show (Tr.again x (flatT "either" [y, q])).steps.Perm _
    rw [Tr.steps, Tr.steps, List.append_assoc]
    refine List.Perm.append_left _ ((flat_steps _ _).trans ?_)
    rw [Tr.stepss, Tr.stepss, Tr.stepss, List.append_nil]
  | leaf s => show (Tr.again (.leaf s) q).steps.Perm _; simp only [Tr.steps]; exact List.Perm.refl _
  | join w ps => show (Tr.again (.join w ps) q).steps.Perm _; simp only [Tr.steps]; exact List.Perm.refl _
mutual
theorem plain_steps : ∀ t : Tr, (plainT t).steps.Perm t.steps
  | .leaf s => List.Perm.refl _
  | .join w ps => by
    rw [plainT, Tr.steps]
    exact (flat_steps w _).trans (plains_steps ps)
  | .again a b => by
    rw [plainT, Tr.steps]
    exact (up_steps _ _).trans ((plain_steps a).append (plain_steps b))
theorem plains_steps : ∀ ps : List Tr, (Tr.stepss (plainTs ps)).Perm (Tr.stepss ps)
  | [] => List.Perm.refl _
  | t :: ts => by
    rw [plainTs, Tr.stepss, Tr.stepss]
    exact (plain_steps t).append (plains_steps ts)
end
/-! ### what can't be changed any more -/
def isJ (w : Str) : Tr → Bool
  | .join v _ => v == w
  | _ => false
def isA : Tr → Bool
  | .again _ _ => true
  | _ => false
mutual
def Irr : Tr → Prop
  | .leaf _ => True
  | .join w ps => (∀ p ∈ ps, isJ w p = false) ∧ (w ≠ "behind" → ps.Pairwise (fun a b => leT a b = true)) ∧ Irrs ps
  | .again a b => isA a = false ∧ Irr a ∧ Irr b
def Irrs : List Tr → Prop
  | [] => True
  | t :: ts => Irr t ∧ Irrs ts
end
theorem irrs_iff : ∀ {ps : List Tr}, Irrs ps ↔ ∀ p ∈ ps, Irr p
  | [] => ⟨fun _ _ h => (nomatch h), fun _ => trivial⟩
  | p :: ps => by
    rw [Irrs, irrs_iff, List.forall_mem_cons]
theorem ex_no {w : Str} {t : Tr} (h : isJ w t = false) : ex w t = [t] := by
  cases t with
  | join v qs =>
    have h' : (v == w) = false := h
    show (if (v == w) = true then qs else [.join v qs]) = _
    rw [h']
    rfl
  | leaf s => rfl
  | again a b => rfl
theorem exs_no {w : Str} : ∀ {ps : List Tr}, (∀ p ∈ ps, isJ w p = false) → exs w ps = ps
  | [], _ => rfl
  | p :: ps, h => by
    have ih := exs_no (ps := ps) fun q hq => h q (List.mem_cons_of_mem _ hq)
    unfold exs at *
    rw [List.flatMap_cons, ex_no (h p List.mem_cons_self), ih]
    rfl
theorem up_no {p q : Tr} (h : isA p = false) : upT p q = .again p q := by
  cases p with
  | again x y => cases h
  | leaf s => rfl
  | join w ps => rfl
mutual
theorem irr_plain : ∀ t : Tr, Irr t → plainT t = t
  | .leaf s, _ => rfl
  | .join w ps, h => by
    obtain ⟨h1, h2, h3⟩ := h
    rw [plainT, irrs_plain ps h3]
    unfold flatT
    rw [exs_no h1]
    split
    · rfl
    · rename_i hw
      have : sortL ps = ps := List.mergeSort_of_pairwise (h2 fun z => hw (by rw [z]; simp))
      rw [this]
  | .again a b, h => by
    obtain ⟨h1, h2, h3⟩ := h
    rw [plainT, irr_plain a h2, irr_plain b h3, up_no h1]
theorem irrs_plain : ∀ ps : List Tr, Irrs ps → plainTs ps = ps
  | [], _ => rfl
  | t :: ts, h => by rw [plainTs, irr_plain t h.1, irrs_plain ts h.2]
end
theorem flat_irr {w : Str} {ps : List Tr} (h : ∀ p ∈ ps, Irr p) : Irr (flatT w ps) := by
  have key : ∀ q ∈ exs w ps, isJ w q = false ∧ Irr q := by
    intro q hq
    obtain ⟨p, hp, hqp⟩ := List.mem_flatMap.mp hq
    have hi := h p hp
    cases p with
    | join v qs =>
      have hqp' : q ∈ (if (v == w) = true then qs else [.join v qs]) := hqp
      split at hqp'
      · rename_i hv
        have e : v = w := by simpa using hv
        subst e
        obtain ⟨h1, _, h3⟩ := hi
        exact ⟨h1 q hqp', irrs_iff.mp h3 q hqp'⟩
      · rename_i hv
        rw [List.mem_singleton.mp hqp']
        exact ⟨by show (v == w) = false; simpa using hv, hi⟩
    | leaf s => rw [List.mem_singleton.mp (show q ∈ [Tr.leaf s] from hqp)]; exact ⟨rfl, hi⟩
    | again a b => rw [List.mem_singleton.mp (show q ∈ [Tr.again a b] from hqp)]; exact ⟨rfl, hi⟩
  unfold flatT
  split
  · rename_i hw
    refine ⟨fun q hq => (key q hq).1, fun z => absurd (by simpa using hw) z, irrs_iff.mpr fun q hq => (key q hq).2⟩
  · have hm : ∀ q ∈ sortL (exs w ps), q ∈ exs w ps := fun q hq => (sortL_perm _).mem_iff.mp hq
    exact ⟨fun q hq => (key q (hm q hq)).1, fun _ => sortL_sorted _, irrs_iff.mpr fun q hq => (key q (hm q hq)).2⟩
theorem up_irr {p q : Tr} (hp : Irr p) (hq : Irr q) : Irr (upT p q) := by
  cases p with
  | again x y =>
    obtain ⟨h1, h2, h3⟩ := hp
    refine ⟨h1, h2, flat_irr fun r hr => ?_⟩
    rcases List.mem_cons.mp hr with rfl | hr
    · exact h3
    · rcases List.mem_cons.mp hr with rfl | hr
      · exact hq
      · cases hr
  | leaf s => exact ⟨rfl, hp, hq⟩
  | join w ps => exact ⟨rfl, hp, hq⟩
mutual
theorem plain_irr : ∀ t : Tr, Irr (plainT t)
  | .leaf s => trivial
  | .join w ps => by rw [plainT]; exact flat_irr (plains_irr ps)
  | .again a b => by rw [plainT]; exact up_irr (plain_irr a) (plain_irr b)
theorem plains_irr : ∀ ps : List Tr, ∀ p ∈ plainTs ps, Irr p
  | [], p, h => nomatch h
  | t :: ts, p, h => by
    rw [plainTs] at h
    rcases List.mem_cons.mp h with rfl | h
    · exact plain_irr t
    · exact plains_irr ts p h
end
end PL

set_option maxHeartbeats 4000000
namespace PL
open PySem L2
/-! U2: one use of one rule; what it keeps. -/
inductive St : Tr → Tr → Prop
  | flat (w : Str) (xs qs ys : List Tr) : St (.join w (xs ++ .join w qs :: ys)) (.join w (xs ++ (qs ++ ys)))
  | swap (w : Str) (xs : List Tr) (a b : Tr) (ys : List Tr) : w ≠ "behind" → kl (least b) < kl (least a) → St (.join w (xs ++ a :: b :: ys)) (.join w (xs ++ b :: a :: ys))
  | up (x y z : Tr) : St (.again (.again x y) z) (.again x (.join "either" [y, z]))
  | inJ (w : Str) (xs : List Tr) (p q : Tr) (ys : List Tr) : St p q → St (.join w (xs ++ p :: ys)) (.join w (xs ++ q :: ys))
  | inA (a a' b : Tr) : St a a' → St (.again a b) (.again a' b)
  | inB (a b b' : Tr) : St b b' → St (.again a b) (.again a b')
theorem told_join {w : Str} {ps : List Tr} : (Tr.join w ps).told = true ↔ isJoin w = true ∧ 2 ≤ ps.length ∧ ∀ p ∈ ps, p.told = true := by
  rw [Tr.told, Bool.and_eq_true, Bool.and_eq_true, decide_eq_true_eq]
  exact ⟨fun ⟨⟨h1, h2⟩, h3⟩ => ⟨h1, h2, tolds_all h3⟩, fun ⟨h1, h2, h3⟩ => ⟨⟨h1, h2⟩, tolds_of h3⟩⟩
theorem told_again {a b : Tr} : (Tr.again a b).told = true ↔ a.told = true ∧ b.told = true := by rw [Tr.told, Bool.and_eq_true]
theorem steps_ne {t : Tr} (h : t.told = true) : t.steps ≠ [] := fun z => by
  have := steps_pos t h
  rw [z] at this
  simp at this
theorem least_mem {t : Tr} (h : t.told = true) : least t ∈ t.steps := leastOf_mem (steps_ne h)
theorem St.steps {t u : Tr} (h : St t u) : u.steps.Perm t.steps := by
  induction h with
  | flat w xs qs ys =>
    rw [Tr.steps, Tr.steps, stepss_app, stepss_app, stepss_app, Tr.stepss, Tr.steps]
  | swap w xs a b ys _ _ =>
    rw [Tr.steps, Tr.steps]
    exact stepss_perm (List.Perm.append_left _ (List.Perm.swap _ _ _))
  | up x y z =>
    simp only [Tr.steps, Tr.stepss, List.append_nil, List.append_assoc]
    exact List.Perm.refl _
  | inJ w xs p q ys _ ih =>
    rw [Tr.steps, Tr.steps, stepss_app, stepss_app, Tr.stepss, Tr.stepss]
    exact List.Perm.append_left _ (ih.append_right _)
  | inA a a' b _ ih =>
    rw [Tr.steps, Tr.steps]
    exact ih.append_right _
  | inB a b b' _ ih =>
    rw [Tr.steps, Tr.steps]
    exact List.Perm.append_left _ ih
theorem St.least {t u : Tr} (h : St t u) : least u = least t := leastOf_perm h.steps
theorem isJoin_either : isJoin "either" = true := by decide +kernel
theorem St.told {t u : Tr} (h : St t u) : t.told = true → u.told = true := by
  induction h with
  | flat w xs qs ys =>
    intro h
    obtain ⟨h1, h2, h3⟩ := told_join.mp h
    obtain ⟨_, h5, h6⟩ := told_join.mp (h3 (.join w qs) (by simp))
    refine told_join.mpr ⟨h1, by simp only [List.length_append]; omega, fun p hp => ?_⟩
    simp only [List.mem_append] at hp
    rcases hp with hp | hp | hp
    · exact h3 p (by simp [hp])
    · exact h6 p hp
    · exact h3 p (by simp [hp])
  | swap w xs a b ys _ _ =>
    intro h
    obtain ⟨h1, h2, h3⟩ := told_join.mp h
    refine told_join.mpr ⟨h1, by simpa using h2, fun p hp => h3 p ?_⟩
    simp only [List.mem_append, List.mem_cons] at hp ⊢
    rcases hp with hp | hp | hp | hp
    · exact .inl hp
    · exact .inr (.inr (.inl hp))
    · exact .inr (.inl hp)
    · exact .inr (.inr (.inr hp))
  | up x y z =>
    intro h
    obtain ⟨h1, h2⟩ := told_again.mp h
    obtain ⟨h3, h4⟩ := told_again.mp h1
    refine told_again.mpr ⟨h3, told_join.mpr ⟨isJoin_either, by simp, fun p hp => ?_⟩⟩
    simp only [List.mem_cons, List.not_mem_nil, or_false] at hp
    rcases hp with rfl | rfl
    · exact h4
    · exact h2
  | inJ w xs p q ys _ ih =>
    intro h
    obtain ⟨h1, h2, h3⟩ := told_join.mp h
    refine told_join.mpr ⟨h1, by simpa using h2, fun r hr => ?_⟩
    simp only [List.mem_append, List.mem_cons] at hr
    rcases hr with hr | rfl | hr
    · exact h3 r (by simp [hr])
    · exact ih (h3 p (by simp))
    · exact h3 r (by simp [hr])
  | inA a a' b _ ih =>
    intro h
    obtain ⟨h1, h2⟩ := told_again.mp h
    exact told_again.mpr ⟨ih h1, h2⟩
  | inB a b b' _ ih =>
    intro h
    obtain ⟨h1, h2⟩ := told_again.mp h
    exact told_again.mpr ⟨h1, ih h2⟩
/-! ### plain trees are told -/
theorem exs_told {w : Str} {ps : List Tr} (h : ∀ p ∈ ps, p.told = true) : ∀ q ∈ exs w ps, q.told = true := by
  intro q hq
  obtain ⟨p, hp, hqp⟩ := List.mem_flatMap.mp hq
  have ht := h p hp
  cases p with
  | join v qs =>
    have hqp' : q ∈ (if (v == w) = true then qs else [.join v qs]) := hqp
    split at hqp'
    · exact (told_join.mp ht).2.2 q hqp'
    · rw [List.mem_singleton.mp hqp']; exact ht
  | leaf s => rw [List.mem_singleton.mp (show q ∈ [Tr.leaf s] from hqp)]; exact ht
  | again a b => rw [List.mem_singleton.mp (show q ∈ [Tr.again a b] from hqp)]; exact ht
theorem ex_len {w : Str} {p : Tr} (h : p.told = true) : 1 ≤ (ex w p).length := by
  cases p with
  | join v qs =>
    show 1 ≤ (if (v == w) = true then qs else [.join v qs]).length
    split
    · have := (told_join.mp h).2.1
      omega
    · exact Nat.le_refl _
  | leaf s => exact Nat.le_refl _
  | again a b => exact Nat.le_refl _
theorem exs_len {w : Str} : ∀ {ps : List Tr}, (∀ p ∈ ps, p.told = true) → ps.length ≤ (exs w ps).length
  | [], _ => Nat.le_refl _
  | p :: ps, h => by
    have h1 := ex_len (w := w) (h p List.mem_cons_self)
    have h2 := exs_len (w := w) (ps := ps) fun q hq => h q (List.mem_cons_of_mem _ hq)
    unfold exs at *
    rw [List.flatMap_cons, List.length_append, List.length_cons]
    omega
theorem flat_told {w : Str} {ps : List Tr} (hw : isJoin w = true) (h2 : 2 ≤ ps.length) (h : ∀ p ∈ ps, p.told = true) : (flatT w ps).told = true := by
  have hl := exs_len (w := w) h
  unfold flatT
  refine told_join.mpr ⟨hw, ?_, ?_⟩
  · split
    · omega
    · rw [(sortL_perm _).length_eq]; omega
  · split
    · exact exs_told h
    · exact fun q hq => exs_told h q ((sortL_perm _).mem_iff.mp hq)
theorem up_told {p q : Tr} (hp : p.told = true) (hq : q.told = true) : (upT p q).told = true := by
  cases p with
  | again x y =>
    obtain ⟨h1, h2⟩ := told_again.mp hp
    refine told_again.mpr ⟨h1, flat_told isJoin_either (by simp) fun r hr => ?_⟩
    simp only [List.mem_cons, List.not_mem_nil, or_false] at hr
    rcases hr with rfl | rfl
    · exact h2
    · exact hq
  | leaf s => exact told_again.mpr ⟨hp, hq⟩
  | join w ps => exact told_again.mpr ⟨hp, hq⟩
theorem plainTs_len (ps : List Tr) : (plainTs ps).length = ps.length := by rw [plainTs_map, List.length_map]
mutual
theorem plain_told : ∀ t : Tr, t.told = true → (plainT t).told = true
  | .leaf s, h => h
  | .join w ps, h => by
    obtain ⟨h1, h2, h3⟩ := told_join.mp h
    rw [plainT]
    exact flat_told h1 (by rw [plainTs_len]; exact h2) (plains_told ps (tolds_of h3))
  | .again a b, h => by
    obtain ⟨h1, h2⟩ := told_again.mp h
    rw [plainT]
    exact up_told (plain_told a h1) (plain_told b h2)
theorem plains_told : ∀ ps : List Tr, Tr.tolds ps = true → ∀ p ∈ plainTs ps, p.told = true
  | [], _, p, h => nomatch h
  | t :: ts, ht, p, h => by
    rw [plainTs] at h
    rw [Tr.tolds, Bool.and_eq_true] at ht
    rcases List.mem_cons.mp h with rfl | h
    · exact plain_told t ht.1
    · exact plains_told ts ht.2 p h
end
/-! ### two sortings of the same are the same -/
theorem mem_stepss {ps : List Tr} {p : Tr} {s : Str} (hp : p ∈ ps) (hs : s ∈ p.steps) : s ∈ Tr.stepss ps := by
  rw [stepss_flat]
  exact List.mem_flatMap.mpr ⟨p, hp, hs⟩
theorem sep : ∀ {l : List Tr}, (Tr.stepss l).Nodup → ∀ a ∈ l, ∀ b ∈ l, ∀ s ∈ a.steps, s ∈ b.steps → a = b
  | [], _, a, ha, _, _, _, _, _ => nomatch ha
  | p :: l, nd, a, ha, b, hb, s, hs, hs2 => by
    rw [Tr.stepss] at nd
    obtain ⟨_, n2, n3⟩ := List.nodup_append.mp nd
    rcases List.mem_cons.mp ha with e1 | h1 <;> rcases List.mem_cons.mp hb with e2 | h2
    · rw [e1, e2]
    · exact absurd rfl (n3 s (e1 ▸ hs) s (mem_stepss h2 hs2))
    · exact absurd rfl (n3 s (e2 ▸ hs2) s (mem_stepss h1 hs))
    · exact sep n2 a h1 b h2 s hs hs2
structure Fine (ps : List Tr) : Prop where
  nd : (Tr.stepss ps).Nodup
  told : ∀ p ∈ ps, p.told = true
theorem Fine.perm {ps qs : List Tr} (h : Fine ps) (p : ps.Perm qs) : Fine qs := ⟨(stepss_perm p).nodup_iff.mp h.nd, fun q hq => h.told q (p.mem_iff.mpr hq)⟩
theorem Fine.exs {ps : List Tr} (h : Fine ps) (w : Str) : Fine (exs w ps) := ⟨by rw [exs_steps]; exact h.nd, exs_told h.told⟩
theorem Fine.least {ps : List Tr} (h : Fine ps) {a b : Tr} (ha : a ∈ ps) (hb : b ∈ ps) (e : PL.least a = PL.least b) : a = b := sep h.nd a ha b hb (PL.least a) (least_mem (h.told a ha)) (by rw [e]; exact least_mem (h.told b hb))
theorem sortL_eq {l m : List Tr} (h : Fine l) (p : l.Perm m) : sortL l = sortL m := by
  refine List.Perm.eq_of_pairwise (le := fun a b => leT a b = true) (fun a b ha hb h1 h2 => ?_) (sortL_sorted l) (sortL_sorted m) ((sortL_perm l).trans (p.trans (sortL_perm m).symm))
  unfold leT at h1 h2
  rw [decide_eq_true_eq] at h1 h2
  exact h.least ((sortL_perm l).mem_iff.mp ha) (p.mem_iff.mpr ((sortL_perm m).mem_iff.mp hb)) (kl_anti h1 h2)
theorem exs_app (w : Str) (ps qs : List Tr) : exs w (ps ++ qs) = exs w ps ++ exs w qs := List.flatMap_append
theorem exs_cons (w : Str) (p : Tr) (qs : List Tr) : exs w (p :: qs) = ex w p ++ exs w qs := List.flatMap_cons
theorem ex_flat (w : Str) (ps : List Tr) : ex w (flatT w ps) = if w == "behind" then exs w ps else sortL (exs w ps) := by
  show (if (w == w) = true then _ else _) = _
  rw [if_pos (by simp)]
theorem flat_flat {w : Str} {X Q Y : List Tr} (h : Fine (X ++ (Q ++ Y))) : flatT w (X ++ flatT w Q :: Y) = flatT w (X ++ (Q ++ Y)) := by
  show Tr.join w (if w == "behind" then PL.exs w (X ++ flatT w Q :: Y) else sortL (PL.exs w (X ++ flatT w Q :: Y))) = .join w (if w == "behind" then PL.exs w (X ++ (Q ++ Y)) else sortL (PL.exs w (X ++ (Q ++ Y))))
  rw [exs_app, exs_cons, ex_flat]
  have hx := h.exs w
  rw [exs_app, exs_app] at hx ⊢
  by_cases hw : (w == "behind") = true
  · rw [if_pos hw, if_pos hw, if_pos hw]
  · rw [if_neg hw, if_neg hw, if_neg hw]
    rw [sortL_eq hx (List.Perm.append_left _ ((sortL_perm _).symm.append_right _))]
theorem flat_perm {w : Str} {P Q : List Tr} (hw : w ≠ "behind") (h : Fine P) (p : P.Perm Q) : flatT w P = flatT w Q := by
  have hw' : ¬ (w == "behind") = true := by simpa using hw
  show Tr.join w (if w == "behind" then PL.exs w P else sortL (PL.exs w P)) = .join w (if w == "behind" then PL.exs w Q else sortL (PL.exs w Q))
  rw [if_neg hw', if_neg hw', sortL_eq (h.exs w) (p.flatMap_right _)]
  rfl
theorem Fine.plain {ps : List Tr} (h : Fine ps) : Fine (plainTs ps) := ⟨(plains_steps ps).nodup_iff.mpr h.nd, plains_told ps (tolds_of h.told)⟩
theorem Fine.join {w : Str} {ps : List Tr} (h : (Tr.join w ps).told = true) (nd : (Tr.join w ps).steps.Nodup) : Fine ps := ⟨by rw [Tr.steps] at nd; exact nd, (told_join.mp h).2.2⟩
theorem up_up {X Y Z : Tr} (h : Fine [X, Y, Z]) : upT (upT X Y) Z = upT X (flatT "either" [Y, Z]) := by
  cases X with
  | again A B =>
    show Tr.again A (flatT "either" [flatT "either" [B, Y], Z]) = .again A (flatT "either" [B, flatT "either" [Y, Z]])
    have hf : Fine [B, Y, Z] := by
      refine ⟨?_, fun p hp => ?_⟩
      · have nd := h.nd
        simp only [Tr.stepss, Tr.steps, List.append_nil, List.append_assoc] at nd ⊢
        exact (List.nodup_append.mp nd).2.1
      · simp only [List.mem_cons, List.not_mem_nil, or_false] at hp
        rcases hp with rfl | rfl | rfl
        · exact (told_again.mp (h.told (.again A _) (by simp))).2
        · exact h.told _ (by simp)
        · exact h.told _ (by simp)
    have e1 := flat_flat (w := "either") (X := []) (Q := [B, Y]) (Y := [Z]) hf
    have e2 := flat_flat (w := "either") (X := [B]) (Q := [Y, Z]) (Y := []) hf
    exact congrArg _ (e1.trans e2.symm)
  | leaf s => rfl
  | join w ps => rfl
theorem St.plain {t u : Tr} (h : St t u) : t.told = true → t.steps.Nodup → plainT u = plainT t := by
  induction h with
  | flat w xs qs ys =>
    intro ht nd
    have hf := Fine.join ht nd
    have hff : Fine (xs ++ (qs ++ ys)) := Fine.join (St.told (.flat w xs qs ys) ht) ((St.steps (.flat w xs qs ys)).nodup_iff.mpr nd)
    have hp := hff.plain
    rw [plainT, plainT, plainTs_map, plainTs_map] at *
    rw [List.map_append, List.map_append] at hp ⊢
    rw [List.map_append, List.map_cons, plainT, plainTs_map, flat_flat hp]
  | swap w xs a b ys hw hl =>
    intro ht nd
    have hp := (Fine.join ht nd).plain
    rw [plainT, plainT]
    refine (flat_perm hw hp ?_).symm
    rw [plainTs_map, plainTs_map]
    exact (List.Perm.append_left _ (List.Perm.swap _ _ _)).map _
  | up x y z =>
    intro ht nd
    obtain ⟨h1, h2⟩ := told_again.mp ht
    obtain ⟨h3, h4⟩ := told_again.mp h1
    have hf : Fine [x, y, z] := ⟨by simpa only [Tr.stepss, Tr.steps, List.append_nil, List.append_assoc] using nd, fun p hp => by
      simp only [List.mem_cons, List.not_mem_nil, or_false] at hp
      rcases hp with rfl | rfl | rfl
      · exact h3
      · exact h4
      · exact h2⟩
    have e := up_up (X := plainT x) (Y := plainT y) (Z := plainT z) (by have := hf.plain; simpa only [plainTs] using this)
    simp only [plainT, plainTs]
    exact e.symm
  | inJ w xs p q ys _ ih =>
    intro ht nd
    have hf := Fine.join ht nd
    have e := ih (hf.told p (by simp)) (by
      have n := hf.nd
      rw [stepss_app, Tr.stepss] at n
      exact (List.nodup_append.mp (List.nodup_append.mp n).2.1).1)
    rw [plainT, plainT, plainTs_map, plainTs_map, List.map_append, List.map_cons, List.map_append, List.map_cons, e]
  | inA a a' b _ ih =>
    intro ht nd
    rw [Tr.steps] at nd
    rw [plainT, plainT, ih (told_again.mp ht).1 (List.nodup_append.mp nd).1]
  | inB a b b' _ ih =>
    intro ht nd
    rw [Tr.steps] at nd
    rw [plainT, plainT, ih (told_again.mp ht).2 (List.nodup_append.mp nd).2.1]
end PL

set_option maxHeartbeats 4000000
namespace PL
open PySem L2
/-! U3: a use of a rule keeps bodies apart; the uses come to an end. -/
theorem begin1_app {l m : List Tr} (h : l ≠ []) : Tr.begin1 (l ++ m) = Tr.begin1 l := by
  cases l with
  | nil => exact absurd rfl h
  | cons p l => rfl
theorem end1_cons {p : Tr} {m : List Tr} (h : m ≠ []) : Tr.end1 (p :: m) = Tr.end1 m := by
  cases m with
  | nil => exact absurd rfl h
  | cons q m => rfl
theorem end1_app : ∀ {l m : List Tr}, m ≠ [] → Tr.end1 (l ++ m) = Tr.end1 m
  | [], m, _ => rfl
  | p :: l, m, h => by
    rw [List.cons_append, end1_cons (by simp [h]), end1_app h]
theorem begins_join (w : Str) (ps : List Tr) : (Tr.join w ps).begins = if w == "behind" then Tr.begin1 ps else ps.flatMap Tr.begins := by rw [Tr.begins, beginss_flat]
theorem ends_join (w : Str) (ps : List Tr) : (Tr.join w ps).ends = if w == "behind" then Tr.end1 ps else ps.flatMap Tr.ends := by rw [Tr.ends, endss_flat]
theorem edge_flat (w : Str) (xs qs ys : List Tr) (hq : qs ≠ []) : (Tr.join w (xs ++ (qs ++ ys))).begins = (Tr.join w (xs ++ .join w qs :: ys)).begins ∧ (Tr.join w (xs ++ (qs ++ ys))).ends = (Tr.join w (xs ++ .join w qs :: ys)).ends := by
  rw [begins_join, begins_join, ends_join, ends_join]
  by_cases hw : (w == "behind") = true
  · rw [if_pos hw, if_pos hw, if_pos hw, if_pos hw]
    constructor
    · cases xs with
      | nil =>
        rw [List.nil_append, List.nil_append, begin1_app hq]
        show _ = (Tr.join w qs).begins
        rw [begins_join, if_pos hw]
      | cons p xs => rfl
    · cases ys with
      | nil =>
        rw [List.append_nil, end1_app hq, end1_app (by simp)]
        show _ = (Tr.join w qs).ends
        rw [ends_join, if_pos hw]
      | cons p ys => rw [end1_app (by simp), end1_app (by simp), end1_app (by simp), end1_cons (p := .join w qs) (m := p :: ys) (by simp)]
  · rw [if_neg hw, if_neg hw, if_neg hw, if_neg hw]
    constructor
    · rw [List.flatMap_append, List.flatMap_append, List.flatMap_append, List.flatMap_cons, begins_join, if_neg hw]
    · rw [List.flatMap_append, List.flatMap_append, List.flatMap_append, List.flatMap_cons, ends_join, if_neg hw]
theorem St.edges {t u : Tr} (h : St t u) : t.told = true → u.begins.Perm t.begins ∧ u.ends.Perm t.ends := by
  induction h with
  | flat w xs qs ys =>
    intro ht
    have hq : qs ≠ [] := fun z => by
      have := (told_join.mp ((told_join.mp ht).2.2 (.join w qs) (by simp))).2.1
      rw [z] at this
      simp at this
    obtain ⟨h1, h2⟩ := edge_flat w xs qs ys hq
    rw [h1, h2]
    exact ⟨.refl _, .refl _⟩
  | swap w xs a b ys hw _ =>
    intro _
    have hw' : ¬ (w == "behind") = true := by simpa using hw
    rw [begins_join, begins_join, ends_join, ends_join, if_neg hw', if_neg hw', if_neg hw', if_neg hw']
    exact ⟨(List.Perm.append_left _ (List.Perm.swap _ _ _)).flatMap_right _, (List.Perm.append_left _ (List.Perm.swap _ _ _)).flatMap_right _⟩
  | up x y z =>
    intro _
    simp only [Tr.begins, Tr.ends]
    exact ⟨.refl _, .refl _⟩
  | inJ w xs p q ys _ ih =>
    intro ht
    obtain ⟨h1, h2⟩ := ih ((told_join.mp ht).2.2 p (by simp))
    rw [begins_join, begins_join, ends_join, ends_join]
    by_cases hw : (w == "behind") = true
    · rw [if_pos hw, if_pos hw, if_pos hw, if_pos hw]
      constructor
      · cases xs with
        | nil => exact h1
        | cons p xs => exact .refl _
      · rw [end1_app (by simp), end1_app (by simp)]
        cases ys with
        | nil => exact h2
        | cons r ys => rw [end1_cons (p := q) (m := r :: ys) (by simp), end1_cons (p := p) (m := r :: ys) (by simp)]
    · rw [if_neg hw, if_neg hw, if_neg hw, if_neg hw]
      constructor
      · rw [List.flatMap_append, List.flatMap_append, List.flatMap_cons, List.flatMap_cons]
        exact List.Perm.append_left _ (h1.append_right _)
      · rw [List.flatMap_append, List.flatMap_append, List.flatMap_cons, List.flatMap_cons]
        exact List.Perm.append_left _ (h2.append_right _)
  | inA a a' b _ ih =>
    intro ht
    rw [Tr.begins, Tr.begins, Tr.ends, Tr.ends]
    exact ih (told_again.mp ht).1
  | inB a b b' _ ih =>
    intro ht
    rw [Tr.begins, Tr.begins, Tr.ends, Tr.ends]
    exact ⟨.refl _, .refl _⟩
theorem both_iff {t : Tr} : (both t).isEmpty = true ↔ ∀ s ∈ t.begins, s ∉ t.ends := by
  unfold both
  rw [List.isEmpty_iff, List.filter_eq_nil_iff]
  simp only [List.any_eq_true, beq_iff_eq]
  exact ⟨fun h s hs he => h s hs ⟨s, he, rfl⟩, fun h s hs ⟨x, hx, e⟩ => h s hs (e ▸ hx)⟩
theorem both_perm {t u : Tr} (h1 : u.begins.Perm t.begins) (h2 : u.ends.Perm t.ends) (h : (both t).isEmpty = true) : (both u).isEmpty = true :=
  both_iff.mpr fun s hs he => both_iff.mp h s (h1.mem_iff.mp hs) (h2.mem_iff.mp he)
theorem apart_join {w : Str} {ps : List Tr} : (Tr.join w ps).apart = true ↔ ∀ p ∈ ps, p.apart = true := by
  rw [Tr.apart]
  exact ⟨aparts_all, aparts_of⟩
theorem apart_again {a b : Tr} : (Tr.again a b).apart = true ↔ (both a).isEmpty = true ∧ a.apart = true ∧ b.apart = true := by
  rw [Tr.apart, Bool.and_eq_true, Bool.and_eq_true, and_assoc]
theorem St.apart {t u : Tr} (h : St t u) : t.told = true → t.apart = true → u.apart = true := by
  induction h with
  | flat w xs qs ys =>
    intro _ h
    have h3 := apart_join.mp h
    have h6 := apart_join.mp (h3 (.join w qs) (by simp))
    refine apart_join.mpr fun p hp => ?_
    simp only [List.mem_append] at hp
    rcases hp with hp | hp | hp
    · exact h3 p (by simp [hp])
    · exact h6 p hp
    · exact h3 p (by simp [hp])
  | swap w xs a b ys _ _ =>
    intro _ h
    have h3 := apart_join.mp h
    refine apart_join.mpr fun p hp => h3 p ?_
    simp only [List.mem_append, List.mem_cons] at hp ⊢
    rcases hp with hp | hp | hp | hp
    · exact .inl hp
    · exact .inr (.inr (.inl hp))
    · exact .inr (.inl hp)
    · exact .inr (.inr (.inr hp))
  | up x y z =>
    intro _ h
    obtain ⟨_, h1, h2⟩ := apart_again.mp h
    obtain ⟨h3, h4, h5⟩ := apart_again.mp h1
    refine apart_again.mpr ⟨h3, h4, apart_join.mpr fun p hp => ?_⟩
    simp only [List.mem_cons, List.not_mem_nil, or_false] at hp
    rcases hp with rfl | rfl
    · exact h5
    · exact h2
  | inJ w xs p q ys _ ih =>
    intro ht h
    have h3 := apart_join.mp h
    refine apart_join.mpr fun r hr => ?_
    simp only [List.mem_append, List.mem_cons] at hr
    rcases hr with hr | rfl | hr
    · exact h3 r (by simp [hr])
    · exact ih ((told_join.mp ht).2.2 p (by simp)) (h3 p (by simp))
    · exact h3 r (by simp [hr])
  | inA a a' b hs ih =>
    intro ht h
    obtain ⟨h1, h2, h3⟩ := apart_again.mp h
    have ha := (told_again.mp ht).1
    exact apart_again.mpr ⟨both_perm (hs.edges ha).1 (hs.edges ha).2 h1, ih ha h2, h3⟩
  | inB a b b' _ ih =>
    intro ht h
    obtain ⟨h1, h2, h3⟩ := apart_again.mp h
    exact apart_again.mpr ⟨h1, h2, ih (told_again.mp ht).2 h3⟩
/-! ### the measure -/
mutual
def wt : Tr → Nat
  | .leaf _ => 0
  | .join _ ps => 1 + wts ps
  | .again a b => 2 + wt a + wt b
def wts : List Tr → Nat
  | [] => 0
  | t :: ts => wt t + wts ts
end
def cnt (p : Tr) (ps : List Tr) : Nat := ps.countP fun q => decide (kl (least q) < kl (least p))
mutual
def inv : Tr → Nat
  | .leaf _ => 0
  | .join _ ps => invs ps
  | .again a b => inv a + inv b
def invs : List Tr → Nat
  | [] => 0
  | t :: ts => inv t + cnt t ts + invs ts
end
theorem wts_app : ∀ ps qs : List Tr, wts (ps ++ qs) = wts ps + wts qs
  | [], qs => by rw [List.nil_append, wts, Nat.zero_add]
  | p :: ps, qs => by rw [List.cons_append, wts, wts, wts_app ps qs, Nat.add_assoc]
theorem cnt_app (p : Tr) (ps qs : List Tr) : cnt p (ps ++ qs) = cnt p ps + cnt p qs := List.countP_append
theorem cnt_cons (p q : Tr) (qs : List Tr) : cnt p (q :: qs) = cnt p qs + if kl (least q) < kl (least p) then 1 else 0 := by
  unfold cnt
  rw [List.countP_cons]
  simp
theorem inv_put {p q : Tr} (h : least q = least p) (ys : List Tr) : ∀ xs : List Tr, invs (xs ++ q :: ys) + inv p = invs (xs ++ p :: ys) + inv q
  | [] => by
    rw [List.nil_append, List.nil_append, invs, invs]
    have : cnt q ys = cnt p ys := by unfold cnt; rw [h]
    omega
  | x :: xs => by
    have ih := inv_put h ys xs
    have : cnt x (xs ++ q :: ys) = cnt x (xs ++ p :: ys) := by rw [cnt_app, cnt_app, cnt_cons, cnt_cons, h]
    rw [List.cons_append, List.cons_append, invs, invs]
    omega
theorem inv_swap {a b : Tr} (h : kl (least b) < kl (least a)) (ys : List Tr) : ∀ xs : List Tr, invs (xs ++ a :: b :: ys) = invs (xs ++ b :: a :: ys) + 1
  | [] => by
    have h' : ¬ kl (least a) < kl (least b) := fun z => List.lt_irrefl _ (List.lt_trans z h)
    rw [List.nil_append, List.nil_append, invs, invs, invs, invs, cnt_cons, cnt_cons, if_pos h, if_neg h']
    omega
  | x :: xs => by
    have ih := inv_swap h ys xs
    have : cnt x (xs ++ a :: b :: ys) = cnt x (xs ++ b :: a :: ys) := (List.Perm.append_left _ (List.Perm.swap _ _ _)).countP_eq _
    rw [List.cons_append, List.cons_append, invs, invs]
    omega
theorem St.falls {t u : Tr} (h : St t u) : wt u < wt t ∨ (wt u = wt t ∧ inv u < inv t) := by
  induction h with
  | flat w xs qs ys =>
    refine .inl ?_
    rw [wt, wt, wts_app, wts_app, wts_app, wts, wt]
    omega
  | swap w xs a b ys _ h =>
    refine .inr ⟨?_, ?_⟩
    · rw [wt, wt, wts_app, wts_app, wts, wts, wts, wts]
      omega
    · rw [inv, inv, inv_swap h]
      omega
  | up x y z =>
    refine .inl ?_
    simp only [wt, wts]
    omega
  | inJ w xs p q ys hs ih =>
    have e := inv_put hs.least ys xs
    rw [wt, wt, wts_app, wts_app, wts, wts, inv, inv]
    omega
  | inA a a' b _ ih =>
    rw [wt, wt, inv, inv]
    omega
  | inB a b b' _ ih =>
    rw [wt, wt, inv, inv]
    omega
theorem sq_step {n m l i j : Nat} (hn : 1 ≤ n) (hi : i + n ≤ n * n) (hj : j + m ≤ m * m) (hl : l ≤ m) : i + l + j + (n + m) ≤ (n + m) * (n + m) := by
  have e : (n + m) * (n + m) = n * n + n * m + (m * n + m * m) := by rw [Nat.add_mul, Nat.mul_add, Nat.mul_add]
  have h1 : m ≤ n * m := Nat.le_mul_of_pos_left _ hn
  have h2 : m * n = n * m := Nat.mul_comm _ _
  omega
mutual
theorem wt_le : ∀ t : Tr, t.told = true → wt t + 2 ≤ 2 * t.steps.length
  | .leaf s, _ => by rw [wt, Tr.steps]; simp
  | .join w ps, h => by
    obtain ⟨_, h2, h3⟩ := told_join.mp h
    have := wts_le ps (tolds_of h3)
    rw [wt, Tr.steps]
    omega
  | .again a b, h => by
    obtain ⟨h1, h2⟩ := told_again.mp h
    have e1 := wt_le a h1
    have e2 := wt_le b h2
    rw [wt, Tr.steps, List.length_append]
    omega
theorem wts_le : ∀ ps : List Tr, Tr.tolds ps = true → wts ps + 2 * ps.length ≤ 2 * (Tr.stepss ps).length
  | [], _ => by rw [wts, Tr.stepss]; simp
  | t :: ts, h => by
    rw [Tr.tolds, Bool.and_eq_true] at h
    have e1 := wt_le t h.1
    have e2 := wts_le ts h.2
    rw [wts, Tr.stepss, List.length_append, List.length_cons]
    omega
end
mutual
theorem inv_le : ∀ t : Tr, t.told = true → inv t + t.steps.length ≤ t.steps.length * t.steps.length
  | .leaf s, _ => by rw [inv, Tr.steps]; simp
  | .join w ps, h => by
    have := invs_le ps (tolds_of (told_join.mp h).2.2)
    rw [inv, Tr.steps]
    exact this
  | .again a b, h => by
    obtain ⟨h1, h2⟩ := told_again.mp h
    have := sq_step (l := 0) (steps_pos a h1) (inv_le a h1) (inv_le b h2) (Nat.zero_le _)
    rw [inv, Tr.steps, List.length_append]
    omega
theorem invs_le : ∀ ps : List Tr, Tr.tolds ps = true → invs ps + (Tr.stepss ps).length ≤ (Tr.stepss ps).length * (Tr.stepss ps).length
  | [], _ => by rw [invs, Tr.stepss]; simp
  | t :: ts, h => by
    rw [Tr.tolds, Bool.and_eq_true] at h
    have hc : cnt t ts ≤ (Tr.stepss ts).length := Nat.le_trans List.countP_le_length (stepss_pos ts h.2)
    have := sq_step (steps_pos t h.1) (inv_le t h.1) (invs_le ts h.2) hc
    rw [invs, Tr.stepss, List.length_append]
    exact this
end
mutual
theorem depth_told : ∀ t : Tr, t.told = true → t.depth ≤ t.steps.length
  | .leaf s, _ => by rw [Tr.depth, Tr.steps]; simp
  | .join w ps, h => by
    obtain ⟨_, h2, h3⟩ := told_join.mp h
    have := depths_told ps (tolds_of h3) (by intro z; rw [z] at h2; simp at h2)
    rw [Tr.depth, Tr.steps]
    omega
  | .again a b, h => by
    obtain ⟨h1, h2⟩ := told_again.mp h
    have e1 := depth_told a h1
    have e2 := depth_told b h2
    have p1 := steps_pos a h1
    have p2 := steps_pos b h2
    rw [Tr.depth, Tr.steps, List.length_append]
    omega
theorem depths_told : ∀ ps : List Tr, Tr.tolds ps = true → ps ≠ [] → Tr.depths ps + ps.length ≤ (Tr.stepss ps).length + 1
  | [], _, h => absurd rfl h
  | t :: ts, h, _ => by
    rw [Tr.tolds, Bool.and_eq_true] at h
    have e1 := depth_told t h.1
    have p1 := steps_pos t h.1
    have p2 := stepss_pos ts h.2
    rw [Tr.depths, Tr.stepss, List.length_append, List.length_cons]
    by_cases hz : ts = []
    · subst hz
      rw [Tr.depths, Tr.stepss]
      simp only [List.length_nil]
      omega
    · have e2 := depths_told ts h.2 hz
      omega
end
/-- how many uses there may be -/
def mea (t : Tr) : Nat := wt t * 101 + inv t
theorem mea_le {t : Tr} (h : t.told = true) (hs : t.steps.length ≤ 10) : mea t ≤ 2000 := by
  have h1 := wt_le t h
  have h2 := inv_le t h
  have h3 : t.steps.length * t.steps.length ≤ 10 * 10 := Nat.mul_le_mul hs hs
  unfold mea
  omega
theorem St.mea {t u : Tr} (h : St t u) (ht : t.told = true) (hs : t.steps.length ≤ 10) : PL.mea u < PL.mea t := by
  have hu := h.told ht
  have hus : u.steps.length ≤ 10 := by rw [h.steps.length_eq]; exact hs
  have h2 := inv_le u hu
  have h3 : u.steps.length * u.steps.length ≤ 10 * 10 := Nat.mul_le_mul hus hus
  have := h.falls
  unfold PL.mea
  omega
/-! ### what can be used -/
theorem chain_pairs : ∀ {ps : List Tr}, (∀ k a b, ps[k]? = some a → ps[k + 1]? = some b → leT a b = true) → ps.Pairwise (fun a b => leT a b = true)
  | [], _ => .nil
  | [p], _ => List.pairwise_singleton _ _
  | p :: q :: ps, h => by
    have ih := chain_pairs (ps := q :: ps) fun k a b ha hb => h (k + 1) a b (by simpa using ha) (by simpa using hb)
    refine List.pairwise_cons.mpr ⟨fun x hx => ?_, ih⟩
    have h0 := h 0 p q rfl rfl
    rcases List.mem_cons.mp hx with rfl | hx
    · exact h0
    · exact leT_trans _ _ _ h0 ((List.pairwise_cons.mp ih).1 x hx)
end PL

set_option maxHeartbeats 4000000
namespace PL
open PySem L2
/-! U4: flat and plain_told compute plain trees. -/
section
variable {W : Type}
theorem F_least_e (c : Cs) {t : Tr} (hd : t.depth ≤ 30) (ht : t.told = true) (hl : t.steps.length ≤ 1000) : F_least_step c [t.T] = (ret (.str (least t)) : M W T) :=
  run_rt (dRet_e (f1_e ((fCall_e (aCons_e rfl aNil_e) rfl).trans (F_steps_in_e c 30 t hd (told_wd t ht) hl)) (minT_strs (steps_ne ht))))
theorem keys_e (c : Cs) : ∀ {ps : List Tr}, (∀ p ∈ ps, p.depth ≤ 30 ∧ p.told = true ∧ p.steps.length ≤ 1000) → keysM (F_least_step c) (ps.map Tr.T) = (ret ((ps.map least).map T.str) : M W (List T))
  | [], _ => rfl
  | p :: ps, h => by
    obtain ⟨h1, h2, h3⟩ := h p List.mem_cons_self
    have ih := keys_e c (ps := ps) fun q hq => h q (List.mem_cons_of_mem _ hq)
    rw [List.map_cons, keysM, F_least_e c h1 h2 h3, noEr_ret, ret_bnd, ih, ret_bnd]
    rfl
theorem sortBy_e (ps : List Tr) : sortBy (ps.map Tr.T) ((ps.map least).map T.str) = (sortL ps).map Tr.T := by
  unfold sortBy sortL
  have e : (ps.map Tr.T).zip ((ps.map least).map T.str) = ps.map fun p => (p.T, T.str (least p)) := by
    rw [List.map_map, List.zip_map', List.map_inj_left]
    intro p _
    rfl
  rw [e, ← List.map_mergeSort (r := leT) (f := fun p : Tr => (p.T, T.str (least p))), List.map_map]
  · rfl
  · intro a _ b _
    have q := congrFun (congrFun (PySem.W.dataLe_str (fun p : Tr => least p)) a) b
    exact q.symm
theorem fSortK_e (c : Cs) {fa : Rho → M W T} {ρ : Rho} {ps : List Tr} (e : fa ρ = ret (.lst (ps.map Tr.T))) (h : ∀ p ∈ ps, p.depth ≤ 30 ∧ p.told = true ∧ p.steps.length ≤ 1000) (hl : ps.length ≤ 1000) : fSortK (F_least_step c) fa ρ = ret ((sortL ps).map Tr.T) := by
  unfold fSortK
  rw [e, ret_bnd]
  show bnd (keysM (F_least_step c) (ps.map Tr.T)) (sortKs (ps.map Tr.T)) = _
  rw [keys_e c h, ret_bnd]
  unfold sortKs
  rw [dataTs_strs]
  show (if sortableB ((ps.map least).map PyData.str) = true ∧ (ps.map Tr.T).length ≤ sizeLine then ret (sortBy _ _) else stuck) = _
  rw [if_pos ⟨sortable_strs _, by rw [List.length_map, sizeLine_eq]; omega⟩, sortBy_e]
theorem few {ps : List Tr} (h : ∀ p ∈ ps, p.told = true) : ps.length ≤ (Tr.stepss ps).length := stepss_pos ps (tolds_of h)
/-- what a part gives to a flat join -/
theorem ex_e {w : Str} {p : Tr} {ρ : Rho} (hp : p.told = true) (h0 : ρ[0]? = some (.fz (.str w))) (h3 : ρ[3]? = some (.fz p.T)) (hw : isJoin w = true) :
    ∃ t, (fIf (bAnd (bNot (fB (f1 (isaT "str") (fVar 3)))) (fB (f2 (eqT false) (f2 ixT (fVar 3) (fC (.int 0))) (fVar 0)))) (f2 ixT (fVar 3) (fC (.int 1))) (asL (fLst (aCons (fVar 3) aNil))) ρ : M W T) = ret t ∧ itsM t = (ret ((ex w p).map Tr.T) : M W (List T)) := by
  have v0 : (fVar 0 ρ : M W T) = ret (.str w) := fVar_e h0
  have v3 : (fVar 3 ρ : M W T) = ret p.T := fVar_e h3
  have one : (asL (fLst (aCons (fVar 3) aNil)) ρ : M W T) = ret (.lst [p.T]) := asL_e (fLst_e (aCons_e v3 aNil_e) (by simp))
  cases p with
  | leaf s =>
    have e1 : (fB (f1 (isaT "str") (fVar 3)) ρ : M W Bool) = ret true := fB_e (f1_e v3 (by rw [Tr.T]; exact isa_str_str))
    exact ⟨_, (fIf_f (bAnd_f (bNot_e e1))).trans one, rfl⟩
  | join v qs =>
    have e1 : (fB (f1 (isaT "str") (fVar 3)) ρ : M W Bool) = ret false := fB_e (f1_e v3 (isa_node fun s z => by cases z))
    rw [Tr.T] at v3
    have e2 : (fB (f2 (eqT false) (f2 ixT (fVar 3) (fC (.int 0))) (fVar 0)) ρ : M W Bool) = ret (v == w) := fB_e (f2_e (t := .str v) (f2_e (u := .int 0) v3 rfl rfl) v0 (by rw [eq_str]; rfl))
    cases hv : (v == w) with
    | true =>
      rw [hv] at e2
      refine ⟨.tup (Tr.Ts qs), (fIf_t ((bAnd_t (bNot_e e1)).trans e2)).trans (f2_e (u := .int 1) v3 rfl rfl), ?_⟩
      show ret (Tr.Ts qs) = ret ((if (v == w) = true then qs else [.join v qs]).map Tr.T)
      rw [hv, if_pos rfl, Ts_map]
    | false =>
      rw [hv] at e2
      refine ⟨_, (fIf_f ((bAnd_t (bNot_e e1)).trans e2)).trans one, ?_⟩
      show ret [(Tr.join v qs).T] = ret ((if (v == w) = true then qs else [.join v qs]).map Tr.T)
      rw [hv, if_neg (by simp)]
      rfl
  | again a b =>
    have e1 : (fB (f1 (isaT "str") (fVar 3)) ρ : M W Bool) = ret false := fB_e (f1_e v3 (isa_node fun s z => by cases z))
    rw [Tr.T] at v3
    have hv : (("again" : Str) == w) = false := by
      rw [BEq.comm]
      exact join_again hw
    have e2 : (fB (f2 (eqT false) (f2 ixT (fVar 3) (fC (.int 0))) (fVar 0)) ρ : M W Bool) = ret false := fB_e (f2_e (t := .str "again") (f2_e (u := .int 0) v3 rfl rfl) v0 (by rw [eq_str, hv]; rfl))
    exact ⟨_, (fIf_f ((bAnd_t (bNot_e e1)).trans e2)).trans one, rfl⟩
theorem F_flat_e (c : Cs) {w : Str} {ps : List Tr} (hw : isJoin w = true) (h : ∀ p ∈ ps, p.told = true) (hl : (Tr.stepss ps).length ≤ 30) : F_flat c [.str w, .lst (ps.map Tr.T)] = (ret (flatT w ps).T : M W T) := by
  unfold F_flat g_flat
  have he := exs_told (w := w) h
  have hls : (Tr.stepss (exs w ps)).length ≤ 30 := by rw [exs_steps]; exact hl
  have hle := few he
  have hgood : ∀ p ∈ exs w ps, p.depth ≤ 30 ∧ p.told = true ∧ p.steps.length ≤ 1000 := fun p hp => by
    have h1 := he p hp
    have h2 : p.steps.length ≤ (Tr.stepss (exs w ps)).length := by rw [stepss_flat]; exact length_flat Tr.steps _ p hp
    have h3 := depth_told p h1
    exact ⟨by omega, h1, by omega⟩
  refine run_rt ?_
  show seqD _ _ [Sl.fz (.str w), Sl.fz (.lst (ps.map Tr.T)), .un, .un] = _
  have s0 : (dSet 2 (xOw (fLst aNil)) [Sl.fz (.str w), Sl.fz (.lst (ps.map Tr.T)), .un, .un] : M W Fl) = ret (.nx [Sl.fz (.str w), Sl.fz (.lst (ps.map Tr.T)), .ow [], .un]) := rfl
  refine (seq_nx s0).trans ?_
  obtain ⟨ρ', hr, as, bs, x3, h1, h2, h3⟩ := dFor_inv (W := W) (i := 3) (fi := fItems (fVar 1)) (g := dExtB 2 (fIf (bAnd (bNot (fB (f1 (isaT "str") (fVar 3)))) (fB (f2 (eqT false) (f2 ixT (fVar 3) (fC (.int 0))) (fVar 0)))) (f2 ixT (fVar 3) (fC (.int 1))) (asL (fLst (aCons (fVar 3) aNil)))))
    (ρ := [Sl.fz (.str w), Sl.fz (.lst (ps.map Tr.T)), .ow [], .un]) (ts := ps.map Tr.T)
    (fun ts ρ => ∃ as bs x3, ps = as ++ bs ∧ ts = bs.map Tr.T ∧ ρ = [Sl.fz (.str w), Sl.fz (.lst (ps.map Tr.T)), .ow ((exs w as).map Tr.T), x3]) (fItems_l rfl) ⟨[], ps, .un, rfl, rfl, rfl⟩ (fun t ts ρ h' => by
      obtain ⟨as, bs, x3, e1, e2, rfl⟩ := h'
      cases bs with
      | nil => cases e2
      | cons p bs =>
        rw [List.map_cons] at e2
        injection e2 with e2 e3
        subst e2
        subst e3
        have hp := h p (by rw [e1]; simp)
        obtain ⟨t, q1, q2⟩ := ex_e (W := W) (w := w) (ρ := [Sl.fz (.str w), Sl.fz (.lst (ps.map Tr.T)), .ow ((exs w as).map Tr.T), .fz p.T]) hp rfl rfl hw
        have hsz : (exs w as).length + (ex w p).length ≤ 30 := by
          have : (exs w ps).length ≤ 30 := by omega
          rw [e1, exs_app, exs_cons, List.length_append, List.length_append] at this
          omega
        refine ⟨[Sl.fz (.str w), Sl.fz (.lst (ps.map Tr.T)), .ow ((exs w (as ++ [p])).map Tr.T), .fz p.T], ?_, as ++ [p], bs, .fz p.T, by rw [e1]; simp, rfl, rfl⟩
        show bnd (fIf _ _ _ [Sl.fz (.str w), Sl.fz (.lst (ps.map Tr.T)), .ow ((exs w as).map Tr.T), .fz p.T]) _ = _
        rw [q1, ret_bnd, q2, ret_bnd, if_pos (by rw [List.length_map, List.length_map, sizeLine_eq]; omega), exs_app, exs_cons, List.map_append, List.map_append]
        have : exs w [] = [] := rfl
        rw [this, List.map_nil, List.append_nil]
        rfl)
  refine (seq_nx hr).trans ?_
  have hbs : bs = [] := by cases bs with
    | nil => rfl
    | cons _ _ => cases h2
  subst hbs
  rw [List.append_nil] at h1
  subst h1
  subst h3
  show (dRet _ [Sl.fz (.str w), Sl.fz (.lst (ps.map Tr.T)), .fz (.lst ((exs w ps).map Tr.T)), x3] : M W Fl) = _
  refine dRet_e ?_
  have ev : (fIf (fB (f2 (eqT false) (fVar 0) (fC (.str "behind")))) (fVar 2) (asL (fSortK (F_least_step c) (fVar 2))) [Sl.fz (.str w), Sl.fz (.lst (ps.map Tr.T)), .fz (.lst ((exs w ps).map Tr.T)), x3] : M W T) = ret (.lst ((if (w == "behind") = true then exs w ps else sortL (exs w ps)).map Tr.T)) := by
    have ec : (fB (f2 (eqT false) (fVar 0) (fC (.str "behind"))) [Sl.fz (.str w), Sl.fz (.lst (ps.map Tr.T)), .fz (.lst ((exs w ps).map Tr.T)), x3] : M W Bool) = ret (w == "behind") := fB_e (f2_e (t := .str w) (u := .str "behind") rfl rfl (by rw [eq_str]; rfl))
    cases hb : (w == ("behind" : Str)) with
    | true =>
      rw [hb] at ec
      rw [if_pos rfl]
      exact (fIf_t ec).trans rfl
    | false =>
      rw [hb] at ec
      rw [if_neg (by simp)]
      exact (fIf_f ec).trans (asL_e (fSortK_e c rfl hgood (by omega)))
  have := fTup_e (W := W) (ρ := [Sl.fz (.str w), Sl.fz (.lst (ps.map Tr.T)), .fz (.lst ((exs w ps).map Tr.T)), x3]) (aCons_e (fa := fVar 0) (t := .str w) rfl (aCons_e (f1_e (g := tupT) ev rfl) aNil_e)) (by simp)
  refine this.trans ?_
  unfold flatT
  rw [Tr.T, Ts_map]
theorem up_T_leaf {p q : Tr} (h : isA p = false) : (upT p q).T = .tup [.str "again", p.T, q.T] := by rw [up_no h, Tr.T]
theorem F_plain_told_e (c : Cs) : ∀ (n : Nat) (t : Tr), t.depth ≤ n → t.told = true → t.steps.length ≤ 30 → F_plain_told c n [t.T] = (ret (plainT t).T : M W T)
  | 0, t, hd, _, _ => by have := depth_pos t; omega
  | n + 1, t, hd, ht, hl => by
    show run 3 (g_plain_told c (F_plain_told c n)) [t.T] = _
    unfold g_plain_told
    refine run_rt ?_
    cases t with
    | leaf s =>
      refine (seq_rt ((dIf_t (fB_e (f1_e (t := .str s) rfl isa_str_str))).trans (dRet_e rfl))).trans ?_
      rw [plainT, Tr.T]
    | join w ps =>
      obtain ⟨hw, h2, h3⟩ := told_join.mp ht
      have each : ∀ p ∈ ps, F_plain_told c n [p.T] = (ret (plainT p).T : M W T) := fun p hp => F_plain_told_e c n p (by have := parts_depth (t := .join w ps) p hp; omega) (h3 p hp) (parts_short hl p hp)
      have hps : (Tr.stepss ps).length ≤ 30 := by rw [Tr.steps] at hl; exact hl
      have hlen := few h3
      refine (seq_nx (dIf_f (fB_e (f1_e (t := (Tr.join w ps).T) rfl (isa_node fun s z => by cases z))))).trans ?_
      rw [Tr.T, Ts_map]
      have i0 : (f2 ixT (fVar 0) (fC (.int 0)) [Sl.fz (.tup [.str w, .tup (ps.map Tr.T)]), .un, .un, .un] : M W T) = ret (.str w) := f2_e (t := .tup [.str w, .tup (ps.map Tr.T)]) (u := .int 0) rfl rfl rfl
      have i1 : (f2 ixT (fVar 0) (fC (.int 1)) [Sl.fz (.tup [.str w, .tup (ps.map Tr.T)]), .un, .un, .un] : M W T) = ret (.tup (ps.map Tr.T)) := f2_e (t := .tup [.str w, .tup (ps.map Tr.T)]) (u := .int 1) rfl rfl rfl
      refine (seq_rt ((dIf_t (fB_e (f2_e (u := .str "again") i0 rfl (by rw [eq_str, join_again hw]; rfl)))).trans (dRet_e ?_)))
      have hc := fLc_mapP (W := W) (fi := fItems (f2 ixT (fVar 0) (fC (.int 1)))) (vs := [1]) (i := 1) (ge := fCall 1 (aCons (fVar 1) aNil) (F_plain_told c n)) (ρ := [Sl.fz (.tup [.str w, .tup (ps.map Tr.T)]), .un, .un, .un]) ps Tr.T (fun p => (plainT p).T) (fItems_t i1) (by rw [sizeLine_eq]; omega) (fun p hp => (fCall_e (aCons_e rfl aNil_e) rfl).trans (each p hp))
      have hf := F_flat_e (W := W) c (w := w) (ps := plainTs ps) hw (plains_told ps (tolds_of h3)) (by rw [(plains_steps ps).length_eq]; exact hps)
      refine (fCall_e (aCons_e i0 (aCons_e (asL_e hc) aNil_e)) rfl).trans ?_
      rw [plainT, ← hf, plainTs_map, List.map_map]
      rfl
    | again a b =>
      obtain ⟨ha, hb⟩ := told_again.mp ht
      have da := parts_depth (t := .again a b) a (by simp [Tr.parts])
      have db := parts_depth (t := .again a b) b (by simp [Tr.parts])
      have sa := parts_short hl a (by simp [Tr.parts])
      have sb := parts_short hl b (by simp [Tr.parts])
      have pa := F_plain_told_e c n a (by omega) ha sa
      have pb := F_plain_told_e c n b (by omega) hb sb
      have ta := plain_told a ha
      have tb := plain_told b hb
      have hs : (plainT a).steps.length + (plainT b).steps.length ≤ 30 := by
        rw [(plain_steps a).length_eq, (plain_steps b).length_eq]
        rw [Tr.steps, List.length_append] at hl
        exact hl
      refine (seq_nx (dIf_f (fB_e (f1_e (t := (Tr.again a b).T) rfl (isa_node fun s z => by cases z))))).trans ?_
      rw [Tr.T]
      have i0 : (f2 ixT (fVar 0) (fC (.int 0)) [Sl.fz (.tup [.str "again", a.T, b.T]), .un, .un, .un] : M W T) = ret (.str "again") := f2_e (t := .tup [.str "again", a.T, b.T]) (u := .int 0) rfl rfl rfl
      refine (seq_nx (dIf_f (fB_e (f2_e (u := .str "again") i0 rfl (by rw [eq_str]; simp))))).trans ?_
      have e1 : (fCall 1 (aCons (f2 ixT (fVar 0) (fC (.int 1))) aNil) (F_plain_told c n) [Sl.fz (.tup [.str "again", a.T, b.T]), .un, .un, .un] : M W T) = ret (plainT a).T := (fCall_e (ts := [a.T]) (aCons_e (f2_e (t := .tup [.str "again", a.T, b.T]) (u := .int 1) rfl rfl rfl) aNil_e) rfl).trans pa
      have e2 : (fCall 1 (aCons (f2 ixT (fVar 0) (fC (.int 2))) aNil) (F_plain_told c n) [Sl.fz (.tup [.str "again", a.T, b.T]), .un, .un, .un] : M W T) = ret (plainT b).T := (fCall_e (ts := [b.T]) (aCons_e (f2_e (t := .tup [.str "again", a.T, b.T]) (u := .int 2) rfl rfl rfl) aNil_e) rfl).trans pb
      have e3 : (dPar 2 3 (xFz (fCall 1 (aCons (f2 ixT (fVar 0) (fC (.int 1))) aNil) (F_plain_told c n))) (xFz (fCall 1 (aCons (f2 ixT (fVar 0) (fC (.int 2))) aNil) (F_plain_told c n))) [Sl.fz (.tup [.str "again", a.T, b.T]), .un, .un, .un] : M W Fl) = ret (.nx [Sl.fz (.tup [.str "again", a.T, b.T]), .un, .fz (plainT a).T, .fz (plainT b).T]) := by
        unfold dPar
        rw [xFz_e e1, ret_bnd, xFz_e e2, ret_bnd]
        rfl
      refine (seq_nx e3).trans ?_
      rw [plainT]
      generalize plainT a = p at *
      generalize plainT b = q at *
      cases p with
      | leaf s =>
        refine (seq_rt ((dIf_t (bOr_t (fB_e (f1_e (t := .str s) (by rw [Tr.T]; rfl) isa_str_str)))).trans (dRet_e ?_)))
        exact (fTup_e (ts := [.str "again", (Tr.leaf s).T, q.T]) (aCons_e rfl (aCons_e rfl (aCons_e rfl aNil_e))) (by simp)).trans (by rw [up_T_leaf rfl])
      | join w ps =>
        have hj := (told_join.mp ta).1
        refine (seq_rt ((dIf_t ((bOr_f (fB_e (f1_e (t := (Tr.join w ps).T) rfl (isa_node fun s z => by cases z)))).trans (fB_e (f2_e (t := .str w) (u := .str "again") (f2_e (t := (Tr.join w ps).T) (u := .int 0) rfl rfl (by rw [Tr.T]; rfl)) rfl (by rw [eq_str, join_again hj]; rfl))))).trans (dRet_e ?_)))
        exact (fTup_e (ts := [.str "again", (Tr.join w ps).T, q.T]) (aCons_e rfl (aCons_e rfl (aCons_e rfl aNil_e))) (by simp)).trans (by rw [up_T_leaf rfl])
      | again x y =>
        obtain ⟨hx, hy⟩ := told_again.mp ta
        have hst : (Tr.stepss [y, q]).length ≤ 30 := by
          simp only [Tr.stepss, Tr.steps, List.append_nil, List.length_append] at hs ⊢
          omega
        have hf := F_flat_e (W := W) c (w := "either") (ps := [y, q]) isJoin_either (fun r hr => by
          simp only [List.mem_cons, List.not_mem_nil, or_false] at hr
          rcases hr with rfl | rfl
          · exact hy
          · exact tb) hst
        refine (seq_nx (dIf_f ((bOr_f (fB_e (f1_e (t := (Tr.again x y).T) rfl (isa_node fun s z => by cases z)))).trans (fB_e (f2_e (t := .str "again") (u := .str "again") (f2_e (t := (Tr.again x y).T) (u := .int 0) rfl rfl (by rw [Tr.T]; rfl)) rfl (by rw [eq_str]; simp)))))).trans (dRet_e ?_)
        have j1 : (f2 ixT (fVar 2) (fC (.int 1)) [Sl.fz (.tup [.str "again", a.T, b.T]), .un, .fz (Tr.again x y).T, .fz q.T] : M W T) = ret x.T := f2_e (t := (Tr.again x y).T) (u := .int 1) rfl rfl (by rw [Tr.T]; rfl)
        have j2 : (f2 ixT (fVar 2) (fC (.int 2)) [Sl.fz (.tup [.str "again", a.T, b.T]), .un, .fz (Tr.again x y).T, .fz q.T] : M W T) = ret y.T := f2_e (t := (Tr.again x y).T) (u := .int 2) rfl rfl (by rw [Tr.T]; rfl)
        have j3 := (fCall_e (W := W) (n := 2) (Fn := F_flat c) (ρ := [Sl.fz (.tup [.str "again", a.T, b.T]), .un, .fz (Tr.again x y).T, .fz q.T]) (aCons_e (fa := fC (.str "either")) (t := .str "either") rfl (aCons_e (asL_e (fLst_e (aCons_e j2 (aCons_e (fa := fVar 3) (t := q.T) rfl aNil_e)) (by simp))) aNil_e)) rfl).trans hf
        refine (fTup_e (aCons_e rfl (aCons_e j1 (aCons_e j3 aNil_e))) (by simp)).trans ?_
        show _ = ret (Tr.again x (flatT "either" [y, q])).T
        rw [Tr.T]
end
end PL

set_option maxHeartbeats 4000000
namespace PL
open PySem L2
/-! U5: _law_once of a told tree. -/
section
variable {W : Type}
theorem runL_rl {m : Nat} {g : Rho → M W Fg} {ts us : List T} (e : g (ts.map Sl.fz ++ List.replicate m Sl.un) = ret (.rl us)) : runL m g ts = ret us := by unfold runL; rw [e]; rfl
theorem seqG_nx {g : Rho → M W Fl} {h : Rho → M W Fg} {ρ ρ' : Rho} (e : g ρ = ret (.nx ρ')) : seqG g h ρ = h ρ' := by unfold seqG; rw [e]; rfl
theorem seqGG_nx {g h : Rho → M W Fg} {ρ ρ' : Rho} (e : g ρ = ret (.nx ρ')) : seqGG g h ρ = h ρ' := by unfold seqGG; rw [e]; rfl
theorem seqGG_rl {g h : Rho → M W Fg} {ρ : Rho} {us : List T} (e : g ρ = ret (.rl us)) : seqGG g h ρ = ret (.rl us) := by unfold seqGG; rw [e]; rfl
theorem gIf_t {gc : Rho → M W Bool} {g h : Rho → M W Fg} {ρ : Rho} (e : gc ρ = ret true) : gIf gc g h ρ = g ρ := by unfold gIf; rw [e]; rfl
theorem gIf_f {gc : Rho → M W Bool} {g h : Rho → M W Fg} {ρ : Rho} (e : gc ρ = ret false) : gIf gc g h ρ = h ρ := by unfold gIf; rw [e]; rfl
theorem gRet_e {fl : Rho → M W (List T)} {ρ : Rho} {us : List T} (e : fl ρ = ret us) : gRet fl ρ = ret (.rl us) := by unfold gRet; rw [e]; rfl
theorem fCallL_e {n : Nat} {fa : Rho → M W (List T)} {Fn : List T → M W (List T)} {ρ : Rho} {ts : List T} (e : fa ρ = ret ts) (hn : ts.length = n) : fCallL n fa Fn ρ = Fn ts := by unfold fCallL; rw [e, ret_bnd, if_pos hn]
theorem xOw_e {fl : Rho → M W (List T)} {ρ : Rho} {us : List T} (e : fl ρ = ret us) : xOw fl ρ = ret (.ow us) := by unfold xOw; rw [e]; rfl
theorem f2l_e {g : T → T → Option (List T)} {fa fb : Rho → M W T} {ρ : Rho} {t u : T} {v : List T} (e : fa ρ = ret t) (e2 : fb ρ = ret u) (h : g t u = some v) : f2l g fa fb ρ = ret v := by unfold f2l; rw [e, ret_bnd, e2, ret_bnd, h]; rfl
/-! ### places of a tuple -/
def nums : Nat → Nat → List T
  | _, 0 => []
  | k, n + 1 => .int (k : Nat) :: nums (k + 1) n
theorem nums_ints : ∀ (n k : Nat), ((List.range' k n).map fun j => T.int ((j : Nat) : Int)) = nums k n
  | 0, _ => rfl
  | n + 1, k => by
    rw [List.range'_succ, List.map_cons, nums_ints n (k + 1)]
    rfl
theorem ints_nums (n : Nat) : intsT 0 n = nums 0 n := by
  rw [← nums_ints, ← List.range_eq_range']
  unfold intsT
  refine List.map_congr_left fun j _ => ?_
  congr 1
  omega
theorem at_app {α : Type} (xs : List α) (p : α) (ys : List α) : atI (xs ++ p :: ys) ((xs.length : Nat) : Int) = some p := by
  have : ixN (xs ++ p :: ys).length ((xs.length : Nat) : Int) = some xs.length := by
    unfold ixN
    simp
    omega
  unfold atI
  rw [this]
  simp
theorem cut_lo {α : Type} (xs ys : List α) : cutA (xs ++ ys) none (some ((xs.length : Nat) : Int)) = xs := by
  unfold cutA
  rw [HT.sIx_none, HT.sIx_nat, List.drop_zero, Nat.sub_zero, List.length_append, Nat.min_eq_left (by omega), List.take_left]
theorem cut_hi {α : Type} (xs ys : List α) : cutA (xs ++ ys) (some ((xs.length : Nat) : Int)) none = ys := by
  unfold cutA
  rw [HT.sIx_none, HT.sIx_nat, List.length_append, Nat.min_eq_left (by omega), List.drop_left, Nat.add_sub_cancel_left, List.take_length]
theorem lo_T (as : List Tr) (p : Tr) (bs : List Tr) : sliceT none (some ((as.length : Nat) : Int)) (.tup ((as ++ p :: bs).map Tr.T)) = some (.tup (as.map Tr.T)) := by
  show some (T.tup (cutA ((as ++ p :: bs).map Tr.T) none (some ((as.length : Nat) : Int)))) = _
  have := cut_lo (as.map Tr.T) ((p :: bs).map Tr.T)
  rw [List.length_map] at this
  rw [List.map_append, this]
theorem hi_T (as : List Tr) (p : Tr) (bs : List Tr) : sliceT (some (((as.length + 1 : Nat)) : Int)) none (.tup ((as ++ p :: bs).map Tr.T)) = some (.tup (bs.map Tr.T)) := by
  show some (T.tup (cutA ((as ++ p :: bs).map Tr.T) (some ((as.length + 1 : Nat) : Int)) none)) = _
  have := cut_hi ((as ++ [p]).map Tr.T) (bs.map Tr.T)
  rw [List.length_map, List.length_append, List.length_singleton] at this
  rw [show as ++ p :: bs = (as ++ [p]) ++ bs from by simp, List.map_append, this]
theorem ix_T (as : List Tr) (p : Tr) (bs : List Tr) : ixT (.tup ((as ++ p :: bs).map Tr.T)) (.int ((as.length : Nat) : Int)) = some p.T := by
  show atI ((as ++ p :: bs).map Tr.T) ((as.length : Nat) : Int) = _
  have := at_app (as.map Tr.T) p.T (bs.map Tr.T)
  rw [List.length_map] at this
  rw [List.map_append, List.map_cons, this]
theorem addT_tups {xs ys : List T} (h : xs.length + ys.length ≤ 1000) : addT (.tup xs) (.tup ys) = some (.tup (xs ++ ys)) := if_pos (by rw [sizeLine_eq]; omega)
theorem F_law_least_e (c : Cs) {t : Tr} (hd : t.depth ≤ 30) (ht : t.told = true) (hl : t.steps.length ≤ 1000) : F__law_least c [t.T] = (ret (.str (least t)) : M W T) :=
  run_rt (dRet_e (f1_e ((fCall_e (aCons_e rfl aNil_e) rfl).trans (F_law_steps_e c 30 t hd (told_wd t ht) hl)) (minT_strs (steps_ne ht))))
/-! ### the loop of _law_once -/
abbrev r7 (t : T) (x1 : Sl) (w : Str) (ps us : List Tr) (k x6 : Sl) : Rho := [.fz t, x1, .fz (.str w), .fz (.tup (ps.map Tr.T)), .ow (us.map Tr.T), k, x6]
theorem append_e {fa : Rho → M W T} {t : T} {x1 x5 x6 : Sl} {w : Str} {ps us : List Tr} {u : Tr} (e : fa (r7 t x1 w ps us x5 x6) = ret u.T) (h : us.length ≤ 1000) : dAppend 4 fa (r7 t x1 w ps us x5 x6) = ret (.nx (r7 t x1 w ps (us ++ [u]) x5 x6)) := by
  show bnd (fa (r7 t x1 w ps us x5 x6)) _ = _
  rw [e, ret_bnd, if_pos (by rw [List.length_map, sizeLine_eq]; omega)]
  show ret (Fl.nx [.fz t, x1, .fz (.str w), .fz (.tup (ps.map Tr.T)), .ow (us.map Tr.T ++ [u.T]), x5, x6]) = ret (Fl.nx [.fz t, x1, .fz (.str w), .fz (.tup (ps.map Tr.T)), .ow ((us ++ [u]).map Tr.T), x5, x6])
  rw [List.map_append]
  rfl
theorem once_flat (c : Cs) {w : Str} {as bs us : List Tr} {p : Tr} {t : T} {x1 : Sl} (hw : isJoin w = true) (h : ∀ q ∈ as ++ p :: bs, q.told = true) (hl : (Tr.stepss (as ++ p :: bs)).length ≤ 30) (hu : us.length ≤ 1000) :
    ∃ us1, (dIf (bAnd (bNot (fB (f1 (isaT "str") (fVar 6)))) (fB (f2 (eqT false) (f2 ixT (fVar 6) (fC (.int 0))) (fVar 2)))) (dAppend 4 (fTup (aCons (fVar 2) (aCons (f2 addT (f2 addT (fSlice (fVar 3) fNoPart (fPart (fVar 5))) (f2 ixT (fVar 6) (fC (.int 1)))) (fSlice (fVar 3) (fPart (f2 addT (fVar 5) (fC (.int 1)))) fNoPart)) aNil)))) (fun ρ => ret (.nx ρ)) (r7 t x1 w (as ++ p :: bs) us (.fz (.int ((as.length : Nat) : Int))) (.fz p.T)) : M W Fl) = ret (.nx (r7 t x1 w (as ++ p :: bs) us1 (.fz (.int ((as.length : Nat) : Int))) (.fz p.T))) ∧
      (∀ u ∈ us1, u ∈ us ∨ St (.join w (as ++ p :: bs)) u) ∧ (us1 = [] ↔ us = [] ∧ isJ w p = false) ∧ us1.length ≤ us.length + 1 := by
  have hp := h p (by simp)
  cases p with
  | leaf s =>
    have e1 : (fB (f1 (isaT "str") (fVar 6)) (r7 t x1 w (as ++ .leaf s :: bs) us (.fz (.int ((as.length : Nat) : Int))) (.fz (Tr.leaf s).T)) : M W Bool) = ret true := fB_e (f1_e (t := (Tr.leaf s).T) rfl (by rw [Tr.T]; exact isa_str_str))
    exact ⟨us, (dIf_f (bAnd_f (bNot_e e1))).trans rfl, fun u hu => .inl hu, by simp [isJ], by omega⟩
  | again a b =>
    have e1 : (fB (f1 (isaT "str") (fVar 6)) (r7 t x1 w (as ++ .again a b :: bs) us (.fz (.int ((as.length : Nat) : Int))) (.fz (Tr.again a b).T)) : M W Bool) = ret false := fB_e (f1_e (t := (Tr.again a b).T) rfl (isa_node fun s z => by cases z))
    have hv : (("again" : Str) == w) = false := by
      rw [BEq.comm]
      exact join_again hw
    have e2 : (fB (f2 (eqT false) (f2 ixT (fVar 6) (fC (.int 0))) (fVar 2)) (r7 t x1 w (as ++ .again a b :: bs) us (.fz (.int ((as.length : Nat) : Int))) (.fz (Tr.again a b).T)) : M W Bool) = ret false := fB_e (f2_e (t := .str "again") (u := .str w) (f2_e (t := (Tr.again a b).T) (u := .int 0) rfl rfl (by rw [Tr.T]; rfl)) rfl (by rw [eq_str, hv]; rfl))
    exact ⟨us, (dIf_f ((bAnd_t (bNot_e e1)).trans e2)).trans rfl, fun u hu => .inl hu, by simp [isJ], by omega⟩
  | join v qs =>
    have e1 : (fB (f1 (isaT "str") (fVar 6)) (r7 t x1 w (as ++ .join v qs :: bs) us (.fz (.int ((as.length : Nat) : Int))) (.fz (Tr.join v qs).T)) : M W Bool) = ret false := fB_e (f1_e (t := (Tr.join v qs).T) rfl (isa_node fun s z => by cases z))
    have e2 : (fB (f2 (eqT false) (f2 ixT (fVar 6) (fC (.int 0))) (fVar 2)) (r7 t x1 w (as ++ .join v qs :: bs) us (.fz (.int ((as.length : Nat) : Int))) (.fz (Tr.join v qs).T)) : M W Bool) = ret (v == w) := fB_e (f2_e (t := .str v) (u := .str w) (f2_e (t := (Tr.join v qs).T) (u := .int 0) rfl rfl (by rw [Tr.T]; rfl)) rfl (by rw [eq_str]; rfl))
    cases hv : (v == w) with
    | false =>
      rw [hv] at e2
      exact ⟨us, (dIf_f ((bAnd_t (bNot_e e1)).trans e2)).trans rfl, fun u hu => .inl hu, by simp [isJ, hv], by omega⟩
    | true =>
      rw [hv] at e2
      have evw : v = w := by simpa using hv
      subst evw
      have hfew := few h
      have hq := few (told_join.mp hp).2.2
      rw [stepss_app, Tr.stepss, Tr.steps] at hl
      have hfl : as.length + qs.length + bs.length ≤ 100 := by
        have q1 := few (ps := as) fun q hq => h q (by simp [hq])
        have q2 := few (ps := bs) fun q hq => h q (by simp [hq])
        simp only [List.length_append] at hl
        omega
      refine ⟨us ++ [.join v (as ++ (qs ++ bs))], (dIf_t ((bAnd_t (bNot_e e1)).trans e2)).trans (append_e ?_ hu), fun u hu => ?_, by simp [isJ], by simp⟩
      · have f3 : (fSlice (fVar 3) fNoPart (fPart (fVar 5)) (r7 t x1 v (as ++ .join v qs :: bs) us (.fz (.int ((as.length : Nat) : Int))) (.fz (Tr.join v qs).T)) : M W T) = ret (.tup (as.map Tr.T)) := fSlice_e (t := .tup ((as ++ .join v qs :: bs).map Tr.T)) rfl rfl rfl (lo_T as _ bs)
        have f4 : (fSlice (fVar 3) (fPart (f2 addT (fVar 5) (fC (.int 1)))) fNoPart (r7 t x1 v (as ++ .join v qs :: bs) us (.fz (.int ((as.length : Nat) : Int))) (.fz (Tr.join v qs).T)) : M W T) = ret (.tup (bs.map Tr.T)) := fSlice_e (t := .tup ((as ++ .join v qs :: bs).map Tr.T)) (lo := some ((as.length + 1 : Nat) : Int)) rfl rfl rfl (hi_T as _ bs)
        have f5 : (f2 ixT (fVar 6) (fC (.int 1)) (r7 t x1 v (as ++ .join v qs :: bs) us (.fz (.int ((as.length : Nat) : Int))) (.fz (Tr.join v qs).T)) : M W T) = ret (.tup (qs.map Tr.T)) := f2_e (t := (Tr.join v qs).T) (u := .int 1) rfl rfl (by rw [Tr.T, Ts_map]; rfl)
        have f6 := f2_e f3 f5 (addT_tups (by simp only [List.length_map]; omega))
        have f7 := f2_e f6 f4 (addT_tups (by simp only [List.length_map, List.length_append]; omega))
        refine (fTup_e (aCons_e (fa := fVar 2) (t := .str v) rfl (aCons_e f7 aNil_e)) (by simp)).trans ?_
        rw [Tr.T, Ts_map, List.map_append, List.map_append, List.append_assoc]
      · rcases List.mem_append.mp hu with hu | hu
        · exact .inl hu
        · rw [List.mem_singleton.mp hu]
          exact .inr (.flat v as qs bs)
theorem once_swap (c : Cs) {w : Str} {as bs us : List Tr} {p : Tr} {t : T} {x1 : Sl} (h : ∀ q ∈ as ++ p :: bs, q.told = true) (hl : (Tr.stepss (as ++ p :: bs)).length ≤ 30) (hu : us.length ≤ 1000) :
    ∃ us1, (dIf (bAnd (fB (f2 (eqT true) (fVar 2) (fC (.str "behind")))) (bAnd (fB (f2 (ltT fun i j => decide (j < i)) (fVar 5) (fC (.int 0)))) (fB (f2 ltS (fCall 1 (aCons (f2 ixT (fVar 3) (fVar 5)) aNil) (F__law_least c)) (fCall 1 (aCons (f2 ixT (fVar 3) (f2 subT (fVar 5) (fC (.int 1)))) aNil) (F__law_least c)))))) (dAppend 4 (fTup (aCons (fVar 2) (aCons (f2 addT (f2 addT (fSlice (fVar 3) fNoPart (fPart (f2 subT (fVar 5) (fC (.int 1))))) (fTup (aCons (f2 ixT (fVar 3) (fVar 5)) (aCons (f2 ixT (fVar 3) (f2 subT (fVar 5) (fC (.int 1)))) aNil)))) (fSlice (fVar 3) (fPart (f2 addT (fVar 5) (fC (.int 1)))) fNoPart)) aNil)))) (fun ρ => ret (.nx ρ)) (r7 t x1 w (as ++ p :: bs) us (.fz (.int ((as.length : Nat) : Int))) (.fz p.T)) : M W Fl) = ret (.nx (r7 t x1 w (as ++ p :: bs) us1 (.fz (.int ((as.length : Nat) : Int))) (.fz p.T))) ∧
      (∀ u ∈ us1, u ∈ us ∨ St (.join w (as ++ p :: bs)) u) ∧ (us1 = [] ↔ us = [] ∧ (w ≠ "behind" → ∀ as' a, as = as' ++ [a] → leT a p = true)) ∧ us1.length ≤ us.length + 1 := by
  have hb : (fB (f2 (eqT true) (fVar 2) (fC (.str "behind"))) (r7 t x1 w (as ++ p :: bs) us (.fz (.int ((as.length : Nat) : Int))) (.fz p.T)) : M W Bool) = ret (!(w == "behind")) := fB_e (f2_e (t := .str w) (u := .str "behind") rfl rfl (by rw [eq_str]; rfl))
  cases hw : (w == ("behind" : Str)) with
  | true =>
    rw [hw] at hb
    refine ⟨us, (dIf_f (bAnd_f hb)).trans rfl, fun u hu => .inl hu, ⟨fun z => ⟨z, fun n => absurd (by simpa using hw) n⟩, fun z => z.1⟩, by omega⟩
  | false =>
    rw [hw] at hb
    have hwn : w ≠ "behind" := by simpa using hw
    have hc : (fB (f2 (ltT fun i j => decide (j < i)) (fVar 5) (fC (.int 0))) (r7 t x1 w (as ++ p :: bs) us (.fz (.int ((as.length : Nat) : Int))) (.fz p.T)) : M W Bool) = ret (decide ((0 : Int) < ((as.length : Nat) : Int))) := fB_e (f2_e (t := .int ((as.length : Nat) : Int)) (u := .int 0) rfl rfl rfl)
    rcases List.eq_nil_or_concat as with rfl | ⟨ar, a, rfl⟩
    · refine ⟨us, (dIf_f ((bAnd_t hb).trans (bAnd_f hc))).trans rfl, fun u hu => .inl hu, ⟨fun z => ⟨z, fun _ as' a e => absurd e (by simp)⟩, fun z => z.1⟩, by omega⟩
    · rw [List.concat_eq_append] at *
      have hc' : decide ((0 : Int) < (((ar ++ [a]).length : Nat) : Int)) = true := by rw [decide_eq_true_eq, List.length_append, List.length_singleton]; omega
      rw [hc'] at hc
      have ep : (f2 ixT (fVar 3) (fVar 5) (r7 t x1 w ((ar ++ [a]) ++ p :: bs) us (.fz (.int (((ar ++ [a]).length : Nat) : Int))) (.fz p.T)) : M W T) = ret p.T := f2_e (t := .tup (((ar ++ [a]) ++ p :: bs).map Tr.T)) (u := .int (((ar ++ [a]).length : Nat) : Int)) rfl rfl (ix_T (ar ++ [a]) p bs)
      have es : (f2 subT (fVar 5) (fC (.int 1)) (r7 t x1 w ((ar ++ [a]) ++ p :: bs) us (.fz (.int (((ar ++ [a]).length : Nat) : Int))) (.fz p.T)) : M W T) = ret (.int ((ar.length : Nat) : Int)) := f2_e (t := .int (((ar ++ [a]).length : Nat) : Int)) (u := .int 1) rfl rfl (by
        rw [sub_e]
        congr 2
        rw [List.length_append, List.length_singleton]
        omega)
      have hsp : (ar ++ [a]) ++ p :: bs = ar ++ a :: p :: bs := by simp
      have ea : (f2 ixT (fVar 3) (f2 subT (fVar 5) (fC (.int 1))) (r7 t x1 w ((ar ++ [a]) ++ p :: bs) us (.fz (.int (((ar ++ [a]).length : Nat) : Int))) (.fz p.T)) : M W T) = ret a.T := f2_e (t := .tup (((ar ++ [a]) ++ p :: bs).map Tr.T)) rfl es (by rw [hsp]; exact ix_T ar a (p :: bs))
      have hp := h p (by simp)
      have ha := h a (by simp)
      have hpl : p.steps.length ≤ 30 ∧ a.steps.length ≤ 30 := by
        rw [stepss_flat] at hl
        exact ⟨Nat.le_trans (length_flat Tr.steps _ p (by simp)) hl, Nat.le_trans (length_flat Tr.steps _ a (by simp)) hl⟩
      have hpd := depth_told p hp
      have had := depth_told a ha
      have hlt : (fB (f2 ltS (fCall 1 (aCons (f2 ixT (fVar 3) (fVar 5)) aNil) (F__law_least c)) (fCall 1 (aCons (f2 ixT (fVar 3) (f2 subT (fVar 5) (fC (.int 1)))) aNil) (F__law_least c))) (r7 t x1 w ((ar ++ [a]) ++ p :: bs) us (.fz (.int (((ar ++ [a]).length : Nat) : Int))) (.fz p.T)) : M W Bool) = ret (decide (kl (least p) < kl (least a))) :=
        fB_e (f2_e (t := .str (least p)) (u := .str (least a)) ((fCall_e (aCons_e ep aNil_e) rfl).trans (F_law_least_e c (by omega) hp (by omega))) ((fCall_e (aCons_e ea aNil_e) rfl).trans (F_law_least_e c (by omega) ha (by omega))) rfl)
      by_cases hk : kl (least p) < kl (least a)
      · rw [decide_eq_true hk] at hlt
        have hfl : ar.length + bs.length ≤ 100 := by
          have := few h
          simp only [List.length_append, List.length_cons] at this
          omega
        refine ⟨us ++ [.join w (ar ++ p :: a :: bs)], (dIf_t ((bAnd_t hb).trans ((bAnd_t hc).trans hlt))).trans (append_e ?_ hu), fun u hu => ?_, ?_, by simp⟩
        · have f3 : (fSlice (fVar 3) fNoPart (fPart (f2 subT (fVar 5) (fC (.int 1)))) (r7 t x1 w ((ar ++ [a]) ++ p :: bs) us (.fz (.int (((ar ++ [a]).length : Nat) : Int))) (.fz p.T)) : M W T) = ret (.tup (ar.map Tr.T)) := fSlice_e (t := .tup (((ar ++ [a]) ++ p :: bs).map Tr.T)) rfl rfl (fPart_e es) (by rw [hsp]; exact lo_T ar a (p :: bs))
          have f4 : (fSlice (fVar 3) (fPart (f2 addT (fVar 5) (fC (.int 1)))) fNoPart (r7 t x1 w ((ar ++ [a]) ++ p :: bs) us (.fz (.int (((ar ++ [a]).length : Nat) : Int))) (.fz p.T)) : M W T) = ret (.tup (bs.map Tr.T)) := fSlice_e (t := .tup (((ar ++ [a]) ++ p :: bs).map Tr.T)) (lo := some (((ar ++ [a]).length + 1 : Nat) : Int)) rfl rfl rfl (hi_T (ar ++ [a]) _ bs)
          have f5 := fTup_e (W := W) (aCons_e ep (aCons_e ea aNil_e)) (by simp)
          have f6 := f2_e f3 f5 (addT_tups (by simp only [List.length_map, List.length_cons, List.length_nil]; omega))
          have f7 := f2_e f6 f4 (addT_tups (by simp only [List.length_map, List.length_append, List.length_cons, List.length_nil]; omega))
          refine (fTup_e (aCons_e (fa := fVar 2) (t := .str w) rfl (aCons_e f7 aNil_e)) (by simp)).trans ?_
          rw [Tr.T, Ts_map]
          simp
        · rcases List.mem_append.mp hu with hu | hu
          · exact .inl hu
          · rw [List.mem_singleton.mp hu, hsp]
            exact .inr (.swap w ar a p bs hwn hk)
        · refine ⟨fun z => absurd z (by simp), fun z => ?_⟩
          have := z.2 hwn ar a rfl
          unfold leT at this
          rw [decide_eq_true_eq] at this
          exact absurd hk this
      · rw [decide_eq_false hk] at hlt
        refine ⟨us, (dIf_f ((bAnd_t hb).trans ((bAnd_t hc).trans hlt))).trans rfl, fun u hu => .inl hu, ⟨fun z => ⟨z, fun _ as' a' e => ?_⟩, fun z => z.1⟩, by omega⟩
        have : a' = a := by
          have := List.append_inj_right' e rfl
          simpa using this.symm
        subst this
        unfold leT
        rw [decide_eq_true_eq]
        exact kl_le_of hk
end
end PL

set_option maxHeartbeats 4000000
namespace PL
open PySem L2
/-! U6: what the law's own rules give. -/
def Root : Tr → Prop
  | .leaf _ => True
  | .join w ps => (∀ p ∈ ps, isJ w p = false) ∧ (w ≠ "behind" → ps.Pairwise (fun a b => leT a b = true))
  | .again a _ => isA a = false
def onceB : Tr → Nat
  | .leaf _ => 0
  | .join _ ps => 2 * ps.length
  | .again _ _ => 1
theorem pw_snoc {as : List Tr} {p : Tr} : (as ++ [p]).Pairwise (fun a b => leT a b = true) ↔ as.Pairwise (fun a b => leT a b = true) ∧ ∀ as' a, as = as' ++ [a] → leT a p = true := by
  rw [List.pairwise_append]
  constructor
  · rintro ⟨h1, _, h2⟩
    exact ⟨h1, fun as' a e => h2 a (by rw [e]; simp) p (by simp)⟩
  · rintro ⟨h1, h2⟩
    refine ⟨h1, List.pairwise_singleton _ _, fun a ha b hb => ?_⟩
    rw [List.mem_singleton.mp hb]
    rcases List.eq_nil_or_concat as with rfl | ⟨ar, z, e⟩
    · cases ha
    · rw [List.concat_eq_append] at e
      have hz := h2 ar z e
      rw [e] at ha h1
      rcases List.mem_append.mp ha with ha | ha
      · exact leT_trans _ _ _ ((List.pairwise_append.mp h1).2.2 a ha z (by simp)) hz
      · rw [List.mem_singleton.mp ha]
        exact hz
section
variable {W : Type}
theorem once_join (c : Cs) {w : Str} {ps : List Tr} (ht : (Tr.join w ps).told = true) (hl : (Tr.join w ps).steps.length ≤ 30) :
    ∃ us : List Tr, F__law_once c [(Tr.join w ps).T] = (ret (us.map Tr.T) : M W (List T)) ∧ (∀ u ∈ us, St (.join w ps) u) ∧ (us = [] ↔ Root (.join w ps)) ∧ us.length ≤ onceB (.join w ps) := by
  obtain ⟨hw, h2, h3⟩ := told_join.mp ht
  have hst : (Tr.stepss ps).length ≤ 30 := by rw [Tr.steps] at hl; exact hl
  have hfew := few h3
  obtain ⟨ρ', hr, as, bs, us, x5, x6, h1, hts, hρ, hS, hE, hN⟩ := dFor_inv (W := W) (i := 5) (fi := fRange1 (f1 lenT (fVar 3))) (g := (seqD (dSet 6 (xFz (f2 ixT (fVar 3) (fVar 5)))) (seqD (dIf (bAnd (bNot (fB (f1 (isaT "str") (fVar 6)))) (fB (f2 (eqT false) (f2 ixT (fVar 6) (fC (.int 0))) (fVar 2)))) (dAppend 4 (fTup (aCons (fVar 2) (aCons (f2 addT (f2 addT (fSlice (fVar 3) fNoPart (fPart (fVar 5))) (f2 ixT (fVar 6) (fC (.int 1)))) (fSlice (fVar 3) (fPart (f2 addT (fVar 5) (fC (.int 1)))) fNoPart)) aNil)))) (fun ρ => ret (.nx ρ))) (dIf (bAnd (fB (f2 (eqT true) (fVar 2) (fC (.str "behind")))) (bAnd (fB (f2 (ltT fun i j => decide (j < i)) (fVar 5) (fC (.int 0)))) (fB (f2 ltS (fCall 1 (aCons (f2 ixT (fVar 3) (fVar 5)) aNil) (F__law_least c)) (fCall 1 (aCons (f2 ixT (fVar 3) (f2 subT (fVar 5) (fC (.int 1)))) aNil) (F__law_least c)))))) (dAppend 4 (fTup (aCons (fVar 2) (aCons (f2 addT (f2 addT (fSlice (fVar 3) fNoPart (fPart (f2 subT (fVar 5) (fC (.int 1))))) (fTup (aCons (f2 ixT (fVar 3) (fVar 5)) (aCons (f2 ixT (fVar 3) (f2 subT (fVar 5) (fC (.int 1)))) aNil)))) (fSlice (fVar 3) (fPart (f2 addT (fVar 5) (fC (.int 1)))) fNoPart)) aNil)))) (fun ρ => ret (.nx ρ))))))
    (ρ := r7 (Tr.join w ps).T .un w ps [] .un .un) (ts := nums 0 ps.length)
    (fun ts ρ => ∃ as bs us x5 x6, ps = as ++ bs ∧ ts = nums as.length bs.length ∧ ρ = r7 (Tr.join w ps).T .un w ps us x5 x6 ∧ (∀ u ∈ us, St (.join w ps) u) ∧ (us = [] ↔ (∀ p ∈ as, isJ w p = false) ∧ (w ≠ "behind" → as.Pairwise (fun a b => leT a b = true))) ∧ us.length ≤ 2 * as.length)
    (by
      rw [← ints_nums]
      exact range_e (f1_e (t := .tup (ps.map Tr.T)) rfl (by show some (T.int ((ps.map Tr.T).length : Nat)) = _; rw [List.length_map])) (by omega))
    ⟨[], ps, [], .un, .un, rfl, rfl, rfl, (fun _ h => nomatch h), by simp, by simp⟩
    (fun t ts ρ h => by
      obtain ⟨as, bs, us, x5, x6, e1, e2, rfl, hS, hE, hN⟩ := h
      cases bs with
      | nil => cases e2
      | cons p bs =>
        rw [List.length_cons, nums] at e2
        injection e2 with e2 e3
        subst e2
        subst e3
        have hlen : as.length + (bs.length + 1) = ps.length := by rw [e1, List.length_append, List.length_cons]
        obtain ⟨u1, a1, a2, a3, a4⟩ := once_flat (W := W) c (w := w) (as := as) (bs := bs) (us := us) (p := p) (t := (Tr.join w ps).T) (x1 := .un) hw (fun q hq => h3 q (by rw [e1]; exact hq)) (by rw [← e1]; exact hst) (by omega)
        obtain ⟨u2, b1, b2, b3, b4⟩ := once_swap (W := W) c (w := w) (as := as) (bs := bs) (us := u1) (p := p) (t := (Tr.join w ps).T) (x1 := .un) (fun q hq => h3 q (by rw [e1]; exact hq)) (by rw [← e1]; exact hst) (by omega)
        refine ⟨r7 (Tr.join w ps).T .un w ps u2 (.fz (.int ((as.length : Nat) : Int))) (.fz p.T), ?_, as ++ [p], bs, u2, _, _, by rw [e1]; simp, by simp, rfl, ?_, ?_, by rw [List.length_append, List.length_singleton]; omega⟩
        · show seqD _ _ (r7 (Tr.join w ps).T .un w ps us (.fz (.int ((as.length : Nat) : Int))) x6) = _
          have s6 : (dSet 6 (xFz (f2 ixT (fVar 3) (fVar 5))) (r7 (Tr.join w ps).T .un w ps us (.fz (.int ((as.length : Nat) : Int))) x6) : M W Fl) = ret (.nx (r7 (Tr.join w ps).T .un w ps us (.fz (.int ((as.length : Nat) : Int))) (.fz p.T))) :=
            dSet_e (xFz_e (f2_e (t := .tup (ps.map Tr.T)) (u := .int ((as.length : Nat) : Int)) rfl rfl (by rw [e1]; exact ix_T as p bs)))
          refine (seq_nx s6).trans ?_
          rw [← e1] at a1 b1
          exact (seq_nx a1).trans b1
        · intro u hu
          rw [← e1] at a2 b2
          rcases b2 u hu with hu | hu
          · rcases a2 u hu with hu | hu
            · exact hS u hu
            · exact hu
          · exact hu
        · rw [b3, a3, hE]
          simp only [List.mem_append, List.mem_singleton, pw_snoc]
          constructor
          · rintro ⟨⟨⟨q1, q2⟩, q3⟩, q4⟩
            refine ⟨fun x hx => ?_, fun hb => ⟨q2 hb, q4 hb⟩⟩
            rcases hx with hx | hx
            · exact q1 x hx
            · rw [hx]; exact q3
          · rintro ⟨q1, q2⟩
            exact ⟨⟨⟨fun x hx => q1 x (.inl hx), fun hb => (q2 hb).1⟩, q1 p (.inr rfl)⟩, fun hb => (q2 hb).2⟩)
  have hbs : bs = [] := by
    cases bs with
    | nil => rfl
    | cons _ _ => rw [List.length_cons, nums] at hts; cases hts
  subst hbs
  rw [List.append_nil] at h1
  subst h1
  refine ⟨us, ?_, hS, hE, hN⟩
  unfold F__law_once
  refine runL_rl ?_
  unfold g__law_once
  refine (seqGG_nx (ρ' := [.fz (Tr.join w ps).T, .un, .un, .un, .un, .un, .un]) ((gIf_f (fB_e (f1_e (t := (Tr.join w ps).T) rfl (isa_node fun s z => by cases z)))).trans rfl)).trans ?_
  have i0 : (f2 ixT (fVar 0) (fC (.int 0)) [.fz (Tr.join w ps).T, .un, .un, .un, .un, .un, .un] : M W T) = ret (.str w) := f2_e (t := (Tr.join w ps).T) (u := .int 0) rfl rfl (by rw [Tr.T]; rfl)
  have i1 : (f2 ixT (fVar 0) (fC (.int 1)) [.fz (Tr.join w ps).T, .un, .un, .un, .un, .un, .un] : M W T) = ret (.tup (ps.map Tr.T)) := f2_e (t := (Tr.join w ps).T) (u := .int 1) rfl rfl (by rw [Tr.T, Ts_map]; rfl)
  refine (seqGG_nx (ρ' := [.fz (Tr.join w ps).T, .un, .un, .un, .un, .un, .un]) ((gIf_f (fB_e (f2_e (u := .str "again") i0 rfl (by rw [eq_str, join_again hw]; rfl)))).trans rfl)).trans ?_
  have e3 : (dPar3 2 3 4 (xFz (f2 ixT (fVar 0) (fC (.int 0)))) (xFz (f2 ixT (fVar 0) (fC (.int 1)))) (xOw (fLst aNil)) [.fz (Tr.join w ps).T, .un, .un, .un, .un, .un, .un] : M W Fl) = ret (.nx (r7 (Tr.join w ps).T .un w ps [] .un .un)) := by
    unfold dPar3
    rw [xFz_e i0, ret_bnd, xFz_e i1, ret_bnd]
    rfl
  refine (seqG_nx e3).trans ((seqG_nx hr).trans ?_)
  rw [hρ]
  rfl
theorem once_again (c : Cs) {a b : Tr} (ht : (Tr.again a b).told = true) :
    ∃ us : List Tr, F__law_once c [(Tr.again a b).T] = (ret (us.map Tr.T) : M W (List T)) ∧ (∀ u ∈ us, St (.again a b) u) ∧ (us = [] ↔ Root (.again a b)) ∧ us.length ≤ onceB (.again a b) := by
  obtain ⟨ha, hb⟩ := told_again.mp ht
  let ρ0 : Rho := [.fz (Tr.again a b).T, .un, .un, .un, .un, .un, .un]
  let ρ1 : Rho := [.fz (Tr.again a b).T, .fz a.T, .un, .un, .un, .un, .un]
  suffices h : ∃ us : List Tr, (seqGG (gIf (bOr (fB (f1 (isaT "str") (fVar 1))) (fB (f2 (eqT true) (f2 ixT (fVar 1) (fC (.int 0))) (fC (.str "again"))))) (gRet (fLst aNil)) (fun ρ => ret (.nx ρ))) (gRet (fLst (aCons (fTup (aCons (fC (.str "again")) (aCons (f2 ixT (fVar 1) (fC (.int 1))) (aCons (fTup (aCons (fC (.str "either")) (aCons (fTup (aCons (f2 ixT (fVar 1) (fC (.int 2))) (aCons (f2 ixT (fVar 0) (fC (.int 2))) aNil))) aNil))) aNil)))) aNil))) ρ1 : M W Fg) = ret (.rl (us.map Tr.T)) ∧ (∀ u ∈ us, St (.again a b) u) ∧ (us = [] ↔ Root (.again a b)) ∧ us.length ≤ 1 by
    obtain ⟨us, q1, q2, q3, q4⟩ := h
    refine ⟨us, ?_, q2, q3, q4⟩
    unfold F__law_once
    refine runL_rl ?_
    unfold g__law_once
    refine (seqGG_nx (ρ' := ρ0) ((gIf_f (fB_e (f1_e (t := (Tr.again a b).T) rfl (isa_node fun s z => by cases z)))).trans rfl)).trans ?_
    have i0 : (f2 ixT (fVar 0) (fC (.int 0)) ρ0 : M W T) = ret (.str "again") := f2_e (t := (Tr.again a b).T) (u := .int 0) rfl rfl (by rw [Tr.T]; rfl)
    have i1 : (f2 ixT (fVar 0) (fC (.int 1)) ρ0 : M W T) = ret a.T := f2_e (t := (Tr.again a b).T) (u := .int 1) rfl rfl (by rw [Tr.T]; rfl)
    exact seqGG_rl ((gIf_t (fB_e (f2_e (u := .str "again") i0 rfl (by rw [eq_str]; simp)))).trans ((seqG_nx (ρ' := ρ1) (dSet_e (xFz_e i1))).trans q1))
  cases a with
  | leaf s =>
    refine ⟨[], (seqGG_rl ((gIf_t (bOr_t (fB_e (f1_e (t := (Tr.leaf s).T) rfl (by rw [Tr.T]; exact isa_str_str))))).trans (gRet_e rfl))), (fun _ h => nomatch h), ⟨fun _ => rfl, fun _ => rfl⟩, by simp⟩
  | join w ps =>
    have hj := (told_join.mp ha).1
    refine ⟨[], (seqGG_rl ((gIf_t ((bOr_f (fB_e (f1_e (t := (Tr.join w ps).T) rfl (isa_node fun s z => by cases z)))).trans (fB_e (f2_e (t := .str w) (u := .str "again") (f2_e (t := (Tr.join w ps).T) (u := .int 0) rfl rfl (by rw [Tr.T]; rfl)) rfl (by rw [eq_str, join_again hj]; rfl))))).trans (gRet_e rfl))), (fun _ h => nomatch h), ⟨fun _ => rfl, fun _ => rfl⟩, by simp⟩
  | again x y =>
    refine ⟨[.again x (.join "either" [y, b])], ?_, fun u hu => by rw [List.mem_singleton.mp hu]; exact .up x y b, ⟨fun z => absurd z (by simp), fun z => absurd (show (true : Bool) = false from z) (by simp)⟩, by simp⟩
    refine (seqGG_nx (ρ' := ρ1) ((gIf_f ((bOr_f (fB_e (f1_e (t := (Tr.again x y).T) rfl (isa_node fun s z => by cases z)))).trans (fB_e (f2_e (t := .str "again") (u := .str "again") (f2_e (t := (Tr.again x y).T) (u := .int 0) rfl rfl (by rw [Tr.T]; rfl)) rfl (by rw [eq_str]; simp))))).trans rfl)).trans ?_
    have j1 : (f2 ixT (fVar 1) (fC (.int 1)) ρ1 : M W T) = ret x.T := f2_e (t := (Tr.again x y).T) (u := .int 1) rfl rfl (by rw [Tr.T]; rfl)
    have j2 : (f2 ixT (fVar 1) (fC (.int 2)) ρ1 : M W T) = ret y.T := f2_e (t := (Tr.again x y).T) (u := .int 2) rfl rfl (by rw [Tr.T]; rfl)
    have j3 : (f2 ixT (fVar 0) (fC (.int 2)) ρ1 : M W T) = ret b.T := f2_e (t := (Tr.again (Tr.again x y) b).T) (u := .int 2) rfl rfl (by rw [Tr.T]; rfl)
    have k1 := fTup_e (W := W) (aCons_e j2 (aCons_e j3 aNil_e)) (by simp)
    have k2 := fTup_e (W := W) (ρ := ρ1) (aCons_e (fa := fC (.str "either")) (t := .str "either") rfl (aCons_e k1 aNil_e)) (by simp)
    have k3 := fTup_e (W := W) (ρ := ρ1) (aCons_e (fa := fC (.str "again")) (t := .str "again") rfl (aCons_e j1 (aCons_e k2 aNil_e))) (by simp)
    refine gRet_e ((fLst_e (aCons_e k3 aNil_e) (by simp)).trans ?_)
    rw [List.map_cons, List.map_nil, Tr.T, Tr.T, Ts_map]
    rfl
theorem F_once_e (c : Cs) {t : Tr} (ht : t.told = true) (hl : t.steps.length ≤ 30) :
    ∃ us : List Tr, F__law_once c [t.T] = (ret (us.map Tr.T) : M W (List T)) ∧ (∀ u ∈ us, St t u) ∧ (us = [] ↔ Root t) ∧ us.length ≤ onceB t := by
  cases t with
  | leaf s =>
    refine ⟨[], ?_, (fun _ h => nomatch h), ⟨fun _ => trivial, fun _ => rfl⟩, by simp⟩
    unfold F__law_once
    refine runL_rl ?_
    unfold g__law_once
    exact seqGG_rl ((gIf_t (fB_e (f1_e (t := (Tr.leaf s).T) rfl (by rw [Tr.T]; exact isa_str_str)))).trans (gRet_e rfl))
  | join w ps => exact once_join c ht hl
  | again a b => exact once_again c ht
end
end PL

set_option maxHeartbeats 4000000
namespace PL
open PySem L2
/-! U7: all uses of the law's rules. -/
section
variable {W : Type}
abbrev r6 (t : Tr) (us : List Tr) (x4 x5 : Sl) : Rho := [.fz t.T, .ow (us.map Tr.T), .un, .un, x4, x5]
theorem all_inner (c : Cs) {w : Str} {as bs us vs : List Tr} {p : Tr} {x5 : Sl} {rec : List T → M W T} (hr : rec [p.T] = ret (.lst (vs.map Tr.T))) (hl : as.length + bs.length ≤ 100) (hu : us.length + vs.length ≤ 900) :
    ∃ x5', (dFor (fItems (fCall 1 (aCons (f2 ixT (f2 ixT (fVar 0) (fC (.int 1))) (fVar 4)) aNil) rec)) (gN 5) (dAppend 1 (fTup (aCons (f2 ixT (fVar 0) (fC (.int 0))) (aCons (f2 addT (f2 addT (fSlice (f2 ixT (fVar 0) (fC (.int 1))) fNoPart (fPart (fVar 4))) (fTup (aCons (fVar 5) aNil))) (fSlice (f2 ixT (fVar 0) (fC (.int 1))) (fPart (f2 addT (fVar 4) (fC (.int 1)))) fNoPart)) aNil)))) (r6 (.join w (as ++ p :: bs)) us (.fz (.int ((as.length : Nat) : Int))) x5) : M W Fl) =
      ret (.nx (r6 (.join w (as ++ p :: bs)) (us ++ vs.map fun v => .join w (as ++ v :: bs)) (.fz (.int ((as.length : Nat) : Int))) x5')) := by
  have ix1 : ∀ (us : List Tr) (x5 : Sl), (f2 ixT (fVar 0) (fC (.int 1)) (r6 (.join w (as ++ p :: bs)) us (.fz (.int ((as.length : Nat) : Int))) x5) : M W T) = ret (.tup ((as ++ p :: bs).map Tr.T)) := fun us x5 => f2_e (t := (Tr.join w (as ++ p :: bs)).T) (u := .int 1) rfl rfl (by rw [Tr.T, Ts_map]; rfl)
  have ix0 : ∀ (us : List Tr) (x5 : Sl), (f2 ixT (fVar 0) (fC (.int 0)) (r6 (.join w (as ++ p :: bs)) us (.fz (.int ((as.length : Nat) : Int))) x5) : M W T) = ret (.str w) := fun us x5 => f2_e (t := (Tr.join w (as ++ p :: bs)).T) (u := .int 0) rfl rfl (by rw [Tr.T]; rfl)
  have hi : (fItems (fCall 1 (aCons (f2 ixT (f2 ixT (fVar 0) (fC (.int 1))) (fVar 4)) aNil) rec) (r6 (.join w (as ++ p :: bs)) us (.fz (.int ((as.length : Nat) : Int))) x5) : M W (List T)) = ret (vs.map Tr.T) :=
    fItems_l ((fCall_e (ts := [p.T]) (aCons_e (f2_e (u := .int ((as.length : Nat) : Int)) (ix1 us x5) rfl (ix_T as p bs)) aNil_e) rfl).trans hr)
  obtain ⟨ρ', h, ds, rs, x, e1, e2, e3⟩ := dFor_inv (W := W) (i := 5) (g := (dAppend 1 (fTup (aCons (f2 ixT (fVar 0) (fC (.int 0))) (aCons (f2 addT (f2 addT (fSlice (f2 ixT (fVar 0) (fC (.int 1))) fNoPart (fPart (fVar 4))) (fTup (aCons (fVar 5) aNil))) (fSlice (f2 ixT (fVar 0) (fC (.int 1))) (fPart (f2 addT (fVar 4) (fC (.int 1)))) fNoPart)) aNil)))))
    (fun ts ρ => ∃ ds rs x, vs = ds ++ rs ∧ ts = rs.map Tr.T ∧ ρ = r6 (.join w (as ++ p :: bs)) (us ++ ds.map fun v => .join w (as ++ v :: bs)) (.fz (.int ((as.length : Nat) : Int))) x) hi ⟨[], vs, x5, rfl, rfl, by rw [List.map_nil, List.append_nil]⟩ (fun t ts ρ h => by
      obtain ⟨ds, rs, x, e1, e2, rfl⟩ := h
      cases rs with
      | nil => cases e2
      | cons v rs =>
        rw [List.map_cons] at e2
        injection e2 with e2 e3
        subst e2
        subst e3
        refine ⟨_, ?_, ds ++ [v], rs, .fz v.T, by rw [e1]; simp, rfl, rfl⟩
        show dAppend 1 _ (r6 (.join w (as ++ p :: bs)) (us ++ ds.map fun v => .join w (as ++ v :: bs)) (.fz (.int ((as.length : Nat) : Int))) (.fz v.T)) = _
        have f3 : (fSlice (f2 ixT (fVar 0) (fC (.int 1))) fNoPart (fPart (fVar 4)) (r6 (.join w (as ++ p :: bs)) (us ++ ds.map fun v => .join w (as ++ v :: bs)) (.fz (.int ((as.length : Nat) : Int))) (.fz v.T)) : M W T) = ret (.tup (as.map Tr.T)) := fSlice_e (ix1 _ _) rfl rfl (lo_T as _ bs)
        have f4 : (fSlice (f2 ixT (fVar 0) (fC (.int 1))) (fPart (f2 addT (fVar 4) (fC (.int 1)))) fNoPart (r6 (.join w (as ++ p :: bs)) (us ++ ds.map fun v => .join w (as ++ v :: bs)) (.fz (.int ((as.length : Nat) : Int))) (.fz v.T)) : M W T) = ret (.tup (bs.map Tr.T)) := fSlice_e (lo := some ((as.length + 1 : Nat) : Int)) (ix1 _ _) rfl rfl (hi_T as _ bs)
        have f5 := fTup_e (W := W) (ρ := r6 (.join w (as ++ p :: bs)) (us ++ ds.map fun v => .join w (as ++ v :: bs)) (.fz (.int ((as.length : Nat) : Int))) (.fz v.T)) (aCons_e (fa := fVar 5) (t := v.T) rfl aNil_e) (by simp)
        have f6 := f2_e f3 f5 (addT_tups (by simp only [List.length_map, List.length_cons, List.length_nil]; omega))
        have f7 := f2_e f6 f4 (addT_tups (by simp only [List.length_map, List.length_append, List.length_cons, List.length_nil]; omega))
        have f8 := fTup_e (W := W) (aCons_e (ix0 _ _) (aCons_e f7 aNil_e)) (by simp)
        have hv : vs.length = ds.length + (rs.length + 1) := by rw [e1, List.length_append, List.length_cons]
        show bnd (fTup _ (r6 (.join w (as ++ p :: bs)) (us ++ ds.map fun v => .join w (as ++ v :: bs)) (.fz (.int ((as.length : Nat) : Int))) (.fz v.T))) _ = _
        rw [f8, ret_bnd, if_pos (by simp only [List.length_map, List.length_append, sizeLine_eq]; omega)]
        have eT : (T.tup [.str w, .tup ((as.map Tr.T ++ [v.T]) ++ bs.map Tr.T)]) = (Tr.join w (as ++ v :: bs)).T := by
          rw [Tr.T, Ts_map]
          simp
        rw [eT]
        show ret (Fl.nx [Sl.fz _, .ow ((us ++ ds.map fun v => Tr.join w (as ++ v :: bs)).map Tr.T ++ [(Tr.join w (as ++ v :: bs)).T]), .un, .un, _, _]) = ret (Fl.nx [Sl.fz _, .ow ((us ++ (ds ++ [v]).map fun v => Tr.join w (as ++ v :: bs)).map Tr.T), .un, .un, _, _])
        rw [List.map_append (l₁ := ds), ← List.append_assoc, List.map_append (l₂ := List.map _ [v])]
        rfl)
  refine ⟨x, h.trans ?_⟩
  have : rs = [] := by
    cases rs with
    | nil => rfl
    | cons _ _ => cases e2
  subst this
  rw [List.append_nil] at e1
  rw [e3, e1]
theorem addT_lsts {xs ys : List T} (h : xs.length + ys.length ≤ 1000) : addT (.lst xs) (.lst ys) = some (.lst (xs ++ ys)) := if_pos (by rw [sizeLine_eq]; omega)
theorem catT_lsts {xs ys : List T} (h : xs.length + ys.length ≤ 1000) : catT (.lst xs) (.lst ys) = some (xs ++ ys) := if_pos (by rw [sizeLine_eq]; omega)
def AllOk (t : Tr) (us : List Tr) : Prop := (∀ u ∈ us, St t u) ∧ (us = [] ↔ Irr t) ∧ us.length + 4 ≤ 4 * t.steps.length
theorem F_all_once_e (c : Cs) : ∀ (n : Nat) (t : Tr), t.depth ≤ n → t.told = true → t.steps.length ≤ 30 → ∃ us : List Tr, F__law_all_once c n [t.T] = (ret (.lst (us.map Tr.T)) : M W T) ∧ AllOk t us
  | 0, t, hd, _, _ => by have := depth_pos t; omega
  | n + 1, t, hd, ht, hl => by
    cases t with
    | leaf s =>
      refine ⟨[], ?_, (fun _ h => nomatch h), ⟨fun _ => trivial, fun _ => rfl⟩, by rw [Tr.steps]; simp⟩
      show run 5 (g__law_all_once c (F__law_all_once c n)) [(Tr.leaf s).T] = _
      unfold g__law_all_once
      exact run_rt (seq_rt ((dIf_t (fB_e (f1_e (t := (Tr.leaf s).T) rfl (by rw [Tr.T]; exact isa_str_str)))).trans (dRet_e lst_nil)))
    | again a b =>
      obtain ⟨ha, hb⟩ := told_again.mp ht
      have da := parts_depth (t := .again a b) a (by simp [Tr.parts])
      have db := parts_depth (t := .again a b) b (by simp [Tr.parts])
      have sa := parts_short hl a (by simp [Tr.parts])
      have sb := parts_short hl b (by simp [Tr.parts])
      obtain ⟨ua, ea, oa⟩ := F_all_once_e c n a (by omega) ha sa
      obtain ⟨ub, eb, ob⟩ := F_all_once_e c n b (by omega) hb sb
      obtain ⟨u0, e0, o1, o2, o3⟩ := F_once_e (W := W) c ht hl
      have la := oa.2.2
      have lb := ob.2.2
      have l0 : u0.length ≤ 1 := o3
      have hsum : a.steps.length + b.steps.length ≤ 30 := by rw [Tr.steps, List.length_append] at hl; exact hl
      refine ⟨u0 ++ (ua.map fun v => .again v b) ++ ub.map fun v => .again a v, ?_, ?_, ?_, ?_⟩
      · show run 5 (g__law_all_once c (F__law_all_once c n)) [(Tr.again a b).T] = _
        unfold g__law_all_once
        refine run_rt ?_
        refine (seq_nx (ρ' := [.fz (Tr.again a b).T, .un, .un, .un, .un, .un]) ((dIf_f (fB_e (f1_e (t := (Tr.again a b).T) rfl (isa_node fun s z => by cases z)))).trans rfl)).trans ?_
        refine (seq_nx (dSet_e (xOw_e ((fCallL_e (ts := [(Tr.again a b).T]) (aCons_e rfl aNil_e) rfl).trans e0)))).trans ?_
        show seqD _ _ (r6 (.again a b) u0 .un .un) = _
        have i0 : (f2 ixT (fVar 0) (fC (.int 0)) (r6 (.again a b) u0 .un .un) : M W T) = ret (.str "again") := f2_e (t := (Tr.again a b).T) (u := .int 0) rfl rfl (by rw [Tr.T]; rfl)
        have i1 : ∀ x1 x2 x3 x4 x5, (f2 ixT (fVar 0) (fC (.int 1)) [.fz (Tr.again a b).T, x1, x2, x3, x4, x5] : M W T) = ret a.T := fun _ _ _ _ _ => f2_e (t := (Tr.again a b).T) (u := .int 1) rfl rfl (by rw [Tr.T]; rfl)
        have i2 : ∀ x1 x2 x3 x4 x5, (f2 ixT (fVar 0) (fC (.int 2)) [.fz (Tr.again a b).T, x1, x2, x3, x4, x5] : M W T) = ret b.T := fun _ _ _ _ _ => f2_e (t := (Tr.again a b).T) (u := .int 2) rfl rfl (by rw [Tr.T]; rfl)
        refine seq_rt ((dIf_t (fB_e (f2_e (u := .str "again") i0 rfl (by rw [eq_str]; simp)))).trans ?_)
        have c1 := fLc_mapP (W := W) (fi := fItems (fCall 1 (aCons (f2 ixT (fVar 0) (fC (.int 1))) aNil) (F__law_all_once c n))) (vs := [2]) (i := 2) (ge := fTup (aCons (fC (.str "again")) (aCons (fVar 2) (aCons (f2 ixT (fVar 0) (fC (.int 2))) aNil)))) (ρ := r6 (.again a b) u0 .un .un) ua Tr.T (fun v => (Tr.again v b).T) (fItems_l ((fCall_e (aCons_e (i1 _ _ _ _ _) aNil_e) rfl).trans ea)) (by rw [sizeLine_eq]; omega)
          (fun p hp => (fTup_e (ts := [.str "again", p.T, b.T]) (aCons_e rfl (aCons_e rfl (aCons_e (i2 _ _ _ _ _) aNil_e))) (by simp)).trans (by rw [Tr.T]))
        refine (seq_nx (dSet_e (xOw_e (f2l_e (t := .lst (u0.map Tr.T)) rfl (asL_e c1) (catT_lsts (by simp only [List.length_map]; omega)))))).trans ?_
        show (dRet _ [.fz (Tr.again a b).T, .fz (.lst (u0.map Tr.T ++ ua.map fun v => (Tr.again v b).T)), .un, .un, .un, .un] : M W Fl) = _
        have c2 := fLc_mapP (W := W) (fi := fItems (fCall 1 (aCons (f2 ixT (fVar 0) (fC (.int 2))) aNil) (F__law_all_once c n))) (vs := [3]) (i := 3) (ge := fTup (aCons (fC (.str "again")) (aCons (f2 ixT (fVar 0) (fC (.int 1))) (aCons (fVar 3) aNil)))) (ρ := [.fz (Tr.again a b).T, .fz (.lst (u0.map Tr.T ++ ua.map fun v => (Tr.again v b).T)), .un, .un, .un, .un]) ub Tr.T (fun v => (Tr.again a v).T) (fItems_l ((fCall_e (aCons_e (i2 _ _ _ _ _) aNil_e) rfl).trans eb)) (by rw [sizeLine_eq]; omega)
          (fun p hp => (fTup_e (ts := [.str "again", a.T, p.T]) (aCons_e rfl (aCons_e (i1 _ _ _ _ _) (aCons_e rfl aNil_e))) (by simp)).trans (by rw [Tr.T]))
        refine (dRet_e (f2_e (t := .lst (u0.map Tr.T ++ ua.map fun v => (Tr.again v b).T)) rfl (asL_e c2) (addT_lsts (by simp only [List.length_map, List.length_append]; omega)))).trans ?_
        rw [List.map_append, List.map_append, List.map_map, List.map_map]
        rfl
      · intro u hu
        rcases List.mem_append.mp hu with hu | hu
        · rcases List.mem_append.mp hu with hu | hu
          · exact o1 u hu
          · obtain ⟨v, hv, rfl⟩ := List.mem_map.mp hu
            exact .inA a v b (oa.1 v hv)
        · obtain ⟨v, hv, rfl⟩ := List.mem_map.mp hu
          exact .inB a b v (ob.1 v hv)
      · rw [List.append_eq_nil_iff, List.append_eq_nil_iff, List.map_eq_nil_iff, List.map_eq_nil_iff, o2, oa.2.1, ob.2.1, Irr, and_assoc]
        exact Iff.rfl
      · rw [Tr.steps]
        simp only [List.length_append, List.length_map]
        omega
    | join w ps =>
      obtain ⟨hw, h2, h3⟩ := told_join.mp ht
      obtain ⟨u0, e0, o1, o2, o3⟩ := F_once_e (W := W) c ht hl
      have l0 : u0.length ≤ 2 * ps.length := o3
      have hst : (Tr.stepss ps).length ≤ 30 := by rw [Tr.steps] at hl; exact hl
      have hfew := few h3
      have each : ∀ p ∈ ps, ∃ us : List Tr, F__law_all_once c n [p.T] = (ret (.lst (us.map Tr.T)) : M W T) ∧ AllOk p us := fun p hp => F_all_once_e c n p (by have := parts_depth (t := .join w ps) p hp; omega) (h3 p hp) (parts_short hl p hp)
      have i1 : ∀ us x4 x5, (f2 ixT (fVar 0) (fC (.int 1)) (r6 (.join w ps) us x4 x5) : M W T) = ret (.tup (ps.map Tr.T)) := fun us x4 x5 => f2_e (t := (Tr.join w ps).T) (u := .int 1) rfl rfl (by rw [Tr.T, Ts_map]; rfl)
      obtain ⟨ρ', hr, as, bs, us, x4, x5, h1, hts, hρ, hS, hE, hN⟩ := dFor_inv (W := W) (i := 4) (fi := fRange1 (f1 lenT (f2 ixT (fVar 0) (fC (.int 1))))) (g := (dFor (fItems (fCall 1 (aCons (f2 ixT (f2 ixT (fVar 0) (fC (.int 1))) (fVar 4)) aNil) (F__law_all_once c n))) (gN 5) (dAppend 1 (fTup (aCons (f2 ixT (fVar 0) (fC (.int 0))) (aCons (f2 addT (f2 addT (fSlice (f2 ixT (fVar 0) (fC (.int 1))) fNoPart (fPart (fVar 4))) (fTup (aCons (fVar 5) aNil))) (fSlice (f2 ixT (fVar 0) (fC (.int 1))) (fPart (f2 addT (fVar 4) (fC (.int 1)))) fNoPart)) aNil))))))
        (ρ := r6 (.join w ps) u0 .un .un) (ts := nums 0 ps.length)
        (fun ts ρ => ∃ as bs us x4 x5, ps = as ++ bs ∧ ts = nums as.length bs.length ∧ ρ = r6 (.join w ps) us x4 x5 ∧ (∀ u ∈ us, St (.join w ps) u) ∧ (us = [] ↔ Root (.join w ps) ∧ ∀ p ∈ as, Irr p) ∧ us.length + 4 * as.length ≤ 2 * ps.length + 4 * (Tr.stepss as).length)
        (by
          rw [← ints_nums]
          exact range_e (f1_e (i1 _ _ _) (by show some (T.int ((ps.map Tr.T).length : Nat)) = _; rw [List.length_map])) (by omega))
        ⟨[], ps, u0, .un, .un, rfl, rfl, rfl, o1, by simpa using o2, by rw [List.length_nil]; omega⟩
        (fun t ts ρ h => by
          obtain ⟨as, bs, us, x4, x5, e1, e2, rfl, hS, hE, hN⟩ := h
          cases bs with
          | nil => cases e2
          | cons p bs =>
            rw [List.length_cons, nums] at e2
            injection e2 with e2 e3
            subst e2
            subst e3
            obtain ⟨vs, hv, ov1, ov2, ov3⟩ := each p (by rw [e1]; simp)
            have hlen : as.length + (bs.length + 1) = ps.length := by rw [e1, List.length_append, List.length_cons]
            have hsl : (Tr.stepss as).length + (p.steps.length + (Tr.stepss bs).length) = (Tr.stepss ps).length := by rw [e1, stepss_app, Tr.stepss, List.length_append, List.length_append]
            obtain ⟨x5', hin⟩ := all_inner (W := W) c (w := w) (as := as) (bs := bs) (us := us) (vs := vs) (p := p) (x5 := x5) hv (by omega) (by omega)
            rw [← e1] at hin
            refine ⟨_, hin, as ++ [p], bs, _, _, _, by rw [e1]; simp, by simp, rfl, fun u hu => ?_, ?_, ?_⟩
            · rcases List.mem_append.mp hu with hu | hu
              · exact hS u hu
              · obtain ⟨v, hv, rfl⟩ := List.mem_map.mp hu
                rw [e1]
                exact .inJ w as p v bs (ov1 v hv)
            · rw [List.append_eq_nil_iff, List.map_eq_nil_iff, hE, ov2]
              simp only [List.mem_append, List.mem_singleton]
              constructor
              · rintro ⟨⟨q1, q2⟩, q3⟩
                refine ⟨q1, fun x hx => ?_⟩
                rcases hx with hx | hx
                · exact q2 x hx
                · rw [hx]; exact q3
              · rintro ⟨q1, q2⟩
                exact ⟨⟨q1, fun x hx => q2 x (.inl hx)⟩, q2 p (.inr rfl)⟩
            · rw [stepss_app, Tr.stepss, Tr.stepss, List.append_nil]
              simp only [List.length_append, List.length_map, List.length_singleton]
              omega)
      have hbs : bs = [] := by
        cases bs with
        | nil => rfl
        | cons _ _ => rw [List.length_cons, nums] at hts; cases hts
      subst hbs
      rw [List.append_nil] at h1
      subst h1
      refine ⟨us, ?_, hS, ?_, ?_⟩
      · show run 5 (g__law_all_once c (F__law_all_once c n)) [(Tr.join w ps).T] = _
        unfold g__law_all_once
        refine run_rt ?_
        refine (seq_nx (ρ' := [.fz (Tr.join w ps).T, .un, .un, .un, .un, .un]) ((dIf_f (fB_e (f1_e (t := (Tr.join w ps).T) rfl (isa_node fun s z => by cases z)))).trans rfl)).trans ?_
        refine (seq_nx (dSet_e (xOw_e ((fCallL_e (ts := [(Tr.join w ps).T]) (aCons_e rfl aNil_e) rfl).trans e0)))).trans ?_
        show seqD _ _ (r6 (.join w ps) u0 .un .un) = _
        have i0 : (f2 ixT (fVar 0) (fC (.int 0)) (r6 (.join w ps) u0 .un .un) : M W T) = ret (.str w) := f2_e (t := (Tr.join w ps).T) (u := .int 0) rfl rfl (by rw [Tr.T]; rfl)
        refine (seq_nx (ρ' := r6 (.join w ps) u0 .un .un) ((dIf_f (fB_e (f2_e (u := .str "again") i0 rfl (by rw [eq_str, join_again hw]; rfl)))).trans rfl)).trans ?_
        refine (seq_nx hr).trans ?_
        rw [hρ]
        rfl
      · rw [hE, Irr, irrs_iff]
        exact and_assoc
      · rw [Tr.steps]
        omega
end
end PL

set_option maxHeartbeats 4000000
namespace PL
open PySem L2
/-! U8: plain and is_plain of forms. -/
mutual
theorem tree_eqv : ∀ t : Tr, PyData.eqv t.dat t.dat = true
  | .leaf s => by rw [Tr.dat]; simp [PyData.eqv]
  | .join w ps => by
    rw [Tr.dat]
    simp [PyData.eqv, PyData.eqvAll, trees_eqv ps]
  | .again a b => by
    rw [Tr.dat]
    simp [PyData.eqv, PyData.eqvAll, tree_eqv a, tree_eqv b]
theorem trees_eqv : ∀ ps : List Tr, PyData.eqvAll (Tr.dats ps) (Tr.dats ps) = true
  | [] => by simp [Tr.dats, PyData.eqvAll]
  | t :: ts => by
    rw [Tr.dats]
    simp [PyData.eqvAll, tree_eqv t, trees_eqv ts]
end
theorem eqv_jj {w v : Str} {ps qs : List Tr} (h : PyData.eqv (Tr.join w ps).dat (Tr.join v qs).dat = true) : w = v ∧ PyData.eqvAll (Tr.dats ps) (Tr.dats qs) = true := by
  rw [Tr.dat, Tr.dat] at h
  simpa [PyData.eqv, PyData.eqvAll] using h
theorem eqv_aa {a b x y : Tr} (h : PyData.eqv (Tr.again a b).dat (Tr.again x y).dat = true) : PyData.eqv a.dat x.dat = true ∧ PyData.eqv b.dat y.dat = true := by
  rw [Tr.dat, Tr.dat] at h
  simpa [PyData.eqv, PyData.eqvAll] using h
theorem eqv_ja {w : Str} {ps : List Tr} {x y : Tr} : ¬ PyData.eqv (Tr.join w ps).dat (Tr.again x y).dat = true := by
  rw [Tr.dat, Tr.dat]
  generalize x.dat = d
  generalize y.dat = e
  generalize PyData.tuple (Tr.dats ps) = l
  rw [PyData.eqv, PyData.eqvAll, PyData.eqvAll, PyData.eqvAll]
  · generalize PyData.eqv l d = z
    simp
  all_goals simp
theorem eqv_aj {w : Str} {ps : List Tr} {x y : Tr} : ¬ PyData.eqv (Tr.again x y).dat (Tr.join w ps).dat = true := by
  rw [Tr.dat, Tr.dat]
  generalize x.dat = d
  generalize y.dat = e
  generalize PyData.tuple (Tr.dats ps) = l
  rw [PyData.eqv, PyData.eqvAll, PyData.eqvAll, PyData.eqvAll]
  · generalize PyData.eqv d l = z
    simp
  all_goals simp
theorem eqv_ll {s r : Str} (h : PyData.eqv (Tr.leaf s).dat (Tr.leaf r).dat = true) : s = r := by
  rw [Tr.dat, Tr.dat] at h
  simpa [PyData.eqv] using h
theorem eqv_lj {s w : Str} {ps : List Tr} : ¬ PyData.eqv (Tr.leaf s).dat (Tr.join w ps).dat = true := by rw [Tr.dat, Tr.dat]; simp [PyData.eqv]
theorem eqv_la {s : Str} {x y : Tr} : ¬ PyData.eqv (Tr.leaf s).dat (Tr.again x y).dat = true := by rw [Tr.dat, Tr.dat]; simp [PyData.eqv]
theorem eqv_jl {s w : Str} {ps : List Tr} : ¬ PyData.eqv (Tr.join w ps).dat (Tr.leaf s).dat = true := by rw [Tr.dat, Tr.dat]; simp [PyData.eqv]
theorem eqv_al {s : Str} {x y : Tr} : ¬ PyData.eqv (Tr.again x y).dat (Tr.leaf s).dat = true := by rw [Tr.dat, Tr.dat]; simp [PyData.eqv]
theorem eqv_cc {p q : Tr} {ps qs : List Tr} (h : PyData.eqvAll (Tr.dats (p :: ps)) (Tr.dats (q :: qs)) = true) : PyData.eqv p.dat q.dat = true ∧ PyData.eqvAll (Tr.dats ps) (Tr.dats qs) = true := by
  rw [Tr.dats, Tr.dats] at h
  simpa [PyData.eqvAll] using h
theorem eqv_nc {q : Tr} {qs : List Tr} : ¬ PyData.eqvAll (Tr.dats []) (Tr.dats (q :: qs)) = true := by rw [Tr.dats, Tr.dats]; simp [PyData.eqvAll]
theorem eqv_cn {q : Tr} {qs : List Tr} : ¬ PyData.eqvAll (Tr.dats (q :: qs)) (Tr.dats []) = true := by rw [Tr.dats, Tr.dats]; simp [PyData.eqvAll]
mutual
theorem eqv_tree : ∀ (t u : Tr), PyData.eqv t.dat u.dat = true → t = u
  | .leaf s, u => by
    cases u with
    | leaf r => exact fun h => congrArg _ (eqv_ll h)
    | join v qs => exact fun h => absurd h eqv_lj
    | again x y => exact fun h => absurd h eqv_la
  | .join w ps, u => by
    have ih := eqv_trees ps
    cases u with
    | leaf r => exact fun h => absurd h eqv_jl
    | join v qs =>
      intro h
      obtain ⟨h1, h2⟩ := eqv_jj h
      rw [h1, ih qs h2]
    | again x y => exact fun h => absurd h eqv_ja
  | .again a b, u => by
    have ih1 := eqv_tree a
    have ih2 := eqv_tree b
    cases u with
    | leaf r => exact fun h => absurd h eqv_al
    | join v qs => exact fun h => absurd h eqv_aj
    | again x y =>
      intro h
      obtain ⟨h1, h2⟩ := eqv_aa h
      rw [ih1 x h1, ih2 y h2]
theorem eqv_trees : ∀ (ps qs : List Tr), PyData.eqvAll (Tr.dats ps) (Tr.dats qs) = true → ps = qs
  | [], qs => by
    cases qs with
    | nil => exact fun _ => rfl
    | cons q qs => exact fun h => absurd h eqv_nc
  | p :: ps, qs => by
    have ih1 := eqv_tree p
    have ih2 := eqv_trees ps
    cases qs with
    | nil => exact fun h => absurd h eqv_cn
    | cons q qs =>
      intro h
      obtain ⟨h1, h2⟩ := eqv_cc h
      rw [ih1 q h1, ih2 qs h2]
end
theorem bool_repr (a : Bool) : ∃ r, reprT (.bl a) = some (.str r) := ⟨_, rfl⟩
section
variable {W : Type} {c : Cs} {ρ : Rho}
theorem dPar_e {i j : Nat} {fx fy : Rho → M W Sl} {s t : Sl} (e1 : fx ρ = ret s) (e2 : fy ρ = ret t) : dPar i j fx fy ρ = ret (.nx ((ρ.set i s).set j t)) := by
  unfold dPar
  rw [e1, ret_bnd, e2, ret_bnd]
theorem insM_e {α : Type} {c : Cs} {t : Tr} {m : M W α} {a : α} (e : m = ret a) : insM c.Form ns_Form (formT c t) m = ret a := by
  show (if c.Form = c.Form ∧ ns_Form = ns_Form then noEr m else stuck) = _
  rw [if_pos ⟨rfl, rfl⟩, e, noEr_ret]
theorem fProp_e {Fn : List T → M W T} {fa : Rho → M W T} {t : Tr} {u : T} (e : fa ρ = ret (formT c t)) (h : Fn [formT c t] = ret u) : fProp c.Form ns_Form Fn fa ρ = ret u := by
  unfold fProp
  rw [e, ret_bnd, insM_e h]
theorem fEqI_e {neg : Bool} {Fn : List T → M W T} {fa fb : Rho → M W T} {t : Tr} {u : T} {b : Bool} {v : Value} (e1 : fa ρ = ret (formT c t)) (e2 : fb ρ = ret u) (ty : tyC c.Form u = some v) (h : Fn [formT c t, u] = ret (.bl b)) : fEqI neg c.Form ns_Form Fn fa fb ρ = ret (.bl (if neg then !b else b)) := by
  unfold fEqI
  rw [e1, ret_bnd, e2, ret_bnd, ty, lift_some, ret_bnd, insM_e h, ret_bnd]
  rfl
/-- a tree that is a form -/
structure Fm (t : Tr) : Prop where
  told : t.told = true
  steps : t.steps.length ≤ 10
  nodup : t.steps.Nodup
  apart : t.apart = true
theorem Fm.depth {t : Tr} (h : Fm t) : t.depth ≤ 10 := Nat.le_trans (depth_told t h.told) h.steps
theorem Fm.of_e (c : Cs) {t : Tr} (h : Fm t) : F_Form_of c [t.T] = (ret (formT c t) : M W T) := F_of_e c (by have := h.depth; omega) h.told h.steps h.nodup h.apart
theorem Fm.st {t u : Tr} (h : Fm t) (s : St t u) : Fm u := ⟨s.told h.told, by rw [s.steps.length_eq]; exact h.steps, s.steps.nodup_iff.mpr h.nodup, s.apart h.told h.apart⟩
theorem eq_forms (c : Cs) {t u : Tr} (h : t.depth ≤ 60) : F_Form___eq__ c [formT c t, formT c u] = (ret (.bl (PyData.eqv t.dat u.dat)) : M W T) := F_eq_form c t u (by rw [eqT_trees false h]; rfl)
theorem ty_form (c : Cs) (u : Tr) : tyC c.Form (formT c u) = some (.ref c.Form) := by
  show (if c.Form = c.Form then some (Value.ref c.Form) else none) = _
  rw [if_pos rfl]
theorem fOf_e (c : Cs) {t : Tr} (h : Fm t) {fa : Rho → M W T} (e : fa ρ = ret t.T) : fCall 1 (aCons fa aNil) (F_Form_of c) ρ = ret (formT c t) := (fCall_e (aCons_e e aNil_e) rfl).trans (h.of_e c)
theorem F_plain_e (c : Cs) {t : Tr} (h : Fm t) (hp : Fm (plainT t)) : F_plain c [formT c t] = (ret (formT c (plainT t)) : M W T) := by
  have hd := h.depth
  have hs := h.steps
  exact run_rt (dRet_e (fOf_e c hp ((fCall_e (aCons_e (fProp_e (t := t) rfl (F_told_e c t)) aNil_e) rfl).trans (F_plain_told_e c 30 t (by omega) h.told (by omega)))))
theorem F_is_plain_e (c : Cs) {t : Tr} (h : Fm t) : ∃ b, F_is_plain c [formT c t] = (ret (.bl b) : M W T) ∧ (b = true ↔ Irr t) := by
  have hd := h.depth
  have hs := h.steps
  have hpd : (plainT t).depth ≤ 10 := Nat.le_trans (depth_told _ (plain_told t h.told)) (by rw [(plain_steps t).length_eq]; exact hs)
  have e1 := (fCall_e (W := W) (n := 1) (ρ := [Sl.fz (formT c t)]) (Fn := F_plain_told c 30) (aCons_e (fProp_e (fa := fVar 0) (t := t) rfl (F_told_e c t)) aNil_e) rfl).trans (F_plain_told_e c 30 t (by omega) h.told (by omega))
  refine ⟨PyData.eqv (plainT t).dat t.dat, run_rt (dRet_e (f2_e e1 (fProp_e (t := t) rfl (F_told_e c t)) (eqT_trees false (by omega)))), fun z => ?_, fun z => ?_⟩
  · have := eqv_tree _ _ z
    rw [← this]
    exact plain_irr t
  · rw [irr_plain t z]
    exact tree_eqv t
end
end PL

set_option maxHeartbeats 4000000
namespace PL
open PySem L2
/-! U9: _law_mixed, _law_agains. -/
theorem leaves_T (ls : List Str) : (ls.map Tr.leaf).map Tr.T = ls.map T.str := by
  rw [List.map_map]
  refine List.map_congr_left fun s _ => ?_
  show (Tr.leaf s).T = _
  rw [Tr.T]
theorem eq_nilS (neg : Bool) (ls : List Str) : eqT neg (sLst ls) (.lst []) = some (.bl (if neg then !ls.isEmpty else ls.isEmpty)) := by
  have := eq_nilT neg (ls.map Tr.leaf)
  rw [leaves_T, List.isEmpty_map] at this
  exact this
theorem ers_map {α β : Type} (f : α → β) : ∀ (l : List α) (i : Nat), (l.map f).eraseIdx i = (l.eraseIdx i).map f
  | [], _ => rfl
  | a :: l, 0 => rfl
  | a :: l, i + 1 => by
    rw [List.map_cons, List.eraseIdx_cons_succ, List.eraseIdx_cons_succ, ers_map f l i, List.map_cons]
section
variable {d : Addr} {n k N : Nat}
theorem ixN_nat {n : Nat} {i : Int} (h0 : 0 ≤ i) (h1 : i < (n : Nat)) : ixN n i = some i.toNat := by
  unfold ixN
  rw [if_pos h0, if_pos h1]
abbrev m4 (d : Addr) (xs ls fs : List Str) : Rho := [.fz (.raw (.ref d)), .fz (sLst xs), .ow (ls.map T.str), .ow (fs.map T.str)]
theorem mixed_tot (c : Cs) {m : Nat} {xs : List Str} (hx : GoodNames m xs) (h10 : m ≤ 10) : Tot d 10 (F__law_mixed c [.raw (.ref d), sLst xs]) (fun t => ∃ ys, t = sLst ys ∧ GoodNames m ys) := by
  have hl := hx.1
  unfold F__law_mixed g__law_mixed
  refine Tot.run ?_
  show Tot d 10 (seqD _ _ [.fz (.raw (.ref d)), .fz (sLst xs), .un, .un]) _
  refine Tot.eq (seq_nx (dPar_e (s := .ow (xs.map T.str)) (t := .ow []) (xOw_e (f1l_e (t := sLst xs) rfl rfl)) rfl)) ?_
  show Tot d 10 (seqD _ _ (m4 d xs xs [])) _
  refine Tot.seq (n := 10) (k := 0) (P := fun ρ => ∃ fs, ρ = m4 d xs [] fs ∧ fs.Perm xs) ?_ (fun ρ hρ => ?_) (Nat.le_refl _)
  · refine Tot.mono (N := 10) (n := xs.length * 1) (Tot.whl (d := d) (n := 1) (fun m ρ => ∃ ls fs, ρ = m4 d xs ls fs ∧ ls.length = m ∧ (fs ++ ls).Perm xs) (fun m ρ h => ?_) (fun m ρ hm h => ?_) xs.length _ ⟨xs, [], rfl, rfl, .refl _⟩) (by omega) (fun fl h => ?_)
    · obtain ⟨ls, fs, rfl, rfl, _⟩ := h
      refine fB_e (f2_e (t := sLst ls) (u := .lst []) rfl rfl ?_)
      rw [eq_nilS, if_pos rfl]
      cases ls <;> simp
    · obtain ⟨ls, fs, rfl, rfl, hp⟩ := h
      have hlen : fs.length + ls.length = xs.length := by rw [← hp.length_eq, List.length_append]
      show Tot d 1 (bnd (fCall 2 (aCons (fVar 0) (aCons (f1 lenT (fVarS 2)) aNil)) (F__law_draw c) (m4 d xs ls fs)) _) _
      refine Tot.bnd (n := 1) (k := 0) (draw_call c (k := (ls.length : Nat)) rfl (f1_e (t := sLst ls) rfl (len_e _)) (by omega) (by omega)) (fun t ht => ?_) (Nat.le_refl _)
      obtain ⟨i, rfl, h0, h1⟩ := ht
      have hlt : i.toNat < ls.length := by omega
      have hsplit : ls = ls.take i.toNat ++ ls[i.toNat] :: ls.drop (i.toNat + 1) := by rw [List.getElem_cons_drop, List.take_append_drop]
      refine .ofRet (a := .nx (m4 d xs (ls.eraseIdx i.toNat) (fs ++ [ls[i.toNat]]))) ?_ ⟨_, ls.length - 1, rfl, by omega, _, _, rfl, by rw [List.length_eraseIdx_of_lt hlt], ?_⟩
      · have e1 : ixN (ls.map T.str).length i = some i.toNat := ixN_nat h0 (by rw [List.length_map]; exact h1)
        have e2 : (ls.map T.str)[i.toNat]? = some (.str ls[i.toNat]) := by rw [List.getElem?_map, List.getElem?_eq_getElem hlt]; rfl
        show (match ixN (ls.map T.str).length i with
          | some j => match (ls.map T.str)[j]? with
            | some u => if -(2 ^ 63) ≤ i ∧ i < 2 ^ 63 then (if (fs.map T.str).length < sizeLine ∧ (2 : Nat) ≠ 3 then ret (Fl.nx (((m4 d xs ls fs).set 2 (.ow ((ls.map T.str).eraseIdx j))).set 3 (.ow (fs.map T.str ++ [u])))) else stuck) else stuck
            | none => stuck
          | none => stuck : M Dr Fl) = _
        rw [e1]
        show (match (ls.map T.str)[i.toNat]? with
            | some u => if -(2 ^ 63) ≤ i ∧ i < 2 ^ 63 then (if (fs.map T.str).length < sizeLine ∧ (2 : Nat) ≠ 3 then ret (Fl.nx (((m4 d xs ls fs).set 2 (.ow ((ls.map T.str).eraseIdx i.toNat))).set 3 (.ow (fs.map T.str ++ [u])))) else stuck) else stuck
            | none => stuck : M Dr Fl) = _
        rw [e2]
        show (if -(2 ^ 63) ≤ i ∧ i < 2 ^ 63 then (if (fs.map T.str).length < sizeLine ∧ (2 : Nat) ≠ 3 then ret (Fl.nx [.fz (.raw (.ref d)), .fz (sLst xs), .ow ((ls.map T.str).eraseIdx i.toNat), .ow (fs.map T.str ++ [.str ls[i.toNat]])]) else stuck) else stuck : M Dr Fl) = ret (Fl.nx [.fz (.raw (.ref d)), .fz (sLst xs), .ow ((ls.eraseIdx i.toNat).map T.str), .ow ((fs ++ [ls[i.toNat]]).map T.str)])
        rw [if_pos ⟨by omega, by omega⟩, if_pos ⟨by rw [List.length_map, sizeLine_eq]; omega, by simp⟩, List.map_append, ers_map]
        rfl
      · refine List.Perm.trans ?_ hp
        rw [List.append_assoc]
        refine List.Perm.append_left _ ?_
        rw [List.eraseIdx_eq_take_drop_succ]
        conv => rhs; rw [hsplit]
        show (ls[i.toNat] :: (ls.take i.toNat ++ ls.drop (i.toNat + 1))).Perm _
        exact List.perm_middle.symm
    · obtain ⟨ρ', e, ls, fs, rfl, h0, hp⟩ := h
      have : ls = [] := List.length_eq_zero_iff.mp h0
      subst this
      rw [List.append_nil] at hp
      exact ⟨_, e, fs, rfl, hp⟩
  · obtain ⟨fs, rfl, hp⟩ := hρ
    exact .ofRet rfl ⟨_, rfl, fs, rfl, by rw [hp.length_eq]; exact hl, hp.nodup_iff.mpr hx.2.1, fun x hx' => hx.2.2 x (hp.mem_iff.mp hx')⟩
/-! ### agains -/
abbrev a7 (d : Addr) (xs : List Str) (b : Tr) (ls : List Str) (x4 x5 x6 : Sl) : Rho := [.fz (.raw (.ref d)), .fz (sLst xs), .fz b.T, .fz (sLst ls), x4, x5, x6]
structure Bd (p q : Str) (xs : List Str) (b : Tr) (ls : List Str) : Prop where
  told : b.told = true
  steps : b.steps ++ ls = xs
  begins : b.begins = [p]
  ends : b.ends = [q]
  apart : b.apart = true
structure Btw (ls ms : List Str) (q : Tr) : Prop where
  told : q.told = true
  steps : q.steps ++ ms = ls
  apart : q.apart = true
theorem Bd.again {p q : Str} (hpq : p ≠ q) {xs ls ms : List Str} {b r : Tr} (h : Bd p q xs b ls) (g : Btw ls ms r) : Bd p q xs (.again b r) ms where
  told := told_again.mpr ⟨h.told, g.told⟩
  steps := by rw [Tr.steps, List.append_assoc, g.steps, h.steps]
  begins := by rw [Tr.begins, h.begins]
  ends := by rw [Tr.ends, h.ends]
  apart := apart_again.mpr ⟨both_iff.mpr fun s hs he => by
    rw [h.begins] at hs
    rw [h.ends] at he
    exact hpq ((List.mem_singleton.mp hs).symm.trans (List.mem_singleton.mp he)), h.apart, g.apart⟩
theorem leaf_apart (s : Str) : (Tr.leaf s).apart = true := by rw [Tr.apart]
theorem leaf_told {s : Str} (h : isStep s = true) : (Tr.leaf s).told = true := by rw [Tr.told]; exact h
def EW : List Str := ["either", "either", "behind"]
def LW : List Str := ["beside", "behind", "either"]
theorem ew_ok : ∀ s ∈ EW, isJoin s = true := by
  have : EW.all isJoin = true := by decide +kernel
  exact List.all_eq_true.mp this
theorem lw_ok : ∀ s ∈ LW, isJoin s = true := by
  have : LW.all isJoin = true := by decide +kernel
  exact List.all_eq_true.mp this
theorem pick_word (c : Cs) {ρ : Rho} {fa fl : Rho → M Dr T} {L : List Str} (h1 : fa ρ = ret (.raw (.ref d))) (h2 : fl ρ = ret (.lst (L.map T.str))) (h0 : 0 < L.length) (hl : L.length < 1000) : Tot d 1 (fCall 2 (aCons fa (aCons fl aNil)) (F__law_pick c) ρ) (fun t => ∃ s ∈ L, t = .str s) :=
  Tot.eq (fCall_e (ts := [.raw (.ref d), .lst (L.map T.str)]) (aCons_e h1 (aCons_e h2 aNil_e)) rfl) ((pick_lst c (ts := L.map T.str) (by rw [List.length_map]; exact h0) (by rw [List.length_map]; omega)).mono (Nat.le_refl _) fun t ht => by
    obtain ⟨s, hs, e⟩ := List.mem_map.mp ht
    exact ⟨s, hs, e.symm⟩)
/-- what stands between -/
theorem btw_tot (c : Cs) {xs ls : List Str} {b : Tr} {x4 x6 : Sl} {i : Int} (hg : ∀ s ∈ ls, isStep s = true) (h2 : 2 ≤ ls.length) (hi : i = 0 ∨ i = 1) :
    Tot d 1 (fIf (fB (f2 (eqT false) (fVar 5) (fC (.int 1)))) (f2 ixT (fVar 3) (fC (.int 0))) (fTup (aCons (fCall 2 (aCons (fVar 0) (aCons (asL (fLst (aCons (fC (.str "either")) (aCons (fC (.str "either")) (aCons (fC (.str "behind")) aNil))))) aNil)) (F__law_pick c)) (aCons (f1 tupT (fSlice (fVar 3) fNoPart (fPart (fC (.int 2))))) aNil))) (a7 d xs b ls x4 (.fz (.int (1 + i))) x6))
      (fun t => ∃ q, t = Tr.T q ∧ Btw ls (ls.drop (1 + i).toNat) q) := by
  match ls, h2, hg with
  | l0 :: l1 :: ls, _, hg =>
    have g0 := hg l0 (by simp)
    have g1 := hg l1 (by simp)
    rcases hi with rfl | rfl
    · have e1 : (fB (f2 (eqT false) (fVar 5) (fC (.int 1))) (a7 d xs b (l0 :: l1 :: ls) x4 (.fz (.int (1 + 0))) x6) : M Dr Bool) = ret true := fB_e (f2_e (t := .int (1 + 0)) (u := .int 1) rfl rfl (by rw [eq_int]; rfl))
      refine Tot.eq (fIf_t e1) (Tot.mono (n := 0) (Tot.val (t := .str l0) (f2_e (t := sLst (l0 :: l1 :: ls)) (u := .int 0) rfl rfl (by exact at_app [] (T.str l0) ((l1 :: ls).map T.str)))) (by omega) fun t ht => ?_)
      exact ⟨.leaf l0, by rw [ht, Tr.T], leaf_told g0, by rw [Tr.steps]; rfl, leaf_apart _⟩
    · have e1 : (fB (f2 (eqT false) (fVar 5) (fC (.int 1))) (a7 d xs b (l0 :: l1 :: ls) x4 (.fz (.int (1 + 1))) x6) : M Dr Bool) = ret false := fB_e (f2_e (t := .int (1 + 1)) (u := .int 1) rfl rfl (by rw [eq_int]; rfl))
      have e2 : (f1 tupT (fSlice (fVar 3) fNoPart (fPart (fC (.int 2)))) (a7 d xs b (l0 :: l1 :: ls) x4 (.fz (.int (1 + 1))) x6) : M Dr T) = ret (.tup [.str l0, .str l1]) :=
        f1_e (fSlice_e (t := sLst (l0 :: l1 :: ls)) (lo := none) (hi := some ((2 : Nat) : Int)) rfl rfl rfl take_names) rfl
      refine Tot.eq (fIf_f e1) ((Tot.tup (Tot.cons (n := 1) (k := 0) (pick_word c (L := EW) rfl (asL_e (fLst_e (ts := EW.map T.str) rfl (by simp [EW]))) (by simp [EW]) (by simp [EW])) (.ofRet (a := [.tup [.str l0, .str l1]]) (P := fun ts => ts = [.tup [.str l0, .str l1]]) (aCons_e e2 aNil_e) rfl) (Nat.le_refl _)) (fun ts hts => ?_)).mono (Nat.le_refl _) fun t ht => ?_)
      · obtain ⟨t, us, rfl, _, rfl⟩ := hts
        simp
      · obtain ⟨ts, rfl, t, us, rfl, ⟨w, hw, rfl⟩, rfl⟩ := ht
        refine ⟨.join w [.leaf l0, .leaf l1], by simp only [Tr.T, Tr.Ts], ?_, by simp only [Tr.steps, Tr.stepss]; rfl, ?_⟩
        · refine told_join.mpr ⟨ew_ok w hw, by simp, fun p hp => ?_⟩
          simp only [List.mem_cons, List.not_mem_nil, or_false] at hp
          rcases hp with rfl | rfl
          · exact leaf_told g0
          · exact leaf_told g1
        · refine apart_join.mpr fun p hp => ?_
          simp only [List.mem_cons, List.not_mem_nil, or_false] at hp
          rcases hp with rfl | rfl <;> exact leaf_apart _
theorem agains_tot (c : Cs) {m : Nat} {xs : List Str} (hx : GoodNames m xs) (h8 : 8 ≤ m) (h10 : m ≤ 10) : Tot d 7 (F__law_agains c [.raw (.ref d), sLst xs]) (fun t => ∃ tr, t = Tr.T tr ∧ Shp xs tr) := by
  have hlen := hx.1
  obtain ⟨n0, n1, ls0, rfl⟩ : ∃ n0 n1 ls0, xs = n0 :: n1 :: ls0 := by
    cases xs with
    | nil => simp at hlen; omega
    | cons n0 xs =>
      cases xs with
      | nil => simp at hlen; omega
      | cons n1 ls0 => exact ⟨n0, n1, ls0, rfl⟩
  · have hne : n0 ≠ n1 := fun z => by
      have := hx.2.1
      rw [z] at this
      simp at this
    have g0 := hx.2.2 n0 (by simp)
    have g1 := hx.2.2 n1 (by simp)
    have gs : ∀ s ∈ n0 :: n1 :: ls0, isStep s = true := hx.2.2
    simp only [List.length_cons] at hlen
    let b0 : Tr := .join "behind" [.leaf n0, .leaf n1]
    have hb0 : Bd n0 n1 (n0 :: n1 :: ls0) b0 ls0 := by
      refine ⟨told_join.mpr ⟨by decide +kernel, by simp, fun p hp => ?_⟩, by simp only [b0, Tr.steps, Tr.stepss]; rfl, by simp [b0, Tr.begins, Tr.begin1], by simp [b0, Tr.ends, Tr.end1], apart_join.mpr fun p hp => ?_⟩
      · simp only [List.mem_cons, List.not_mem_nil, or_false] at hp
        rcases hp with rfl | rfl
        · exact leaf_told g0
        · exact leaf_told g1
      · simp only [List.mem_cons, List.not_mem_nil, or_false] at hp
        rcases hp with rfl | rfl <;> exact leaf_apart _
    unfold F__law_agains g__law_agains
    refine Tot.run ?_
    show Tot d 7 (seqD _ _ [.fz (.raw (.ref d)), .fz (sLst (n0 :: n1 :: ls0)), .un, .un, .un, .un, .un]) _
    have s0 : (dPar 2 3 (xFz (fTup (aCons (fC (.str "behind")) (aCons (fTup (aCons (f2 ixT (fVar 1) (fC (.int 0))) (aCons (f2 ixT (fVar 1) (fC (.int 1))) aNil))) aNil)))) (xFz (fSlice (fVar 1) (fPart (fC (.int 2))) fNoPart)) [.fz (.raw (.ref d)), .fz (sLst (n0 :: n1 :: ls0)), .un, .un, .un, .un, .un] : M Dr Fl) = ret (.nx (a7 d (n0 :: n1 :: ls0) b0 ls0 .un .un .un)) := by
      have q1 : (f2 ixT (fVar 1) (fC (.int 0)) [.fz (.raw (.ref d)), .fz (sLst (n0 :: n1 :: ls0)), .un, .un, .un, .un, .un] : M Dr T) = ret (.str n0) := f2_e (t := sLst (n0 :: n1 :: ls0)) (u := .int 0) rfl rfl (by exact at_app [] (T.str n0) ((n1 :: ls0).map T.str))
      have q2 : (f2 ixT (fVar 1) (fC (.int 1)) [.fz (.raw (.ref d)), .fz (sLst (n0 :: n1 :: ls0)), .un, .un, .un, .un, .un] : M Dr T) = ret (.str n1) := f2_e (t := sLst (n0 :: n1 :: ls0)) (u := .int 1) rfl rfl (by
        have := at_app [T.str n0] (T.str n1) (ls0.map T.str)
        exact this)
      have q3 := fTup_e (W := Dr) (aCons_e q1 (aCons_e q2 aNil_e)) (by simp)
      have q4 := fTup_e (W := Dr) (ρ := [.fz (.raw (.ref d)), .fz (sLst (n0 :: n1 :: ls0)), .un, .un, .un, .un, .un]) (aCons_e (fa := fC (.str "behind")) (t := .str "behind") rfl (aCons_e q3 aNil_e)) (by simp)
      refine (dPar_e (xFz_e q4) (xFz_e (fSlice_e (t := sLst (n0 :: n1 :: ls0)) (lo := some ((2 : Nat) : Int)) (hi := none) rfl rfl rfl drop_names))).trans ?_
      show ret (Fl.nx [_, _, .fz (.tup [.str "behind", .tup [.str n0, .str n1]]), .fz (sLst ls0), .un, .un, .un]) = ret (Fl.nx [_, _, .fz b0.T, .fz (sLst ls0), .un, .un, .un])
      have : b0.T = .tup [.str "behind", .tup [.str n0, .str n1]] := by simp only [b0, Tr.T, Tr.Ts]
      rw [this]
    refine Tot.eq (seq_nx s0) ?_
    have hr3 : (fRange1 (fC (.int 3)) (a7 d (n0 :: n1 :: ls0) b0 ls0 .un .un .un) : M Dr (List T)) = ret (intsT 0 3) := range_e (m := 3) rfl (by omega)
    refine Tot.seq (n := 6) (k := 1) (P := fun ρ => ∃ b ls x4 x5 x6, ρ = a7 d (n0 :: n1 :: ls0) b ls x4 x5 x6 ∧ Bd n0 n1 (n0 :: n1 :: ls0) b ls) ?_ (fun ρ hρ => ?_) (Nat.le_refl _)
    · unfold dFor
      rw [hr3, ret_bnd]
      refine Tot.mono (Tot.loop (d := d) (n := 2) (i := 4) (fun ts ρ => ∃ b ls x4 x5 x6, ρ = a7 d (n0 :: n1 :: ls0) b ls x4 x5 x6 ∧ Bd n0 n1 (n0 :: n1 :: ls0) b ls ∧ 2 * ts.length ≤ ls.length) ?_ (intsT 0 3) _ ⟨b0, ls0, .un, .un, .un, rfl, hb0, by show 2 * 3 ≤ _; omega⟩) (by show 3 * 2 ≤ 6; omega) (fun fl h => ?_)
      · intro t0 ts ρ h
        obtain ⟨b, ls, x4, x5, x6, rfl, hb, hls⟩ := h
        rw [List.length_cons] at hls
        have hgl : ∀ s ∈ ls, isStep s = true := fun s hs => gs s (by rw [← hb.steps]; exact List.mem_append_right _ hs)
        show Tot d 2 (seqD _ _ (a7 d (n0 :: n1 :: ls0) b ls (.fz t0) x5 x6)) _
        refine Tot.seq (n := 1) (k := 1) (P := fun ρ => ∃ i : Int, (i = 0 ∨ i = 1) ∧ ρ = a7 d (n0 :: n1 :: ls0) b ls (.fz t0) (.fz (.int (1 + i))) x6) ?_ (fun ρ hρ => ?_) (Nat.le_refl _)
        · refine (Tot.set (Tot.f2 (n := 0) (k := 1) (P := fun u => u = .int 1) (R := fun u => ∃ i : Int, (i = 0 ∨ i = 1) ∧ u = .int (1 + i)) (.val rfl) (draw_call c (k := 2) rfl rfl (by decide) (by decide)) (fun t u ht hu => by
            obtain ⟨i, rfl, h1, h2⟩ := hu
            subst ht
            exact ⟨.int (1 + i), rfl, i, by omega, rfl⟩) (Nat.le_refl _))).mono (Nat.le_refl _) (nx_set fun t ht => ?_)
          obtain ⟨i, hi, rfl⟩ := ht
          exact ⟨i, hi, rfl⟩
        · obtain ⟨i, hi, rfl⟩ := hρ
          refine Tot.seq (n := 1) (k := 0) (P := fun ρ => ∃ q, ρ = a7 d (n0 :: n1 :: ls0) b ls (.fz t0) (.fz (.int (1 + i))) (.fz (Tr.T q)) ∧ Btw ls (ls.drop (1 + i).toNat) q) ?_ (fun ρ hρ => ?_) (Nat.le_refl _)
          · refine (Tot.set (btw_tot c hgl (by omega) hi)).mono (Nat.le_refl _) (nx_set fun t ht => ?_)
            obtain ⟨q, rfl, hq⟩ := ht
            exact ⟨q, rfl, hq⟩
          · obtain ⟨q, rfl, hq⟩ := hρ
            have hcast : (some (1 + i) : Option Int) = some (((1 + i).toNat : Nat) : Int) := by congr 1; omega
            have e1 : (fTup (aCons (fC (.str "again")) (aCons (fVar 2) (aCons (fVar 6) aNil))) (a7 d (n0 :: n1 :: ls0) b ls (.fz t0) (.fz (.int (1 + i))) (.fz q.T)) : M Dr T) = ret (Tr.again b q).T := (fTup_e (ts := [.str "again", b.T, q.T]) (aCons_e rfl (aCons_e rfl (aCons_e rfl aNil_e))) (by simp)).trans (by rw [Tr.T])
            have e2 : (fSlice (fVar 3) (fPart (fVar 5)) fNoPart (a7 d (n0 :: n1 :: ls0) b ls (.fz t0) (.fz (.int (1 + i))) (.fz q.T)) : M Dr T) = ret (sLst (ls.drop (1 + i).toNat)) := fSlice_e (t := sLst ls) (lo := some (1 + i)) (hi := none) rfl rfl rfl (by rw [hcast]; exact drop_names)
            refine .ofRet (dPar_e (xFz_e e1) (xFz_e e2)) ⟨_, rfl, .again b q, ls.drop (1 + i).toNat, _, _, _, rfl, hb.again hne hq, ?_⟩
            rw [List.length_drop]
            omega
      · obtain ⟨ρ', e, b, ls, x4, x5, x6, e2, hb, _⟩ := h
        exact ⟨ρ', e, b, ls, x4, x5, x6, e2, hb⟩
    · obtain ⟨b, ls, x4, x5, x6, rfl, hb⟩ := hρ
      refine Tot.rt ?_
      have ec : (fB (f2 (eqT true) (fVar 3) (asL (fLst aNil))) (a7 d (n0 :: n1 :: ls0) b ls x4 x5 x6) : M Dr Bool) = ret (!ls.isEmpty) := fB_e (f2_e (t := sLst ls) (u := .lst []) rfl rfl (by rw [eq_nilS]; rfl))
      have hgl : ∀ s ∈ ls, isStep s = true := fun s hs => gs s (by rw [← hb.steps]; exact List.mem_append_right _ hs)
      have hbl : b.steps.length + ls.length ≤ 10 := by
        have := congrArg List.length hb.steps
        rw [List.length_append] at this
        simp only [List.length_cons] at this
        omega
      cases ls with
      | nil =>
        refine Tot.eq (fIf_f ec) (Tot.mono (n := 0) (Tot.val (t := b.T) rfl) (by omega) fun t ht => ⟨b, ht, hb.told, ?_, hb.apart, ?_⟩)
        · have := hb.steps
          rw [List.append_nil] at this
          exact this
        · have := hb.steps
          rw [List.append_nil] at this
          rw [← this]
          exact depth_told b hb.told
      | cons l ls =>
        have e2 : (f2 addT (fTup (aCons (fVar 2) aNil)) (f1 tupT (fVar 3)) (a7 d (n0 :: n1 :: ls0) b (l :: ls) x4 x5 x6) : M Dr T) = ret (.tup ((b :: (l :: ls).map Tr.leaf).map Tr.T)) := by
          have q1 := fTup_e (W := Dr) (ρ := a7 d (n0 :: n1 :: ls0) b (l :: ls) x4 x5 x6) (aCons_e (fa := fVar 2) (t := b.T) rfl aNil_e) (by simp)
          refine (f2_e (t := .tup [b.T]) (u := .tup ((l :: ls).map T.str)) q1 (f1_e (t := sLst (l :: ls)) rfl rfl) (addT_tups (by simp only [List.length_map, List.length_cons, List.length_nil] at hbl ⊢; omega))).trans ?_
          rw [List.map_cons (a := b), leaves_T]
          rfl
        refine Tot.eq (fIf_t ec) ((Tot.tup (Tot.cons (n := 1) (k := 0) (pick_word c (L := LW) rfl (asL_e (fLst_e (ts := LW.map T.str) rfl (by simp [LW]))) (by simp [LW]) (by simp [LW])) (.ofRet (a := [.tup ((b :: (l :: ls).map Tr.leaf).map Tr.T)]) (P := fun ts => ts = [.tup ((b :: (l :: ls).map Tr.leaf).map Tr.T)]) (aCons_e e2 aNil_e) rfl) (Nat.le_refl _)) (fun ts hts => ?_)).mono (Nat.le_refl _) fun t ht => ?_)
        · obtain ⟨t, us, rfl, _, rfl⟩ := hts
          simp
        · obtain ⟨ts, rfl, t, us, rfl, ⟨w, hw, rfl⟩, rfl⟩ := ht
          have leafs : ∀ p ∈ (l :: ls).map Tr.leaf, p.told = true ∧ p.apart = true := fun p hp => by
            obtain ⟨s, hs, rfl⟩ := List.mem_map.mp hp
            exact ⟨leaf_told (hgl s hs), leaf_apart s⟩
          have tt : (Tr.join w (b :: (l :: ls).map Tr.leaf)).told = true := told_join.mpr ⟨lw_ok w hw, by simp, fun p hp => by
            rcases List.mem_cons.mp hp with rfl | hp
            · exact hb.told
            · exact (leafs p hp).1⟩
          have ss : (Tr.join w (b :: (l :: ls).map Tr.leaf)).steps = n0 :: n1 :: ls0 := by
            have : ∀ l : List Str, Tr.stepss (l.map Tr.leaf) = l := fun l => by
              induction l with
              | nil => rfl
              | cons a l ih =>
                rw [List.map_cons, Tr.stepss, Tr.steps, ih]
                rfl
            rw [Tr.steps, Tr.stepss, this, hb.steps]
          refine ⟨.join w (b :: (l :: ls).map Tr.leaf), by rw [Tr.T, Ts_map], tt, ss, apart_join.mpr fun p hp => ?_, by rw [← ss]; exact depth_told _ tt⟩
          rcases List.mem_cons.mp hp with rfl | hp
          · exact hb.apart
          · exact (leafs p hp).2
end
end PL

set_option maxHeartbeats 4000000
namespace PL
open PySem L2
/-! U10: the plain law. -/
section
variable {d : Addr} {n k N : Nat}
theorem Tot.call {m : Nat} {fa : Rho → M Dr (List T)} {Fn : List T → M Dr T} {ρ : Rho} {P : List T → Prop} {Q : T → Prop} (ha : Tot d n (fa ρ) P) (hF : ∀ ts, P ts → ts.length = m ∧ Tot d k (Fn ts) Q) (e : n + k ≤ N) : Tot d N (fCall m fa Fn ρ) Q := by
  refine Tot.bnd ha (fun ts ht => ?_) e
  obtain ⟨h1, h2⟩ := hF ts ht
  rw [if_pos h1]
  exact h2
abbrev r8 (a d : Addr) (x2 x3 x4 x5 x6 x7 : Sl) : Rho := [.fz (.raw (.ref a)), .fz (.raw (.ref d)), x2, x3, x4, x5, x6, x7]
/-- names in a drawn order -/
theorem names_mixed (c : Cs) {ρ : Rho} {lo hi : Int} (hv : (fVar 1 ρ : M Dr T) = ret (.raw (.ref d))) (h1 : 1 ≤ lo) (h2 : 0 < hi) (h3 : lo + hi ≤ 11) :
    Tot d 101 (fCall 2 (aCons (fVar 1) (aCons (fCall 2 (aCons (fVar 1) (aCons (f2 addT (fC (.int lo)) (fCall 2 (aCons (fVar 1) (aCons (fC (.int hi)) aNil)) (F__law_draw c))) aNil)) (F__law_names c)) aNil)) (F__law_mixed c) ρ) (fun t => ∃ m xs, (lo ≤ (m : Nat) ∧ m ≤ 10) ∧ t = sLst xs ∧ GoodNames m xs) := by
  have many : Tot d 1 (f2 addT (fC (.int lo)) (fCall 2 (aCons (fVar 1) (aCons (fC (.int hi)) aNil)) (F__law_draw c)) ρ) (fun t => ∃ m : Nat, (lo ≤ (m : Nat) ∧ m ≤ 10) ∧ t = .int (m : Nat)) :=
    Tot.f2 (n := 0) (k := 1) (P := fun u => u = .int lo) (.val rfl) (draw_call c (k := hi) hv rfl h2 (by omega)) (fun t u ht hu => by
      obtain ⟨i, rfl, q1, q2⟩ := hu
      subst ht
      refine ⟨.int (lo + i), rfl, (lo + i).toNat, by omega, ?_⟩
      congr 1
      omega) (Nat.le_refl _)
  have names : Tot d 91 (fCall 2 (aCons (fVar 1) (aCons (f2 addT (fC (.int lo)) (fCall 2 (aCons (fVar 1) (aCons (fC (.int hi)) aNil)) (F__law_draw c))) aNil)) (F__law_names c) ρ) (fun t => ∃ m xs, (lo ≤ (m : Nat) ∧ m ≤ 10) ∧ t = sLst xs ∧ GoodNames m xs) :=
    Tot.call (n := 1) (k := 90) (Tot.cons (n := 0) (k := 1) (P := fun u => u = .raw (.ref d)) (.val hv) (Tot.cons (n := 1) (k := 0) many .nilA (Nat.le_refl _)) (Nat.le_refl _)) (fun ts h => by
      obtain ⟨t, us, rfl, rfl, t2, us2, rfl, ⟨m, hm, rfl⟩, rfl⟩ := h
      refine ⟨rfl, (names_tot c (m := m) (by omega)).mono (by omega) fun t ht => ?_⟩
      obtain ⟨xs, q1, q2⟩ := ht
      exact ⟨m, xs, hm, q1, q2⟩) (Nat.le_refl _)
  refine Tot.call (n := 91) (k := 10) (Tot.cons (n := 0) (k := 91) (P := fun u => u = .raw (.ref d)) (.val hv) (Tot.cons (n := 91) (k := 0) names .nilA (Nat.le_refl _)) (Nat.le_refl _)) (fun ts h => ?_) (Nat.le_refl _)
  obtain ⟨t, us, rfl, rfl, t2, us2, rfl, ⟨m, xs, hm, rfl, hx⟩, rfl⟩ := h
  refine ⟨rfl, (mixed_tot c hx hm.2).mono (Nat.le_refl _) fun t ht => ?_⟩
  obtain ⟨ys, q1, q2⟩ := ht
  exact ⟨m, ys, hm, q1, q2⟩
theorem fm_of {m : Nat} {xs : List Str} {t : Tr} (hx : GoodNames m xs) (h10 : m ≤ 10) (h : Shp xs t) : Fm t := ⟨h.told, by rw [h.steps, hx.1]; exact h10, by rw [h.steps]; exact hx.2.1, h.apart⟩
/-- the tree that is drawn -/
theorem tree_tot (c : Cs) {a : Addr} {x2 x3 x4 x5 x6 x7 : Sl} : Tot d (101 + cst 10) (dSet 3 (xFz (fCall 2 (aCons (fVar 1) (aCons (fCall 2 (aCons (fVar 1) (aCons (fCall 2 (aCons (fVar 1) (aCons (f2 addT (fC (.int 1)) (fCall 2 (aCons (fVar 1) (aCons (fC (.int 10)) aNil)) (F__law_draw c))) aNil)) (F__law_names c)) aNil)) (F__law_mixed c)) aNil)) (F__law_shape c 40))) (r8 a d x2 x3 x4 x5 x6 x7)) (Nx fun ρ => ∃ t, Fm t ∧ ρ = r8 a d x2 (.fz t.T) x4 x5 x6 x7) := by
  refine (Tot.set (Tot.call (n := 101) (k := cst 10) (Tot.cons (n := 0) (k := 101) (P := fun u => u = .raw (.ref d)) (.val rfl) (Tot.cons (n := 101) (k := 0) (names_mixed c rfl (by decide) (by decide) (by decide)) .nilA (Nat.le_refl _)) (Nat.le_refl _)) (fun ts h => ?_) (Nat.le_refl _) (Q := fun t => ∃ tr, t = Tr.T tr ∧ Fm tr))).mono (Nat.le_refl _) (nx_set fun t ht => ?_)
  · obtain ⟨t, us, rfl, rfl, t2, us2, rfl, ⟨m, xs, hm, rfl, hx⟩, rfl⟩ := h
    refine ⟨rfl, (shape_tot c 40 m xs (by omega) (by omega) hm.2 hx).mono (cst_le hm.2) fun t ht => ?_⟩
    obtain ⟨tr, h1, h2⟩ := ht
    exact ⟨tr, h1, fm_of hx hm.2 h2⟩
  · obtain ⟨tr, rfl, h⟩ := ht
    exact ⟨tr, h, rfl⟩
theorem agains_set (c : Cs) {a : Addr} {x2 x3 x4 x5 x6 x7 : Sl} : Tot d 108 (dSet 3 (xFz (fCall 2 (aCons (fVar 1) (aCons (fCall 2 (aCons (fVar 1) (aCons (fCall 2 (aCons (fVar 1) (aCons (f2 addT (fC (.int 8)) (fCall 2 (aCons (fVar 1) (aCons (fC (.int 3)) aNil)) (F__law_draw c))) aNil)) (F__law_names c)) aNil)) (F__law_mixed c)) aNil)) (F__law_agains c))) (r8 a d x2 x3 x4 x5 x6 x7)) (Nx fun ρ => ∃ t, Fm t ∧ ρ = r8 a d x2 (.fz t.T) x4 x5 x6 x7) := by
  refine (Tot.set (Tot.call (n := 101) (k := 7) (Tot.cons (n := 0) (k := 101) (P := fun u => u = .raw (.ref d)) (.val rfl) (Tot.cons (n := 101) (k := 0) (names_mixed c rfl (by decide) (by decide) (by decide)) .nilA (Nat.le_refl _)) (Nat.le_refl _)) (fun ts h => ?_) (Nat.le_refl _) (Q := fun t => ∃ tr, t = Tr.T tr ∧ Fm tr))).mono (Nat.le_refl _) (nx_set fun t ht => ?_)
  · obtain ⟨t, us, rfl, rfl, t2, us2, rfl, ⟨m, xs, hm, rfl, hx⟩, rfl⟩ := h
    refine ⟨rfl, (agains_tot c hx (by omega) hm.2).mono (Nat.le_refl _) fun t ht => ?_⟩
    obtain ⟨tr, h1, h2⟩ := ht
    exact ⟨tr, h1, fm_of hx hm.2 h2⟩
  · obtain ⟨tr, rfl, h⟩ := ht
    exact ⟨tr, h, rfl⟩
/-- the uses, one at a time, until none is left -/
theorem uses_tot (c : Cs) {a : Addr} {x2 x7 : Sl} {t0 : Tr} {us0 : List Tr} (h0 : Fm t0) (ho : AllOk t0 us0) :
    Tot d 2001 (dWhile (fB (f2 (eqT true) (fVar 6) (asL (fLst aNil)))) (seqD (dSet 5 (xFz (fCall 2 (aCons (fVar 1) (aCons (fVar 6) aNil)) (F__law_pick c)))) (dSet 6 (xFz (fCall 1 (aCons (fVar 5) aNil) (F__law_all_once c 30))))) (r8 a d x2 (.fz t0.T) (.fz (formT c t0)) (.fz t0.T) (.fz (.lst (us0.map Tr.T))) x7))
      (Nx fun ρ => ∃ x6, Fm (plainT t0) ∧ Irr (plainT t0) ∧ ρ = r8 a d x2 (.fz t0.T) (.fz (formT c t0)) (.fz (plainT t0).T) x6 x7) := by
  have hm0 : (if us0 = [] then 0 else mea t0 + 1) ≤ 2001 := by
    have := mea_le h0.told h0.steps
    split <;> omega
  refine Tot.mono (Tot.whl (d := d) (n := 1) (fun m ρ => ∃ t us, ρ = r8 a d x2 (.fz t0.T) (.fz (formT c t0)) (.fz (Tr.T t)) (.fz (.lst (us.map Tr.T))) x7 ∧ Fm t ∧ plainT t = plainT t0 ∧ AllOk t us ∧ m = if us = [] then 0 else mea t + 1) (fun m ρ h => ?_) (fun m ρ hm h => ?_) _ _ ⟨t0, us0, rfl, h0, rfl, ho, rfl⟩) (by rw [Nat.mul_one]; exact hm0) (fun fl h => ?_)
  · obtain ⟨t, us, rfl, _, _, _, rfl⟩ := h
    refine fB_e (f2_e (t := .lst (us.map Tr.T)) (u := .lst []) rfl rfl ?_)
    rw [eq_nilT, if_pos rfl]
    cases us <;> simp
  · obtain ⟨t, us, rfl, ht, hp, hu, rfl⟩ := h
    have hne : us ≠ [] := fun z => by rw [if_pos z] at hm; omega
    have hst := ht.steps
    have hul := hu.2.2
    have hpos : 0 < us.length := List.length_pos_iff.mpr hne
    refine Tot.seq (n := 1) (k := 0) (P := fun ρ => ∃ u, u ∈ us ∧ ρ = r8 a d x2 (.fz t0.T) (.fz (formT c t0)) (.fz (Tr.T u)) (.fz (.lst (us.map Tr.T))) x7) ?_ (fun ρ hρ => ?_) (Nat.le_refl _)
    · refine (Tot.set (Tot.eq (fCall_e (ts := [.raw (.ref d), .lst (us.map Tr.T)]) (aCons_e rfl (aCons_e rfl aNil_e)) rfl) (pick_lst c (ts := us.map Tr.T) (by rw [List.length_map]; exact hpos) (by rw [List.length_map]; omega)))).mono (Nat.le_refl _) (nx_set fun t ht => ?_)
      obtain ⟨u, hu, rfl⟩ := List.mem_map.mp ht
      exact ⟨u, hu, rfl⟩
    · obtain ⟨u, hum, rfl⟩ := hρ
      have hs := hu.1 u hum
      have hf := ht.st hs
      have hfd := hf.depth
      have hfs := hf.steps
      obtain ⟨vs, ev, hv⟩ := F_all_once_e (W := Dr) c 30 u (by omega) hf.told (by omega)
      refine .ofRet (dSet_e (xFz_e ((fCall_e (ts := [u.T]) (aCons_e rfl aNil_e) rfl).trans ev))) ⟨_, _, rfl, ?_, u, vs, rfl, hf, (hs.plain ht.told ht.nodup).trans hp, hv, rfl⟩
      have := hs.mea ht.told ht.steps
      rw [if_neg hne]
      split <;> omega
  · obtain ⟨ρ', e, t, us, rfl, ht, hp, hu, hz⟩ := h
    have hus : us = [] := by
      by_cases z : us = []
      · exact z
      · rw [if_neg z] at hz
        omega
    have hi := hu.2.1.mp hus
    have ep : t = plainT t0 := (irr_plain t hi).symm.trans hp
    subst ep
    exact ⟨_, e, _, ht, hi, rfl⟩
/-- both tests of the turn -/
theorem tests_e (c : Cs) {a : Addr} {x2 x6 : Sl} {t : Tr} {b0 : Bool} (ht : Fm t) (hp : Fm (plainT t)) (hi : Irr (plainT t)) (hb : b0 = true ↔ Irr t) :
    (seqD (dIf (bOr (fB (f2 (eqT true) (fProp c.Form ns_Form (F_Form_told c) (fCall 1 (aCons (fVar 4) aNil) (F_plain c))) (fVar 5))) (bOr (fB (fEqI true c.Form ns_Form (F_Form___eq__ c) (fCall 1 (aCons (fVar 4) aNil) (F_plain c)) (fCall 1 (aCons (fVar 5) aNil) (F_Form_of c)))) (fB (f2 (eqT true) (f1 reprT (fCall 1 (aCons (fVar 4) aNil) (F_is_plain c))) (f1 reprT (fVar 7)))))) (dRet (fC (.bl false))) (fun ρ => ret (.nx ρ))) (dIf (bOr (fB (f2 (isT true) (fCall 1 (aCons (fCall 1 (aCons (fVar 4) aNil) (F_plain c)) aNil) (F_is_plain c)) (fC (.bl true)))) (bOr (fB (fEqI true c.Form ns_Form (F_Form___eq__ c) (fCall 1 (aCons (fCall 1 (aCons (fVar 4) aNil) (F_plain c)) aNil) (F_plain c)) (fCall 1 (aCons (fVar 4) aNil) (F_plain c)))) (fB (f2 (eqT true) (fProp c.Form ns_Form (F_Form_told c) (fVar 4)) (fVar 3))))) (dRet (fC (.bl false))) (fun ρ => ret (.nx ρ))) (r8 a d x2 (.fz t.T) (.fz (formT c t)) (.fz (plainT t).T) x6 (.fz (.bl b0))) : M Dr Fl) = ret (.nx (r8 a d x2 (.fz t.T) (.fz (formT c t)) (.fz (plainT t).T) x6 (.fz (.bl b0)))) := by
  have hd := ht.depth
  have hpd := hp.depth
  have pl : (fCall 1 (aCons (fVar 4) aNil) (F_plain c) (r8 a d x2 (.fz t.T) (.fz (formT c t)) (.fz (plainT t).T) x6 (.fz (.bl b0))) : M Dr T) = ret (formT c (plainT t)) := (fCall_e (ts := [formT c t]) (aCons_e rfl aNil_e) rfl).trans (F_plain_e c ht hp)
  have pp : F_plain c [formT c (plainT t)] = (ret (formT c (plainT t)) : M Dr T) := by
    have := F_plain_e (W := Dr) c hp (by rw [irr_plain _ hi]; exact hp)
    rw [irr_plain _ hi] at this
    exact this
  have eqf : F_Form___eq__ c [formT c (plainT t), formT c (plainT t)] = (ret (.bl true) : M Dr T) := by rw [eq_forms c (by omega), tree_eqv]
  obtain ⟨b1, e1, hb1⟩ := F_is_plain_e (W := Dr) c ht
  obtain ⟨b2, e2, hb2⟩ := F_is_plain_e (W := Dr) c hp
  have hb01 : b1 = b0 := by
    rw [Bool.eq_iff_iff, hb1, hb]
  have hb2t : b2 = true := hb2.mpr hi
  subst hb01
  subst hb2t
  obtain ⟨r, hr⟩ := bool_repr b1
  have g1 : (fB (f2 (eqT true) (fProp c.Form ns_Form (F_Form_told c) (fCall 1 (aCons (fVar 4) aNil) (F_plain c))) (fVar 5)) (r8 a d x2 (.fz t.T) (.fz (formT c t)) (.fz (plainT t).T) x6 (.fz (.bl b1))) : M Dr Bool) = ret false :=
    fB_e (f2_e (t := (plainT t).T) (u := (plainT t).T) (fProp_e (t := plainT t) pl (F_told_e c _)) rfl (by rw [eqT_trees true (by omega), tree_eqv]; rfl))
  have g2 : (fB (fEqI true c.Form ns_Form (F_Form___eq__ c) (fCall 1 (aCons (fVar 4) aNil) (F_plain c)) (fCall 1 (aCons (fVar 5) aNil) (F_Form_of c))) (r8 a d x2 (.fz t.T) (.fz (formT c t)) (.fz (plainT t).T) x6 (.fz (.bl b1))) : M Dr Bool) = ret false :=
    fB_e (fEqI_e (t := plainT t) (u := formT c (plainT t)) (b := true) pl (fOf_e c hp rfl) (ty_form c _) eqf)
  have g3 : (fB (f2 (eqT true) (f1 reprT (fCall 1 (aCons (fVar 4) aNil) (F_is_plain c))) (f1 reprT (fVar 7))) (r8 a d x2 (.fz t.T) (.fz (formT c t)) (.fz (plainT t).T) x6 (.fz (.bl b1))) : M Dr Bool) = ret false :=
    fB_e (f2_e (t := .str r) (u := .str r) (f1_e ((fCall_e (ts := [formT c t]) (aCons_e rfl aNil_e) rfl).trans e1) hr) (f1_e (t := .bl b1) rfl hr) (by rw [eq_str]; simp))
  have h1 : (fB (f2 (isT true) (fCall 1 (aCons (fCall 1 (aCons (fVar 4) aNil) (F_plain c)) aNil) (F_is_plain c)) (fC (.bl true))) (r8 a d x2 (.fz t.T) (.fz (formT c t)) (.fz (plainT t).T) x6 (.fz (.bl b1))) : M Dr Bool) = ret false :=
    fB_e (f2_e (t := .bl true) (u := .bl true) ((fCall_e (aCons_e pl aNil_e) rfl).trans e2) rfl (by simp [isT]))
  have h2 : (fB (fEqI true c.Form ns_Form (F_Form___eq__ c) (fCall 1 (aCons (fCall 1 (aCons (fVar 4) aNil) (F_plain c)) aNil) (F_plain c)) (fCall 1 (aCons (fVar 4) aNil) (F_plain c))) (r8 a d x2 (.fz t.T) (.fz (formT c t)) (.fz (plainT t).T) x6 (.fz (.bl b1))) : M Dr Bool) = ret false :=
    fB_e (fEqI_e (t := plainT t) (u := formT c (plainT t)) (b := true) ((fCall_e (aCons_e pl aNil_e) rfl).trans pp) pl (ty_form c _) eqf)
  have h3 : (fB (f2 (eqT true) (fProp c.Form ns_Form (F_Form_told c) (fVar 4)) (fVar 3)) (r8 a d x2 (.fz t.T) (.fz (formT c t)) (.fz (plainT t).T) x6 (.fz (.bl b1))) : M Dr Bool) = ret false :=
    fB_e (f2_e (t := t.T) (u := t.T) (fProp_e (t := t) rfl (F_told_e c t)) rfl (by rw [eqT_trees true (by omega), tree_eqv]; rfl))
  refine (seq_nx ((dIf_f ((bOr_f g1).trans ((bOr_f g2).trans g3))).trans rfl)).trans ((dIf_f ((bOr_f h1).trans ((bOr_f h2).trans h3))).trans rfl)
theorem fScr_e {a d : Addr} {m : Nat} {x2 x3 x4 x5 x6 x7 : Sl} : (fScr 0 a m (r8 a d x2 x3 x4 x5 x6 x7) : M Dr T) = ret (.int (m : Nat)) := by
  funext w
  show (if a = a then some (R.ok (T.int (m : Nat)), w) else none) = _
  rw [if_pos rfl]
  rfl
theorem plain (c : Cs) : Plain c := fun a d ns hl => by
  suffices h : Tot d (20 * (2400 + cst 10)) (g_law c a ns.length (rho0 a d)) (fun fl => fl = .rt (.bl true)) by
    have hw : DOk d (w0 d ns) := ⟨rfl, Int.le_refl _, Int.le_refl _, fun x hx => by
      obtain ⟨y, hy, rfl⟩ := List.mem_map.mp (show x ∈ ((cells0 ns).filter fun n => decide ((10 : Int) ^ 18 ≤ n)).map fun n => n - 10 ^ 18 from hx)
      have := of_decide_eq_true (List.mem_filter.mp hy).2
      omega⟩
    have hb : 20 * (2400 + cst 10) ≤ 35184372088832 := by decide +kernel
    obtain ⟨fl, w', e, rfl, _⟩ := h _ hw (by show (0 : Int) + _ ≤ _; omega)
    exact ⟨w', e⟩
  unfold g_law
  show Tot d _ (seqD _ _ (r8 a d .un .un .un .un .un .un)) _
  let m : Nat := 4 + (if 16 < ns.length then 16 else ns.length)
  have hm : m ≤ 20 := by show 4 + _ ≤ 20; split <;> omega
  have er : (fRange1 (f2 addT (fC (.int 4)) (f2 min2T (fScr 0 a ns.length) (fC (.int 16)))) (r8 a d .un .un .un .un .un .un) : M Dr (List T)) = ret (intsT 0 m) := by
    have hX : (if (16 : Int) < ((ns.length : Nat) : Int) then (16 : Int) else ((ns.length : Nat) : Int)) = ((if 16 < ns.length then 16 else ns.length : Nat) : Int) := by split <;> split <;> omega
    refine range_e (f2_e (t := .int 4) (u := .int ((if 16 < ns.length then 16 else ns.length : Nat) : Int)) rfl (f2_e (t := .int ((ns.length : Nat) : Int)) (u := .int 16) fScr_e rfl (by rw [← hX]; rfl)) ?_) (by omega)
    rw [add_e]
    congr 2
  have hlen : (intsT 0 m).length = m := by unfold intsT; rw [List.length_map, List.length_range]
  refine Tot.seq (n := 20 * (2400 + cst 10)) (k := 0) (P := fun _ => True) ?_ (fun ρ _ => .ofRet rfl rfl) (Nat.le_refl _)
  unfold dFor
  rw [er, ret_bnd]
  refine Tot.mono (Tot.loop (d := d) (n := 2400 + cst 10) (i := 2) (fun _ ρ => ∃ x2 x3 x4 x5 x6 x7, ρ = r8 a d x2 x3 x4 x5 x6 x7) ?step (intsT 0 m) (r8 a d .un .un .un .un .un .un) ⟨_, _, _, _, _, _, rfl⟩) (by rw [hlen]; exact Nat.mul_le_mul_right _ hm) (fun fl hf => by
    obtain ⟨ρ', e, _⟩ := hf
    exact ⟨ρ', e, trivial⟩)
  intro t0 ts ρ h
  obtain ⟨x2, x3, x4, x5, x6, x7, rfl⟩ := h
  show Tot d (2400 + cst 10) (seqD _ _ (r8 a d (.fz t0) x3 x4 x5 x6 x7)) _
  refine Tot.seq (n := 101 + cst 10) (k := 2299) (tree_tot c) (fun ρ hρ => ?_) (by omega)
  obtain ⟨t1, ht1, rfl⟩ := hρ
  refine Tot.seq (n := 109) (k := 2190) (P := fun ρ => ∃ t, Fm t ∧ ρ = r8 a d (.fz t0) (.fz t.T) x4 x5 x6 x7) ?_ (fun ρ hρ => ?_) (by omega)
  · refine Tot.iff_ (n := 1) (k := 108) (P := fun _ => True) (Tot.test (Tot.f2 (n := 1) (k := 0) (P := fun t => ∃ i : Int, t = .int i) ((draw_call c (k := 5) rfl rfl (by decide) (by decide)).mono (Nat.le_refl _) fun t ⟨i, e, _⟩ => ⟨i, e⟩) (.val (t := .int 0) rfl) (fun t u ht hu => ?_) (Nat.le_refl _))) (fun _ => agains_set c) (fun _ => ?_) (Nat.le_refl _)
    · obtain ⟨i, rfl⟩ := ht
      subst hu
      exact ⟨_, eq_int _ _ _, _, rfl, trivial⟩
    · exact Tot.mono (n := 0) (.ofRet rfl ⟨_, rfl, t1, ht1, rfl⟩) (by omega) fun _ h => h
  obtain ⟨t, ht, rfl⟩ := hρ
  have hd := ht.depth
  have hs := ht.steps
  refine Tot.eq (seq_nx (dPar_e (xFz_e (fOf_e c ht rfl)) (xFz_e (t := t.T) rfl))) ?_
  show Tot d 2190 (seqD _ _ (r8 a d (.fz t0) (.fz t.T) (.fz (formT c t)) (.fz t.T) x6 x7)) _
  obtain ⟨us, eu, hu⟩ := F_all_once_e (W := Dr) c 30 t (by omega) ht.told (by omega)
  refine Tot.eq (seq_nx (dSet_e (xFz_e ((fCall_e (ts := [t.T]) (aCons_e rfl aNil_e) rfl).trans eu)))) ?_
  show Tot d 2190 (seqD _ _ (r8 a d (.fz t0) (.fz t.T) (.fz (formT c t)) (.fz t.T) (.fz (.lst (us.map Tr.T))) x7)) _
  refine Tot.eq (seq_nx (dSet_e (xFz_e (f2_e (t := .lst (us.map Tr.T)) (u := .lst []) rfl rfl (eq_nilT false us))))) ?_
  show Tot d 2190 (seqD _ _ (r8 a d (.fz t0) (.fz t.T) (.fz (formT c t)) (.fz t.T) (.fz (.lst (us.map Tr.T))) (.fz (.bl us.isEmpty)))) _
  refine Tot.seq (n := 2001) (k := 0) (uses_tot c ht hu) (fun ρ hρ => ?_) (by omega)
  obtain ⟨y6, hp, hi, rfl⟩ := hρ
  refine .ofRet (tests_e c ht hp hi ?_) ⟨_, rfl, _, _, _, _, _, _, rfl⟩
  rw [List.isEmpty_iff]
  exact hu.2.1
end
end PL

set_option maxHeartbeats 4000000
namespace PL
open PySem PySem.Spec PyProof.Rows L2
theorem kit_data {K : PySem.W.Frag} {C : Addr} {n : String} (h1 : PySem.W.isClsIn K C = true) (h2 : PySem.W.typeIn K (.ref C) = some (.type "type")) (h3 : PySem.W.subIn K (.type n) (.ref C) = some false) : PySem.W.kitOne K (.type n) (.ref C) = some false := by
  unfold PySem.W.kitOne
  rw [if_neg (by simp)]
  show (if ((PySem.W.clsIn K C).isSome && PySem.W.typeIn K (.ref C) == some (.type "type")) = true then PySem.W.subIn K (.type n) (.ref C) else none) = _
  rw [if_pos ?_, h3]
  rw [h2]
  simp
  exact h1
theorem all_mk {P : Program} {w : World} {K : PySem.W.Frag} {h : Heap} {mg : Str → Option Value} {fa f_is_step f_is_told f_parts_of f_steps_in f_begins_in f_ends_in f_need_bodies f_need_steps f_least_step f_flat f_plain_told f_plain f_is_plain f__law_steps f__law_edges f__law_apart f__law_least f__law_once f__law_all_once f__law_draw f__law_pick f__law_names f__law_mixed f__law_shape f__law_agains f__law_begin f_law C_Form f_Form___init__ p_Form_told f_Form_told p_Form_of f_Form_of f_Form___eq__ a_JOINS : Addr} (X : K.In h) (G : h.Ns mainGlobals mg) (hfa : mg "law" = some (.ref fa))
    {od1 an1 : Option Addr} {sl1 : Array (Option Value)} {oc1 kV1 dc1 pm1 cd1 ct1 : Value}
    {od2 an2 : Option Addr} {sl2 : Array (Option Value)} {oc2 kV2 dc2 pm2 cd2 ct2 : Value}
    {od3 an3 : Option Addr} {sl3 : Array (Option Value)} {oc3 kV3 dc3 pm3 cd3 ct3 : Value}
    {od4 an4 : Option Addr} {sl4 : Array (Option Value)} {oc4 kV4 dc4 pm4 cd4 ct4 : Value}
    {od5 an5 : Option Addr} {sl5 : Array (Option Value)} {oc5 kV5 dc5 pm5 cd5 ct5 : Value}
    {od6 an6 : Option Addr} {sl6 : Array (Option Value)} {oc6 kV6 dc6 pm6 cd6 ct6 : Value}
    {od7 an7 : Option Addr} {sl7 : Array (Option Value)} {oc7 kV7 dc7 pm7 cd7 ct7 : Value}
    {od8 an8 : Option Addr} {sl8 : Array (Option Value)} {oc8 kV8 dc8 pm8 cd8 ct8 : Value}
    {od9 an9 : Option Addr} {sl9 : Array (Option Value)} {oc9 kV9 dc9 pm9 cd9 ct9 : Value}
    {od10 an10 : Option Addr} {sl10 : Array (Option Value)} {oc10 kV10 dc10 pm10 cd10 ct10 : Value}
    {od11 an11 : Option Addr} {sl11 : Array (Option Value)} {oc11 kV11 dc11 pm11 cd11 ct11 : Value}
    {od12 an12 : Option Addr} {sl12 : Array (Option Value)} {oc12 kV12 dc12 pm12 cd12 ct12 : Value}
    {od13 an13 : Option Addr} {sl13 : Array (Option Value)} {oc13 kV13 dc13 pm13 cd13 ct13 : Value}
    {od14 an14 : Option Addr} {sl14 : Array (Option Value)} {oc14 kV14 dc14 pm14 cd14 ct14 : Value}
    {od15 an15 : Option Addr} {sl15 : Array (Option Value)} {oc15 kV15 dc15 pm15 cd15 ct15 : Value}
    {od16 an16 : Option Addr} {sl16 : Array (Option Value)} {oc16 kV16 dc16 pm16 cd16 ct16 : Value}
    {od17 an17 : Option Addr} {sl17 : Array (Option Value)} {oc17 kV17 dc17 pm17 cd17 ct17 : Value}
    {od18 an18 : Option Addr} {sl18 : Array (Option Value)} {oc18 kV18 dc18 pm18 cd18 ct18 : Value}
    {od19 an19 : Option Addr} {sl19 : Array (Option Value)} {oc19 kV19 dc19 pm19 cd19 ct19 : Value}
    {od20 an20 : Option Addr} {sl20 : Array (Option Value)} {oc20 kV20 dc20 pm20 cd20 ct20 : Value}
    {od21 an21 : Option Addr} {sl21 : Array (Option Value)} {oc21 kV21 dc21 pm21 cd21 ct21 : Value}
    {od22 an22 : Option Addr} {sl22 : Array (Option Value)} {oc22 kV22 dc22 pm22 cd22 ct22 : Value}
    {od23 an23 : Option Addr} {sl23 : Array (Option Value)} {oc23 kV23 dc23 pm23 cd23 ct23 : Value}
    {od24 an24 : Option Addr} {sl24 : Array (Option Value)} {oc24 kV24 dc24 pm24 cd24 ct24 : Value}
    {od25 an25 : Option Addr} {sl25 : Array (Option Value)} {oc25 kV25 dc25 pm25 cd25 ct25 : Value}
    {od26 an26 : Option Addr} {sl26 : Array (Option Value)} {oc26 kV26 dc26 pm26 cd26 ct26 : Value}
    {od27 an27 : Option Addr} {sl27 : Array (Option Value)} {oc27 kV27 dc27 pm27 cd27 ct27 : Value}
    {od28 an28 : Option Addr} {sl28 : Array (Option Value)} {oc28 kV28 dc28 pm28 cd28 ct28 : Value}
    {r_Form_told : List Value}
    {od29 an29 : Option Addr} {sl29 : Array (Option Value)} {oc29 kV29 dc29 pm29 cd29 ct29 : Value}
    {r_Form_of : List Value}
    {od30 an30 : Option Addr} {sl30 : Array (Option Value)} {oc30 kV30 dc30 pm30 cd30 ct30 : Value}
    {od31 an31 : Option Addr} {sl31 : Array (Option Value)} {oc31 kV31 dc31 pm31 cd31 ct31 : Value}
    {t_LETTERS : Tok}
    {t_MOST_LETTERS : Tok}
    {t_MOST_STEPS : Tok}
    {t0_JOINS t1_JOINS t2_JOINS : Tok} {dd_JOINS : Option Addr} {nn_JOINS : Nat} {ss_JOINS : Array (Option Value)}
    (a_is_step : PySem.W.nsIn K mainGlobals "is_step" = some (some (.ref f_is_step)))
    (l_is_step : K.lookup f_is_step = some ⟨oc1, od1, .func (PySem.W.fnOf "is_step" "is_step" (defArgs s_is_step) (defBody s_is_step) (defScope s_is_step) .none kV1 dc1 pm1 an1 cd1 ct1), sl1⟩)
    (c_is_step : PySem.W.codeIn K cd1 "is_step" = true)
    (k_is_step : PySem.W.keepIn K (.ref f_is_step) = true)
    (a_is_told : PySem.W.nsIn K mainGlobals "is_told" = some (some (.ref f_is_told)))
    (l_is_told : K.lookup f_is_told = some ⟨oc2, od2, .func (PySem.W.fnOf "is_told" "is_told" (defArgs s_is_told) (defBody s_is_told) (defScope s_is_told) .none kV2 dc2 pm2 an2 cd2 ct2), sl2⟩)
    (c_is_told : PySem.W.codeIn K cd2 "is_told" = true)
    (k_is_told : PySem.W.keepIn K (.ref f_is_told) = true)
    (a_parts_of : PySem.W.nsIn K mainGlobals "parts_of" = some (some (.ref f_parts_of)))
    (l_parts_of : K.lookup f_parts_of = some ⟨oc3, od3, .func (PySem.W.fnOf "parts_of" "parts_of" (defArgs s_parts_of) (defBody s_parts_of) (defScope s_parts_of) .none kV3 dc3 pm3 an3 cd3 ct3), sl3⟩)
    (c_parts_of : PySem.W.codeIn K cd3 "parts_of" = true)
    (k_parts_of : PySem.W.keepIn K (.ref f_parts_of) = true)
    (a_steps_in : PySem.W.nsIn K mainGlobals "steps_in" = some (some (.ref f_steps_in)))
    (l_steps_in : K.lookup f_steps_in = some ⟨oc4, od4, .func (PySem.W.fnOf "steps_in" "steps_in" (defArgs s_steps_in) (defBody s_steps_in) (defScope s_steps_in) .none kV4 dc4 pm4 an4 cd4 ct4), sl4⟩)
    (c_steps_in : PySem.W.codeIn K cd4 "steps_in" = true)
    (k_steps_in : PySem.W.keepIn K (.ref f_steps_in) = true)
    (a_begins_in : PySem.W.nsIn K mainGlobals "begins_in" = some (some (.ref f_begins_in)))
    (l_begins_in : K.lookup f_begins_in = some ⟨oc5, od5, .func (PySem.W.fnOf "begins_in" "begins_in" (defArgs s_begins_in) (defBody s_begins_in) (defScope s_begins_in) .none kV5 dc5 pm5 an5 cd5 ct5), sl5⟩)
    (c_begins_in : PySem.W.codeIn K cd5 "begins_in" = true)
    (k_begins_in : PySem.W.keepIn K (.ref f_begins_in) = true)
    (a_ends_in : PySem.W.nsIn K mainGlobals "ends_in" = some (some (.ref f_ends_in)))
    (l_ends_in : K.lookup f_ends_in = some ⟨oc6, od6, .func (PySem.W.fnOf "ends_in" "ends_in" (defArgs s_ends_in) (defBody s_ends_in) (defScope s_ends_in) .none kV6 dc6 pm6 an6 cd6 ct6), sl6⟩)
    (c_ends_in : PySem.W.codeIn K cd6 "ends_in" = true)
    (k_ends_in : PySem.W.keepIn K (.ref f_ends_in) = true)
    (a_need_bodies : PySem.W.nsIn K mainGlobals "need_bodies" = some (some (.ref f_need_bodies)))
    (l_need_bodies : K.lookup f_need_bodies = some ⟨oc7, od7, .func (PySem.W.fnOf "need_bodies" "need_bodies" (defArgs s_need_bodies) (defBody s_need_bodies) (defScope s_need_bodies) .none kV7 dc7 pm7 an7 cd7 ct7), sl7⟩)
    (c_need_bodies : PySem.W.codeIn K cd7 "need_bodies" = true)
    (k_need_bodies : PySem.W.keepIn K (.ref f_need_bodies) = true)
    (a_need_steps : PySem.W.nsIn K mainGlobals "need_steps" = some (some (.ref f_need_steps)))
    (l_need_steps : K.lookup f_need_steps = some ⟨oc8, od8, .func (PySem.W.fnOf "need_steps" "need_steps" (defArgs s_need_steps) (defBody s_need_steps) (defScope s_need_steps) .none kV8 dc8 pm8 an8 cd8 ct8), sl8⟩)
    (c_need_steps : PySem.W.codeIn K cd8 "need_steps" = true)
    (k_need_steps : PySem.W.keepIn K (.ref f_need_steps) = true)
    (a_least_step : PySem.W.nsIn K mainGlobals "least_step" = some (some (.ref f_least_step)))
    (l_least_step : K.lookup f_least_step = some ⟨oc9, od9, .func (PySem.W.fnOf "least_step" "least_step" (defArgs s_least_step) (defBody s_least_step) (defScope s_least_step) .none kV9 dc9 pm9 an9 cd9 ct9), sl9⟩)
    (c_least_step : PySem.W.codeIn K cd9 "least_step" = true)
    (k_least_step : PySem.W.keepIn K (.ref f_least_step) = true)
    (a_flat : PySem.W.nsIn K mainGlobals "flat" = some (some (.ref f_flat)))
    (l_flat : K.lookup f_flat = some ⟨oc10, od10, .func (PySem.W.fnOf "flat" "flat" (defArgs s_flat) (defBody s_flat) (defScope s_flat) .none kV10 dc10 pm10 an10 cd10 ct10), sl10⟩)
    (c_flat : PySem.W.codeIn K cd10 "flat" = true)
    (k_flat : PySem.W.keepIn K (.ref f_flat) = true)
    (a_plain_told : PySem.W.nsIn K mainGlobals "plain_told" = some (some (.ref f_plain_told)))
    (l_plain_told : K.lookup f_plain_told = some ⟨oc11, od11, .func (PySem.W.fnOf "plain_told" "plain_told" (defArgs s_plain_told) (defBody s_plain_told) (defScope s_plain_told) .none kV11 dc11 pm11 an11 cd11 ct11), sl11⟩)
    (c_plain_told : PySem.W.codeIn K cd11 "plain_told" = true)
    (k_plain_told : PySem.W.keepIn K (.ref f_plain_told) = true)
    (a_plain : PySem.W.nsIn K mainGlobals "plain" = some (some (.ref f_plain)))
    (l_plain : K.lookup f_plain = some ⟨oc12, od12, .func (PySem.W.fnOf "plain" "plain" (defArgs s_plain) (defBody s_plain) (defScope s_plain) .none kV12 dc12 pm12 an12 cd12 ct12), sl12⟩)
    (c_plain : PySem.W.codeIn K cd12 "plain" = true)
    (k_plain : PySem.W.keepIn K (.ref f_plain) = true)
    (a_is_plain : PySem.W.nsIn K mainGlobals "is_plain" = some (some (.ref f_is_plain)))
    (l_is_plain : K.lookup f_is_plain = some ⟨oc13, od13, .func (PySem.W.fnOf "is_plain" "is_plain" (defArgs s_is_plain) (defBody s_is_plain) (defScope s_is_plain) .none kV13 dc13 pm13 an13 cd13 ct13), sl13⟩)
    (c_is_plain : PySem.W.codeIn K cd13 "is_plain" = true)
    (k_is_plain : PySem.W.keepIn K (.ref f_is_plain) = true)
    (a__law_steps : PySem.W.nsIn K mainGlobals "_law_steps" = some (some (.ref f__law_steps)))
    (l__law_steps : K.lookup f__law_steps = some ⟨oc14, od14, .func (PySem.W.fnOf "_law_steps" "_law_steps" (defArgs s__law_steps) (defBody s__law_steps) (defScope s__law_steps) .none kV14 dc14 pm14 an14 cd14 ct14), sl14⟩)
    (c__law_steps : PySem.W.codeIn K cd14 "_law_steps" = true)
    (k__law_steps : PySem.W.keepIn K (.ref f__law_steps) = true)
    (a__law_edges : PySem.W.nsIn K mainGlobals "_law_edges" = some (some (.ref f__law_edges)))
    (l__law_edges : K.lookup f__law_edges = some ⟨oc15, od15, .func (PySem.W.fnOf "_law_edges" "_law_edges" (defArgs s__law_edges) (defBody s__law_edges) (defScope s__law_edges) .none kV15 dc15 pm15 an15 cd15 ct15), sl15⟩)
    (c__law_edges : PySem.W.codeIn K cd15 "_law_edges" = true)
    (k__law_edges : PySem.W.keepIn K (.ref f__law_edges) = true)
    (a__law_apart : PySem.W.nsIn K mainGlobals "_law_apart" = some (some (.ref f__law_apart)))
    (l__law_apart : K.lookup f__law_apart = some ⟨oc16, od16, .func (PySem.W.fnOf "_law_apart" "_law_apart" (defArgs s__law_apart) (defBody s__law_apart) (defScope s__law_apart) .none kV16 dc16 pm16 an16 cd16 ct16), sl16⟩)
    (c__law_apart : PySem.W.codeIn K cd16 "_law_apart" = true)
    (k__law_apart : PySem.W.keepIn K (.ref f__law_apart) = true)
    (a__law_least : PySem.W.nsIn K mainGlobals "_law_least" = some (some (.ref f__law_least)))
    (l__law_least : K.lookup f__law_least = some ⟨oc17, od17, .func (PySem.W.fnOf "_law_least" "_law_least" (defArgs s__law_least) (defBody s__law_least) (defScope s__law_least) .none kV17 dc17 pm17 an17 cd17 ct17), sl17⟩)
    (c__law_least : PySem.W.codeIn K cd17 "_law_least" = true)
    (k__law_least : PySem.W.keepIn K (.ref f__law_least) = true)
    (a__law_once : PySem.W.nsIn K mainGlobals "_law_once" = some (some (.ref f__law_once)))
    (l__law_once : K.lookup f__law_once = some ⟨oc18, od18, .func (PySem.W.fnOf "_law_once" "_law_once" (defArgs s__law_once) (defBody s__law_once) (defScope s__law_once) .none kV18 dc18 pm18 an18 cd18 ct18), sl18⟩)
    (c__law_once : PySem.W.codeIn K cd18 "_law_once" = true)
    (k__law_once : PySem.W.keepIn K (.ref f__law_once) = true)
    (a__law_all_once : PySem.W.nsIn K mainGlobals "_law_all_once" = some (some (.ref f__law_all_once)))
    (l__law_all_once : K.lookup f__law_all_once = some ⟨oc19, od19, .func (PySem.W.fnOf "_law_all_once" "_law_all_once" (defArgs s__law_all_once) (defBody s__law_all_once) (defScope s__law_all_once) .none kV19 dc19 pm19 an19 cd19 ct19), sl19⟩)
    (c__law_all_once : PySem.W.codeIn K cd19 "_law_all_once" = true)
    (k__law_all_once : PySem.W.keepIn K (.ref f__law_all_once) = true)
    (a__law_draw : PySem.W.nsIn K mainGlobals "_law_draw" = some (some (.ref f__law_draw)))
    (l__law_draw : K.lookup f__law_draw = some ⟨oc20, od20, .func (PySem.W.fnOf "_law_draw" "_law_draw" (defArgs s__law_draw) (defBody s__law_draw) (defScope s__law_draw) .none kV20 dc20 pm20 an20 cd20 ct20), sl20⟩)
    (c__law_draw : PySem.W.codeIn K cd20 "_law_draw" = true)
    (k__law_draw : PySem.W.keepIn K (.ref f__law_draw) = true)
    (a__law_pick : PySem.W.nsIn K mainGlobals "_law_pick" = some (some (.ref f__law_pick)))
    (l__law_pick : K.lookup f__law_pick = some ⟨oc21, od21, .func (PySem.W.fnOf "_law_pick" "_law_pick" (defArgs s__law_pick) (defBody s__law_pick) (defScope s__law_pick) .none kV21 dc21 pm21 an21 cd21 ct21), sl21⟩)
    (c__law_pick : PySem.W.codeIn K cd21 "_law_pick" = true)
    (k__law_pick : PySem.W.keepIn K (.ref f__law_pick) = true)
    (a__law_names : PySem.W.nsIn K mainGlobals "_law_names" = some (some (.ref f__law_names)))
    (l__law_names : K.lookup f__law_names = some ⟨oc22, od22, .func (PySem.W.fnOf "_law_names" "_law_names" (defArgs s__law_names) (defBody s__law_names) (defScope s__law_names) .none kV22 dc22 pm22 an22 cd22 ct22), sl22⟩)
    (c__law_names : PySem.W.codeIn K cd22 "_law_names" = true)
    (k__law_names : PySem.W.keepIn K (.ref f__law_names) = true)
    (a__law_mixed : PySem.W.nsIn K mainGlobals "_law_mixed" = some (some (.ref f__law_mixed)))
    (l__law_mixed : K.lookup f__law_mixed = some ⟨oc23, od23, .func (PySem.W.fnOf "_law_mixed" "_law_mixed" (defArgs s__law_mixed) (defBody s__law_mixed) (defScope s__law_mixed) .none kV23 dc23 pm23 an23 cd23 ct23), sl23⟩)
    (c__law_mixed : PySem.W.codeIn K cd23 "_law_mixed" = true)
    (k__law_mixed : PySem.W.keepIn K (.ref f__law_mixed) = true)
    (a__law_shape : PySem.W.nsIn K mainGlobals "_law_shape" = some (some (.ref f__law_shape)))
    (l__law_shape : K.lookup f__law_shape = some ⟨oc24, od24, .func (PySem.W.fnOf "_law_shape" "_law_shape" (defArgs s__law_shape) (defBody s__law_shape) (defScope s__law_shape) .none kV24 dc24 pm24 an24 cd24 ct24), sl24⟩)
    (c__law_shape : PySem.W.codeIn K cd24 "_law_shape" = true)
    (k__law_shape : PySem.W.keepIn K (.ref f__law_shape) = true)
    (a__law_agains : PySem.W.nsIn K mainGlobals "_law_agains" = some (some (.ref f__law_agains)))
    (l__law_agains : K.lookup f__law_agains = some ⟨oc25, od25, .func (PySem.W.fnOf "_law_agains" "_law_agains" (defArgs s__law_agains) (defBody s__law_agains) (defScope s__law_agains) .none kV25 dc25 pm25 an25 cd25 ct25), sl25⟩)
    (c__law_agains : PySem.W.codeIn K cd25 "_law_agains" = true)
    (k__law_agains : PySem.W.keepIn K (.ref f__law_agains) = true)
    (a__law_begin : PySem.W.nsIn K mainGlobals "_law_begin" = some (some (.ref f__law_begin)))
    (l__law_begin : K.lookup f__law_begin = some ⟨oc26, od26, .func (PySem.W.fnOf "_law_begin" "_law_begin" (defArgs s_begin) (defBody s_begin) (defScope s_begin) .none kV26 dc26 pm26 an26 cd26 ct26), sl26⟩)
    (c__law_begin : PySem.W.codeIn K cd26 "_law_begin" = true)
    (k__law_begin : PySem.W.keepIn K (.ref f__law_begin) = true)
    (a_law : PySem.W.nsIn K mainGlobals "law" = some (some (.ref f_law)))
    (l_law : K.lookup f_law = some ⟨oc27, od27, .func (PySem.W.fnOf "law" "law" (defArgs s_law) (defBody s_law) (defScope s_law) .none kV27 dc27 pm27 an27 cd27 ct27), sl27⟩)
    (c_law : PySem.W.codeIn K cd27 "law" = true)
    (k_law : PySem.W.keepIn K (.ref f_law) = true)
    (aC_Form : PySem.W.nsIn K mainGlobals "Form" = some (some (.ref C_Form)))
    (pg_Form : PySem.W.plainGet K C_Form Str.empty = true)
    (hd_Form : PySem.W.hasDictIn K C_Form = true)
    (po_Form : PySem.W.plainOver K C_Form = true)
    (sa_Form : PySem.W.findIn K (.ref C_Form) "__setattr__" = some (some (.builtin "object.__setattr__")))
    (mk_Form : PySem.W.makesIn K C_Form = true)
    (kc_Form : PySem.W.keepIn K (.ref C_Form) = true)
    (no_Form_own_told : PySem.W.findIn K (.ref C_Form) "own_told" = some none)
    (no_Form_own_steps : PySem.W.findIn K (.ref C_Form) "own_steps" = some none)
    (ca_Form : PySem.W.findIn K (.ref C_Form) "__class__" = some (some (.builtin "object.__class__")))
    (cg_Form : PySem.W.specialIn K (.builtin "object.__class__") "__get__" = some (some (.builtin "getset_descriptor.__get__")))
    (ct_Form : PySem.W.takesIn K (.builtin "object.__class__") = some true)
    (ob_Form : PySem.W.mroIn K C_Form (.type "object") = some true)
    (ic_Form : PySem.W.isClsIn K C_Form = true)
    (tc_Form : PySem.W.typeIn K (.ref C_Form) = some (.type "type"))
    (sb_Form_NoneType : PySem.W.subIn K (.type "NoneType") (.ref C_Form) = some false)
    (nf_Form_NoneType : PySem.W.notFirst K C_Form (.type "NoneType") = true)
    (sb_Form_bool : PySem.W.subIn K (.type "bool") (.ref C_Form) = some false)
    (nf_Form_bool : PySem.W.notFirst K C_Form (.type "bool") = true)
    (sb_Form_int : PySem.W.subIn K (.type "int") (.ref C_Form) = some false)
    (nf_Form_int : PySem.W.notFirst K C_Form (.type "int") = true)
    (sb_Form_str : PySem.W.subIn K (.type "str") (.ref C_Form) = some false)
    (nf_Form_str : PySem.W.notFirst K C_Form (.type "str") = true)
    (sb_Form_tuple : PySem.W.subIn K (.type "tuple") (.ref C_Form) = some false)
    (nf_Form_tuple : PySem.W.notFirst K C_Form (.type "tuple") = true)
    (sb_Form_list : PySem.W.subIn K (.type "list") (.ref C_Form) = some false)
    (nf_Form_list : PySem.W.notFirst K C_Form (.type "list") = true)
    (sb_Form_dict : PySem.W.subIn K (.type "dict") (.ref C_Form) = some false)
    (nf_Form_dict : PySem.W.notFirst K C_Form (.type "dict") = true)
    (ne_Form : PySem.W.findIn K (.ref C_Form) "__ne__" = some (some (.builtin "object.__ne__")))
    (ga_Form : PySem.W.specialIn K (.ref C_Form) "__getattribute__" = some (some (.builtin "type.__getattribute__")))
    (rd_Form : PySem.W.readsIn K C_Form (.type "type") = true)
    (a_Form___init__ : PySem.W.findIn K (.ref C_Form) "__init__" = some (some (.ref f_Form___init__)))
    (i_Form___init__ : PySem.W.isFn K (.ref f_Form___init__) = true)
    (l_Form___init__ : K.lookup f_Form___init__ = some ⟨oc28, od28, .func (PySem.W.fnOf "__init__" "Form.__init__" (defArgs s_Form___init__) (defBody s_Form___init__) (defScope s_Form___init__) .none kV28 dc28 pm28 an28 cd28 ct28), sl28⟩)
    (c_Form___init__ : PySem.W.codeIn K cd28 "Form.__init__" = true)
    (k_Form___init__ : PySem.W.keepIn K (.ref f_Form___init__) = true)
    (a_Form_told : PySem.W.findIn K (.ref C_Form) "told" = some (some (.ref p_Form_told)))
    (g_Form_told : PySem.W.specialIn K (.ref p_Form_told) "__get__" = some (some (.builtin "property.__get__")))
    (t_Form_told : PySem.W.takesIn K (.ref p_Form_told) = some true)
    (r_Form_told_ : PySem.W.recIn K p_Form_told "property" = some (.ref f_Form_told :: r_Form_told))
    (l_Form_told : K.lookup f_Form_told = some ⟨oc29, od29, .func (PySem.W.fnOf "told" "Form.told" (defArgs s_Form_told) (defBody s_Form_told) (defScope s_Form_told) .none kV29 dc29 pm29 an29 cd29 ct29), sl29⟩)
    (c_Form_told : PySem.W.codeIn K cd29 "Form.told" = true)
    (k_Form_told : PySem.W.keepIn K (.ref f_Form_told) = true)
    (a_Form_of : PySem.W.findCls K (.ref C_Form) (.type "type") "of" = some (.get (.builtin "staticmethod.__get__") (.ref p_Form_of) .none (.ref C_Form)))
    (r_Form_of_ : PySem.W.recIn K p_Form_of "staticmethod" = some (.ref f_Form_of :: r_Form_of))
    (l_Form_of : K.lookup f_Form_of = some ⟨oc30, od30, .func (PySem.W.fnOf "of" "Form.of" (defArgs s_Form_of) (defBody s_Form_of) (defScope s_Form_of) .none kV30 dc30 pm30 an30 cd30 ct30), sl30⟩)
    (c_Form_of : PySem.W.codeIn K cd30 "Form.of" = true)
    (k_Form_of : PySem.W.keepIn K (.ref f_Form_of) = true)
    (a_Form___eq__ : PySem.W.findIn K (.ref C_Form) "__eq__" = some (some (.ref f_Form___eq__)))
    (i_Form___eq__ : PySem.W.isFn K (.ref f_Form___eq__) = true)
    (l_Form___eq__ : K.lookup f_Form___eq__ = some ⟨oc31, od31, .func (PySem.W.fnOf "__eq__" "Form.__eq__" (defArgs s_Form___eq__) (defBody s_Form___eq__) (defScope s_Form___eq__) .none kV31 dc31 pm31 an31 cd31 ct31), sl31⟩)
    (c_Form___eq__ : PySem.W.codeIn K cd31 "Form.__eq__" = true)
    (k_Form___eq__ : PySem.W.keepIn K (.ref f_Form___eq__) = true)
    (z_all : PySem.W.nsIn K mainGlobals "all" = some none)
    (z_int : PySem.W.nsIn K mainGlobals "int" = some none)
    (z_isinstance : PySem.W.nsIn K mainGlobals "isinstance" = some none)
    (z_len : PySem.W.nsIn K mainGlobals "len" = some none)
    (z_list : PySem.W.nsIn K mainGlobals "list" = some none)
    (z_min : PySem.W.nsIn K mainGlobals "min" = some none)
    (z_range : PySem.W.nsIn K mainGlobals "range" = some none)
    (z_repr : PySem.W.nsIn K mainGlobals "repr" = some none)
    (z_sorted : PySem.W.nsIn K mainGlobals "sorted" = some none)
    (z_str : PySem.W.nsIn K mainGlobals "str" = some none)
    (z_tuple : PySem.W.nsIn K mainGlobals "tuple" = some none)
    (z_abs : PySem.W.nsIn K mainGlobals "abs" = some none)
    (n_LETTERS : PySem.W.nsIn K mainGlobals "LETTERS" = some (some (.str "abcdefghijklmnopqrstuvwxyz" t_LETTERS)))
    (n_MOST_LETTERS : PySem.W.nsIn K mainGlobals "MOST_LETTERS" = some (some (.int 6 t_MOST_LETTERS)))
    (n_MOST_STEPS : PySem.W.nsIn K mainGlobals "MOST_STEPS" = some (some (.int 10 t_MOST_STEPS)))
    (n_JOINS : PySem.W.nsIn K mainGlobals "JOINS" = some (some (.ref a_JOINS)))
    (l_JOINS : K.lookup a_JOINS = some ⟨.type "tuple", dd_JOINS, .seq ([.str "behind" t0_JOINS, .str "either" t1_JOINS, .str "beside" t2_JOINS] : List Value).toArray nn_JOINS, ss_JOINS⟩) :
    ∃ fd : FuncData, (∀ (s : Shared) (u : Value), BindsTo s fd ⟨[u], []⟩ [("_law_script", u)]) ∧ ∀ base : Heap, K.In base → base.Ns mainGlobals mg → FnG P w K mg base (L2.CX P w) 72 fa fd ["_law_script"] (spL K) := by
  have e := hfa.symm.trans (PySem.W.mg_of X G a_law)
  cases e
  have F_is_step := fun_mk (st := s_is_step) l_is_step c_is_step k_is_step
  have F_is_told := fun_mk (st := s_is_told) l_is_told c_is_told k_is_told
  have F_parts_of := fun_mk (st := s_parts_of) l_parts_of c_parts_of k_parts_of
  have F_steps_in := fun_mk (st := s_steps_in) l_steps_in c_steps_in k_steps_in
  have F_begins_in := fun_mk (st := s_begins_in) l_begins_in c_begins_in k_begins_in
  have F_ends_in := fun_mk (st := s_ends_in) l_ends_in c_ends_in k_ends_in
  have F_need_bodies := fun_mk (st := s_need_bodies) l_need_bodies c_need_bodies k_need_bodies
  have F_need_steps := fun_mk (st := s_need_steps) l_need_steps c_need_steps k_need_steps
  have F_least_step := fun_mk (st := s_least_step) l_least_step c_least_step k_least_step
  have F_flat := fun_mk (st := s_flat) l_flat c_flat k_flat
  have F_plain_told := fun_mk (st := s_plain_told) l_plain_told c_plain_told k_plain_told
  have F_plain := fun_mk (st := s_plain) l_plain c_plain k_plain
  have F_is_plain := fun_mk (st := s_is_plain) l_is_plain c_is_plain k_is_plain
  have F__law_steps := fun_mk (st := s__law_steps) l__law_steps c__law_steps k__law_steps
  have F__law_edges := fun_mk (st := s__law_edges) l__law_edges c__law_edges k__law_edges
  have F__law_apart := fun_mk (st := s__law_apart) l__law_apart c__law_apart k__law_apart
  have F__law_least := fun_mk (st := s__law_least) l__law_least c__law_least k__law_least
  have F__law_once := fun_mk (st := s__law_once) l__law_once c__law_once k__law_once
  have F__law_all_once := fun_mk (st := s__law_all_once) l__law_all_once c__law_all_once k__law_all_once
  have F__law_draw := fun_mk (st := s__law_draw) l__law_draw c__law_draw k__law_draw
  have F__law_pick := fun_mk (st := s__law_pick) l__law_pick c__law_pick k__law_pick
  have F__law_names := fun_mk (st := s__law_names) l__law_names c__law_names k__law_names
  have F__law_mixed := fun_mk (st := s__law_mixed) l__law_mixed c__law_mixed k__law_mixed
  have F__law_shape := fun_mk (st := s__law_shape) l__law_shape c__law_shape k__law_shape
  have F__law_agains := fun_mk (st := s__law_agains) l__law_agains c__law_agains k__law_agains
  have F__law_begin := fun_mk (st := s_begin) l__law_begin c__law_begin k__law_begin
  have F_law := fun_mk (st := s_law) l_law c_law k_law
  have F_Form___init__ := fun_mk (st := s_Form___init__) l_Form___init__ c_Form___init__ k_Form___init__
  have F_Form_told := fun_mk (st := s_Form_told) l_Form_told c_Form_told k_Form_told
  have F_Form_of := fun_mk (st := s_Form_of) l_Form_of c_Form_of k_Form_of
  have F_Form___eq__ := fun_mk (st := s_Form___eq__) l_Form___eq__ c_Form___eq__ k_Form___eq__
  have one_Form : ∀ n ∈ dataTypes, PySem.W.kitOne K (.type n) (.ref C_Form) = some false := by
    intro n hn
    simp only [dataTypes, List.mem_cons, List.not_mem_nil, or_false] at hn
    rcases hn with rfl | rfl | rfl | rfl | rfl | rfl | rfl
    · exact kit_data ic_Form tc_Form sb_Form_NoneType
    · exact kit_data ic_Form tc_Form sb_Form_bool
    · exact kit_data ic_Form tc_Form sb_Form_int
    · exact kit_data ic_Form tc_Form sb_Form_str
    · exact kit_data ic_Form tc_Form sb_Form_tuple
    · exact kit_data ic_Form tc_Form sb_Form_list
    · exact kit_data ic_Form tc_Form sb_Form_dict
  have nf_Form : ∀ n ∈ dataTypes, PySem.W.notFirst K C_Form (.type n) = true := by
    intro n hn
    simp only [dataTypes, List.mem_cons, List.not_mem_nil, or_false] at hn
    rcases hn with rfl | rfl | rfl | rfl | rfl | rfl | rfl
    · exact nf_Form_NoneType
    · exact nf_Form_bool
    · exact nf_Form_int
    · exact nf_Form_str
    · exact nf_Form_tuple
    · exact nf_Form_list
    · exact nf_Form_dict
  have no_Form : ∀ f ∈ ns_Form, NoAttr K C_Form f := by
    intro f hf
    simp only [ns_Form, List.mem_cons, List.not_mem_nil, or_false] at hf
    rcases hf with rfl | rfl
    · exact no_Form_own_told
    · exact no_Form_own_steps
  have TX : Txt K mg ⟨C_Form, f_Form___init__, f_Form_told, p_Form_told, f_Form_of, p_Form_of, f_Form___eq__⟩ := { cls_Form := ⟨⟨pg_Form, hd_Form, po_Form, sa_Form⟩, no_Form, by decide +kernel, ca_Form, cg_Form, ct_Form, ob_Form, one_Form, nf_Form⟩, m_Form := PySem.W.mg_of X G aC_Form, ne_Form := ne_Form, mk_Form := ⟨mk_Form, a_Form___init__, i_Form___init__, kc_Form⟩, p_Form_told := ⟨a_Form_told, g_Form_told, t_Form_told, _, r_Form_told_⟩, s_Form_of := ⟨ga_Form, rd_Form, a_Form_of, ⟨_, r_Form_of_⟩, k_Form_of⟩, s_Form___eq__ := ⟨a_Form___eq__, i_Form___eq__⟩, c_LETTERS := ConstAt.str (PySem.W.mg_of X G n_LETTERS), c_MOST_LETTERS := ConstAt.int (PySem.W.mg_of X G n_MOST_LETTERS), c_MOST_STEPS := ConstAt.int (PySem.W.mg_of X G n_MOST_STEPS), c_JOINS := ConstAt.strs (ys := ["behind", "either", "beside"]) (PySem.W.mg_of X G n_JOINS) l_JOINS (.cons ⟨_, rfl⟩ (.cons ⟨_, rfl⟩ (.cons ⟨_, rfl⟩ .nil))) (by show 3 ≤ sizeLine; rw [sizeLine_eq]; omega), n_all := PySem.W.mg_none_of X G z_all, n_int := PySem.W.mg_none_of X G z_int, n_isinstance := PySem.W.mg_none_of X G z_isinstance, n_len := PySem.W.mg_none_of X G z_len, n_list := PySem.W.mg_none_of X G z_list, n_min := PySem.W.mg_none_of X G z_min, n_range := PySem.W.mg_none_of X G z_range, n_repr := PySem.W.mg_none_of X G z_repr, n_sorted := PySem.W.mg_none_of X G z_sorted, n_str := PySem.W.mg_none_of X G z_str, n_tuple := PySem.W.mg_none_of X G z_tuple }
  have b_begin := F__law_begin.binds (ps := ["_law_script"]) fun _ _ _ _ _ _ us hl => match us, hl with | [_], _ => rfl
  refine ⟨PySem.W.fnOf "law" "law" (defArgs s_law) (defBody s_law) (defScope s_law) .none kV27 dc27 pm27 an27 cd27 ct27, fun s v => .of_eq rfl, fun base _ _ => ?_⟩
  have D_is_step := ok_is_step (P := P) (w := w) (base := base) (W := Dr) TX ⟨_, _, F_is_step, PySem.W.mg_of X G a_is_step⟩ 
  have D_is_told := ok_is_told (P := P) (w := w) (base := base) (W := Dr) TX ⟨_, _, F_is_told, PySem.W.mg_of X G a_is_told⟩ D_is_step 30
  have D_parts_of := ok_parts_of (P := P) (w := w) (base := base) (W := Dr) TX ⟨_, _, F_parts_of, PySem.W.mg_of X G a_parts_of⟩ 
  have D_steps_in := ok_steps_in (P := P) (w := w) (base := base) (W := Dr) TX ⟨_, _, F_steps_in, PySem.W.mg_of X G a_steps_in⟩ D_parts_of 30
  have D_begins_in := ok_begins_in (P := P) (w := w) (base := base) (W := Dr) TX ⟨_, _, F_begins_in, PySem.W.mg_of X G a_begins_in⟩  30
  have D_ends_in := ok_ends_in (P := P) (w := w) (base := base) (W := Dr) TX ⟨_, _, F_ends_in, PySem.W.mg_of X G a_ends_in⟩  30
  have D_need_bodies := ok_need_bodies (P := P) (w := w) (base := base) (W := Dr) TX ⟨_, _, F_need_bodies, PySem.W.mg_of X G a_need_bodies⟩ D_parts_of D_begins_in D_ends_in 30
  have D_need_steps := ok_need_steps (P := P) (w := w) (base := base) (W := Dr) TX ⟨_, _, F_need_steps, PySem.W.mg_of X G a_need_steps⟩ 
  have D_Form___init__ := ok_Form___init__ (P := P) (w := w) (base := base) (W := Dr) TX ⟨_, F_Form___init__⟩ D_steps_in
  have D_Form_of := ok_Form_of (P := P) (w := w) (base := base) (W := Dr) TX ⟨_, F_Form_of⟩ D_is_told D_steps_in D_need_steps D_need_bodies D_Form___init__
  have D_Form_told := ok_Form_told (P := P) (w := w) (base := base) (W := Dr) TX ⟨_, F_Form_told⟩ 
  have D_Form___eq__ := ok_Form___eq__ (P := P) (w := w) (base := base) (W := Dr) TX ⟨_, F_Form___eq__⟩ 
  have D_least_step := ok_least_step (P := P) (w := w) (base := base) (W := Dr) TX ⟨_, _, F_least_step, PySem.W.mg_of X G a_least_step⟩ D_steps_in
  have D_flat := ok_flat (P := P) (w := w) (base := base) (W := Dr) TX ⟨_, _, F_flat, PySem.W.mg_of X G a_flat⟩ D_least_step
  have D_plain_told := ok_plain_told (P := P) (w := w) (base := base) (W := Dr) TX ⟨_, _, F_plain_told, PySem.W.mg_of X G a_plain_told⟩ D_flat 30
  have D_plain := ok_plain (P := P) (w := w) (base := base) (W := Dr) TX ⟨_, _, F_plain, PySem.W.mg_of X G a_plain⟩ D_Form_of D_Form_told D_plain_told
  have Dk_plain := okk_plain (P := P) (w := w) (base := base) (W := Dr) TX ⟨_, _, F_plain, PySem.W.mg_of X G a_plain⟩ D_Form_of D_Form_told D_plain_told
  have D_is_plain := ok_is_plain (P := P) (w := w) (base := base) (W := Dr) TX ⟨_, _, F_is_plain, PySem.W.mg_of X G a_is_plain⟩ D_Form_told D_plain_told
  have Dk_is_plain := okk_is_plain (P := P) (w := w) (base := base) (W := Dr) TX ⟨_, _, F_is_plain, PySem.W.mg_of X G a_is_plain⟩ D_Form_told D_plain_told
  have D__law_steps := ok__law_steps (P := P) (w := w) (base := base) (W := Dr) TX ⟨_, _, F__law_steps, PySem.W.mg_of X G a__law_steps⟩  30
  have D__law_edges := ok__law_edges (P := P) (w := w) (base := base) (W := Dr) TX ⟨_, _, F__law_edges, PySem.W.mg_of X G a__law_edges⟩  30
  have D__law_apart := ok__law_apart (P := P) (w := w) (base := base) (W := Dr) TX ⟨_, _, F__law_apart, PySem.W.mg_of X G a__law_apart⟩ D__law_edges
  have D__law_least := ok__law_least (P := P) (w := w) (base := base) (W := Dr) TX ⟨_, _, F__law_least, PySem.W.mg_of X G a__law_least⟩ D__law_steps
  have D__law_once := ok__law_once (P := P) (w := w) (base := base) (W := Dr) TX ⟨_, _, F__law_once, PySem.W.mg_of X G a__law_once⟩ D__law_least
  have D__law_all_once := ok__law_all_once (P := P) (w := w) (base := base) (W := Dr) TX ⟨_, _, F__law_all_once, PySem.W.mg_of X G a__law_all_once⟩ D__law_once 30
  have D__law_draw := ok__law_draw (P := P) (w := w) (base := base) TX ⟨_, _, F__law_draw, PySem.W.mg_of X G a__law_draw⟩ 
  have D__law_pick := ok__law_pick (P := P) (w := w) (base := base) TX ⟨_, _, F__law_pick, PySem.W.mg_of X G a__law_pick⟩ D__law_draw
  have D__law_names := ok__law_names (P := P) (w := w) (base := base) TX ⟨_, _, F__law_names, PySem.W.mg_of X G a__law_names⟩ D__law_pick D__law_draw
  have D__law_mixed := ok__law_mixed (P := P) (w := w) (base := base) TX ⟨_, _, F__law_mixed, PySem.W.mg_of X G a__law_mixed⟩ D__law_draw
  have D__law_shape := ok__law_shape (P := P) (w := w) (base := base) TX ⟨_, _, F__law_shape, PySem.W.mg_of X G a__law_shape⟩ D__law_pick D__law_draw D__law_apart 40
  have D__law_agains := ok__law_agains (P := P) (w := w) (base := base) TX ⟨_, _, F__law_agains, PySem.W.mg_of X G a__law_agains⟩ D__law_draw D__law_pick
  exact ok_law TX (plain _) F_law (ok_begin (PySem.W.mg_none_of X G z_abs) F__law_begin) (PySem.W.mg_of X G a__law_begin) k__law_begin b_begin D__law_draw D__law_names D__law_mixed D__law_shape D__law_agains D_Form_of D__law_all_once D__law_pick D_is_plain D_Form___eq__ D_plain D_Form_told Dk_plain Dk_is_plain
theorem walkL {l : PySem.W.OpenLaw} {q : Program} {loose : List Str} {XP : (Str → Option Value) → Heap → Prop} {YP : World → Heap → Prop} {d : DefRec} {K : Params → PySem.W.Frag} (hn : l.most = some 63) (hdf : d.params.defaults = [])
    (hY : ∀ (w : World) (h : Heap), YP w h → (K w.params).In h)
    (F : ∀ (w : World) (mg : Str → Option Value) (fa : Addr) (h : Heap), (K w.params).In h → h.Ns mainGlobals mg → mg d.name = some (.ref fa) →
      ∃ fd : FuncData, (∀ (s : Shared) (u : Value), BindsTo s fd ⟨[u], []⟩ [("_law_script", u)]) ∧ ∀ base : Heap, (K w.params).In base → base.Ns mainGlobals mg → FnG l.prog w (K w.params) mg base (L2.CX l.prog w) 72 fa fd ["_law_script"] (spL (K w.params))) :
    PySem.W.WalkO q loose XP YP l.row.toRowW d [] (fun f vs => PySem.call f vs) :=
  walk_ofG (n := 63) (k := 72) (x := "_law_script") (CX := fun w => L2.CX l.prog w) (sp := fun w => spL (K w.params)) hn (by decide) hdf ⟨rfl, by decide, by decide⟩ hY F (fun w H a ns hl _ hS => ⟨a, ns, rfl, hS, hl, fun _ => rfl⟩) (fun _ _ _ _ _ z => by
    obtain ⟨_, _, _, _, _, _, _, _, _, _, _, _, z⟩ := z
    exact z)
end PL

set_option maxHeartbeats 4000000
open PySem PySem.W PyProof.Rows
set_option maxRecDepth 100000 in
set_option maxHeartbeats 0 in
theorem PySem.Challenge.cw_nextsteps_k06_plain_forms_holds : PySem.Challenge.rw_nextsteps_k06_plain_forms.Holds := by
  w_on; o_law; k_head; (case hw => w_witness2)
  k_fill
  refine PL.walkL (l := PySem.Challenge.rw_nextsteps_k06_plain_forms) rfl rfl (fun w h Y => PySem.W.kIn_of Y) ?F
  case F =>
    intro w mg fa h KX G hmg
    refine' PL.all_mk KX G hmg ?a_is_step ?l_is_step ?c_is_step ?k_is_step ?a_is_told ?l_is_told ?c_is_told ?k_is_told ?a_parts_of ?l_parts_of ?c_parts_of ?k_parts_of ?a_steps_in ?l_steps_in ?c_steps_in ?k_steps_in ?a_begins_in ?l_begins_in ?c_begins_in ?k_begins_in ?a_ends_in ?l_ends_in ?c_ends_in ?k_ends_in ?a_need_bodies ?l_need_bodies ?c_need_bodies ?k_need_bodies ?a_need_steps ?l_need_steps ?c_need_steps ?k_need_steps ?a_least_step ?l_least_step ?c_least_step ?k_least_step ?a_flat ?l_flat ?c_flat ?k_flat ?a_plain_told ?l_plain_told ?c_plain_told ?k_plain_told ?a_plain ?l_plain ?c_plain ?k_plain ?a_is_plain ?l_is_plain ?c_is_plain ?k_is_plain ?a__law_steps ?l__law_steps ?c__law_steps ?k__law_steps ?a__law_edges ?l__law_edges ?c__law_edges ?k__law_edges ?a__law_apart ?l__law_apart ?c__law_apart ?k__law_apart ?a__law_least ?l__law_least ?c__law_least ?k__law_least ?a__law_once ?l__law_once ?c__law_once ?k__law_once ?a__law_all_once ?l__law_all_once ?c__law_all_once ?k__law_all_once ?a__law_draw ?l__law_draw ?c__law_draw ?k__law_draw ?a__law_pick ?l__law_pick ?c__law_pick ?k__law_pick ?a__law_names ?l__law_names ?c__law_names ?k__law_names ?a__law_mixed ?l__law_mixed ?c__law_mixed ?k__law_mixed ?a__law_shape ?l__law_shape ?c__law_shape ?k__law_shape ?a__law_agains ?l__law_agains ?c__law_agains ?k__law_agains ?a__law_begin ?l__law_begin ?c__law_begin ?k__law_begin ?a_law ?l_law ?c_law ?k_law ?aC_Form ?pg_Form ?hd_Form ?po_Form ?sa_Form ?mk_Form ?kc_Form ?no_Form_own_told ?no_Form_own_steps ?ca_Form ?cg_Form ?ct_Form ?ob_Form ?ic_Form ?tc_Form ?sb_Form_NoneType ?nf_Form_NoneType ?sb_Form_bool ?nf_Form_bool ?sb_Form_int ?nf_Form_int ?sb_Form_str ?nf_Form_str ?sb_Form_tuple ?nf_Form_tuple ?sb_Form_list ?nf_Form_list ?sb_Form_dict ?nf_Form_dict ?ne_Form ?ga_Form ?rd_Form ?a_Form___init__ ?i_Form___init__ ?l_Form___init__ ?c_Form___init__ ?k_Form___init__ ?a_Form_told ?g_Form_told ?t_Form_told ?r_Form_told_ ?l_Form_told ?c_Form_told ?k_Form_told ?a_Form_of ?r_Form_of_ ?l_Form_of ?c_Form_of ?k_Form_of ?a_Form___eq__ ?i_Form___eq__ ?l_Form___eq__ ?c_Form___eq__ ?k_Form___eq__ ?z_all ?z_int ?z_isinstance ?z_len ?z_list ?z_min ?z_range ?z_repr ?z_sorted ?z_str ?z_tuple ?z_abs ?n_LETTERS ?n_MOST_LETTERS ?n_MOST_STEPS ?n_JOINS ?l_JOINS
    (case a_is_step => k_is)
    (case l_is_step => k_is)
    (case c_is_step => k_is)
    (case k_is_step => k_is)
    (case a_is_told => k_is)
    (case l_is_told => k_is)
    (case c_is_told => k_is)
    (case k_is_told => k_is)
    (case a_parts_of => k_is)
    (case l_parts_of => k_is)
    (case c_parts_of => k_is)
    (case k_parts_of => k_is)
    (case a_steps_in => k_is)
    (case l_steps_in => k_is)
    (case c_steps_in => k_is)
    (case k_steps_in => k_is)
    (case a_begins_in => k_is)
    (case l_begins_in => k_is)
    (case c_begins_in => k_is)
    (case k_begins_in => k_is)
    (case a_ends_in => k_is)
    (case l_ends_in => k_is)
    (case c_ends_in => k_is)
    (case k_ends_in => k_is)
    (case a_need_bodies => k_is)
    (case l_need_bodies => k_is)
    (case c_need_bodies => k_is)
    (case k_need_bodies => k_is)
    (case a_need_steps => k_is)
    (case l_need_steps => k_is)
    (case c_need_steps => k_is)
    (case k_need_steps => k_is)
    (case a_least_step => k_is)
    (case l_least_step => k_is)
    (case c_least_step => k_is)
    (case k_least_step => k_is)
    (case a_flat => k_is)
    (case l_flat => k_is)
    (case c_flat => k_is)
    (case k_flat => k_is)
    (case a_plain_told => k_is)
    (case l_plain_told => k_is)
    (case c_plain_told => k_is)
    (case k_plain_told => k_is)
    (case a_plain => k_is)
    (case l_plain => k_is)
    (case c_plain => k_is)
    (case k_plain => k_is)
    (case a_is_plain => k_is)
    (case l_is_plain => k_is)
    (case c_is_plain => k_is)
    (case k_is_plain => k_is)
    (case a__law_steps => k_is)
    (case l__law_steps => k_is)
    (case c__law_steps => k_is)
    (case k__law_steps => k_is)
    (case a__law_edges => k_is)
    (case l__law_edges => k_is)
    (case c__law_edges => k_is)
    (case k__law_edges => k_is)
    (case a__law_apart => k_is)
    (case l__law_apart => k_is)
    (case c__law_apart => k_is)
    (case k__law_apart => k_is)
    (case a__law_least => k_is)
    (case l__law_least => k_is)
    (case c__law_least => k_is)
    (case k__law_least => k_is)
    (case a__law_once => k_is)
    (case l__law_once => k_is)
    (case c__law_once => k_is)
    (case k__law_once => k_is)
    (case a__law_all_once => k_is)
    (case l__law_all_once => k_is)
    (case c__law_all_once => k_is)
    (case k__law_all_once => k_is)
    (case a__law_draw => k_is)
    (case l__law_draw => k_is)
    (case c__law_draw => k_is)
    (case k__law_draw => k_is)
    (case a__law_pick => k_is)
    (case l__law_pick => k_is)
    (case c__law_pick => k_is)
    (case k__law_pick => k_is)
    (case a__law_names => k_is)
    (case l__law_names => k_is)
    (case c__law_names => k_is)
    (case k__law_names => k_is)
    (case a__law_mixed => k_is)
    (case l__law_mixed => k_is)
    (case c__law_mixed => k_is)
    (case k__law_mixed => k_is)
    (case a__law_shape => k_is)
    (case l__law_shape => k_is)
    (case c__law_shape => k_is)
    (case k__law_shape => k_is)
    (case a__law_agains => k_is)
    (case l__law_agains => k_is)
    (case c__law_agains => k_is)
    (case k__law_agains => k_is)
    (case a__law_begin => k_is)
    (case l__law_begin => k_is)
    (case c__law_begin => k_is)
    (case k__law_begin => k_is)
    (case a_law => k_is)
    (case l_law => k_is)
    (case c_law => k_is)
    (case k_law => k_is)
    (case aC_Form => k_is)
    (case pg_Form => k_is)
    (case hd_Form => k_is)
    (case po_Form => k_is)
    (case sa_Form => k_is)
    (case mk_Form => k_is)
    (case kc_Form => k_is)
    (case no_Form_own_told => k_is)
    (case no_Form_own_steps => k_is)
    (case ca_Form => k_is)
    (case cg_Form => k_is)
    (case ct_Form => k_is)
    (case ob_Form => k_is)
    (case ic_Form => k_is)
    (case tc_Form => k_is)
    (case sb_Form_NoneType => k_is)
    (case nf_Form_NoneType => k_is)
    (case sb_Form_bool => k_is)
    (case nf_Form_bool => k_is)
    (case sb_Form_int => k_is)
    (case nf_Form_int => k_is)
    (case sb_Form_str => k_is)
    (case nf_Form_str => k_is)
    (case sb_Form_tuple => k_is)
    (case nf_Form_tuple => k_is)
    (case sb_Form_list => k_is)
    (case nf_Form_list => k_is)
    (case sb_Form_dict => k_is)
    (case nf_Form_dict => k_is)
    (case ne_Form => k_is)
    (case ga_Form => k_is)
    (case rd_Form => k_is)
    (case a_Form___init__ => k_is)
    (case i_Form___init__ => k_is)
    (case l_Form___init__ => k_is)
    (case c_Form___init__ => k_is)
    (case k_Form___init__ => k_is)
    (case a_Form_told => k_is)
    (case g_Form_told => k_is)
    (case t_Form_told => k_is)
    (case r_Form_told_ => k_is)
    (case l_Form_told => k_is)
    (case c_Form_told => k_is)
    (case k_Form_told => k_is)
    (case a_Form_of => k_is)
    (case r_Form_of_ => k_is)
    (case l_Form_of => k_is)
    (case c_Form_of => k_is)
    (case k_Form_of => k_is)
    (case a_Form___eq__ => k_is)
    (case i_Form___eq__ => k_is)
    (case l_Form___eq__ => k_is)
    (case c_Form___eq__ => k_is)
    (case k_Form___eq__ => k_is)
    (case z_all => k_is)
    (case z_int => k_is)
    (case z_isinstance => k_is)
    (case z_len => k_is)
    (case z_list => k_is)
    (case z_min => k_is)
    (case z_range => k_is)
    (case z_repr => k_is)
    (case z_sorted => k_is)
    (case z_str => k_is)
    (case z_tuple => k_is)
    (case z_abs => k_is)
    (case n_LETTERS => k_is)
    (case n_MOST_LETTERS => k_is)
    (case n_MOST_STEPS => k_is)
    (case n_JOINS => k_is)
    (case l_JOINS => k_is)
#print axioms PySem.Challenge.cw_nextsteps_k06_plain_forms_holds

