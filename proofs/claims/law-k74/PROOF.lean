import PyProof.Rows.All
import Wide.All
import OpenK.AllK
import Wide.FinOn
import HandS.Lambda
import HandS.ForMost
import HandS.Exc
import HandS.WordsExc
import KE.DataEq
import HandS.TupAny
import HandS.Style
import HandS.Conv
import HandS.Dict
import HandS.Iter
import HandS.Zip
import HandS.Comp
import HandS.IsInst
import HandS.Text
import KE.SortData
import KE.DataMinMax
import HandS.Strs
import HandS.RevTup
import HandS.SetKeys
import HandS.OwnEq
import HandS.Property
import HandS.ClsMeth
import OpenK.KWalk
import KE.KRevSl
import HandS.Ends
import KE.SortKeyHeap
import HandS.SortKw
import PyProof.AutoSeq1
import KE.GoesMore
import KE.GoesEnum
import HandS.Star
import HandS.ExcInit
import HandS.ExcOwn
import HandS.TryOnly
import KE.KSuper
import KE.KExcSuper
import KE.KExcIs
import HandS.EndTab
import HandS.HeadWalk
import HandS.NestedK
import KE.KNestM
import KE.KLam
import PyProof.ListStr
import HandS.Evl
import PyProof.Rows.FinIter
import PySem.Challenge.RW_nextsteps_k74_log_texts
set_option Elab.async false
set_option linter.all false
set_option maxRecDepth 100000
/-! PLa: deep values, their standing in a heap, the state of a body. -/
namespace PL
open PySem PySem.Spec PyProof.Rows L2

/-- a deep value -/
inductive T where
  | non | bl (b : Bool) | int (i : Int) | str (x : Str)
  | tup (ts : List T) | lst (ts : List T)
  | dct (ks : List Key) (ts : List T)
  | ins (C : Addr) (ns : List Str) (ts : List T)
  | raw (v : V)

mutual
inductive Rep (K : PySem.W.Frag) (F : Hp) : V → T → Prop
  | non : Rep K F .non .non
  | bl (b : Bool) : Rep K F (.bl b) (.bl b)
  | int (i : Int) : Rep K F (.int i) (.int i)
  | str (x : Str) : Rep K F (.str x) (.str x)
  | tup {a : Addr} {vs : List V} {ts : List T} : SqT K F a vs → Reps K F vs ts → Rep K F (.ref a) (.tup ts)
  | lst {a : Addr} {vs : List V} {ts : List T} : F a = some (.lst vs) → Reps K F vs ts → Rep K F (.ref a) (.lst ts)
  | dct {a : Addr} {ks : List Key} {vs : List V} {ts : List T} : Rd F a (.dK (ks.zip vs)) → ks.length = vs.length → Reps K F vs ts → Rep K F (.ref a) (.dct ks ts)
  | ins {a C dx : Addr} {ns : List Str} {vs : List V} {ts : List T} : F a = some (.ins C dx (ns.zip vs)) → ns.length = vs.length → Reps K F vs ts → Rep K F (.ref a) (.ins C ns ts)
  | raw (v : V) : Rep K F v (.raw v)
inductive Reps (K : PySem.W.Frag) (F : Hp) : List V → List T → Prop
  | nil : Reps K F [] []
  | cons {v : V} {vs : List V} {t : T} {ts : List T} : Rep K F v t → Reps K F vs ts → Reps K F (v :: vs) (t :: ts)
end

theorem Same.seqT {K : PySem.W.Frag} {H H' : Hp} {a : Addr} {xs : List V} (e : Same H H') (h : SqT K H a xs) : SqT K H' a xs := by
  rcases h with (h | ⟨o, h⟩) | h
  · exact .inl (.inl (e _ _ h))
  · exact .inl (.inr ⟨o, e _ _ h⟩)
  · exact .inr h

theorem Same.rd {H H' : Hp} {a : Addr} {u : HO} (e : Same H H') (h : Rd H a u) : Rd H' a u := by
  rcases h with h | ⟨o, h⟩
  · exact .inl (e _ _ h)
  · exact .inr ⟨o, e _ _ h⟩
mutual
theorem Rep.mono {K : PySem.W.Frag} {F F' : Hp} (s : Same F F') : ∀ {v : V} {t : T}, Rep K F v t → Rep K F' v t
  | _, _, .non => .non
  | _, _, .bl b => .bl b
  | _, _, .int i => .int i
  | _, _, .str x => .str x
  | _, _, .tup h r => .tup (Same.seqT s h) (Reps.mono s r)
  | _, _, .lst h r => .lst (s _ _ h) (Reps.mono s r)
  | _, _, .dct h e r => .dct (Same.rd s h) e (Reps.mono s r)
  | _, _, .ins h e r => .ins (s _ _ h) e (Reps.mono s r)
  | _, _, .raw v => .raw v
theorem Reps.mono {K : PySem.W.Frag} {F F' : Hp} (s : Same F F') : ∀ {vs : List V} {ts : List T}, Reps K F vs ts → Reps K F' vs ts
  | _, _, .nil => .nil
  | _, _, .cons h r => .cons (Rep.mono s h) (Reps.mono s r)
end

section
variable {K : PySem.W.Frag} {F : Hp}
theorem Reps.length : ∀ {vs : List V} {ts : List T}, Reps K F vs ts → vs.length = ts.length
  | _, _, .nil => rfl
  | _, _, .cons _ r => by simp [Reps.length r]
theorem Reps.get : ∀ {vs : List V} {ts : List T} {i : Nat} {t : T}, Reps K F vs ts → ts[i]? = some t → ∃ v, vs[i]? = some v ∧ Rep K F v t
  | _, _, _, _, .nil, e => by simp at e
  | _, _, 0, _, .cons h _, e => by simp at e; subst e; exact ⟨_, rfl, h⟩
  | _, _, i + 1, _, .cons _ r, e => by
    obtain ⟨v, h1, h2⟩ := Reps.get (i := i) r (by simpa using e)
    exact ⟨v, by simpa using h1, h2⟩
theorem Reps.getV : ∀ {vs : List V} {ts : List T} {i : Nat} {v : V}, Reps K F vs ts → vs[i]? = some v → ∃ t, ts[i]? = some t ∧ Rep K F v t
  | _, _, _, _, .nil, e => by simp at e
  | _, _, 0, _, .cons h _, e => by simp at e; subst e; exact ⟨_, rfl, h⟩
  | _, _, i + 1, _, .cons _ r, e => by
    obtain ⟨v, h1, h2⟩ := Reps.getV (i := i) r (by simpa using e)
    exact ⟨v, by simpa using h1, h2⟩
theorem Reps.append : ∀ {vs ws : List V} {ts us : List T}, Reps K F vs ts → Reps K F ws us → Reps K F (vs ++ ws) (ts ++ us)
  | _, _, _, _, .nil, s => s
  | _, _, _, _, .cons h r, s => .cons h (Reps.append r s)
theorem Reps.take : ∀ {vs : List V} {ts : List T} (n : Nat), Reps K F vs ts → Reps K F (vs.take n) (ts.take n)
  | _, _, 0, _ => by simpa using Reps.nil
  | _, _, _ + 1, .nil => by simpa using Reps.nil
  | _, _, n + 1, .cons h r => .cons h (Reps.take n r)
theorem Reps.drop : ∀ {vs : List V} {ts : List T} (n : Nat), Reps K F vs ts → Reps K F (vs.drop n) (ts.drop n)
  | _, _, 0, r => r
  | _, _, _ + 1, .nil => .nil
  | _, _, n + 1, .cons _ r => Reps.drop n r
theorem Reps.reverse {vs : List V} {ts : List T} (r : Reps K F vs ts) : Reps K F vs.reverse ts.reverse := by
  induction vs generalizing ts with
  | nil => cases r; exact .nil
  | cons v vs ih =>
    cases r with
    | cons h r => simpa using (ih r).append (.cons h .nil)
theorem Reps.eraseIdx : ∀ {vs : List V} {ts : List T} (n : Nat), Reps K F vs ts → Reps K F (vs.eraseIdx n) (ts.eraseIdx n)
  | _, _, _, .nil => by simpa using Reps.nil
  | _, _, 0, .cons _ r => by simpa using r
  | _, _, n + 1, .cons h r => by simpa using Reps.cons h (Reps.eraseIdx n r)
theorem Reps.set : ∀ {vs : List V} {ts : List T} {v : V} {t : T} (n : Nat), Reps K F vs ts → Rep K F v t → Reps K F (vs.set n v) (ts.set n t)
  | _, _, _, _, _, .nil, _ => by simpa using Reps.nil
  | _, _, _, _, 0, .cons _ r, h => by simpa using Reps.cons h r
  | _, _, _, _, n + 1, .cons h r, h' => by simpa using Reps.cons h (Reps.set n r h')
theorem Reps.one {v : V} {t : T} (h : Rep K F v t) : Reps K F [v] [t] := .cons h .nil
end

/-! ### results -/
/-- an exception: its class, its fields -/
structure Er where
  C : Addr
  ns : List Str
  ts : List T
inductive R (α : Type) where
  | ok (a : α)
  | er (e : Er)
abbrev M (W : Type) (α : Type) := W → Option (R α × W)
section
variable {W α β : Type}
def ret (a : α) : M W α := fun w => some (.ok a, w)
def bnd (m : M W α) (k : α → M W β) : M W β := fun w => match m w with
  | some (.ok a, w') => k a w'
  | some (.er e, w') => some (.er e, w')
  | none => none
def lift (o : Option α) : M W α := fun w => match o with
  | some a => some (.ok a, w)
  | none => none
def stuck : M W α := fun _ => none
@[simp] theorem bnd_ret (a : α) (k : α → M W β) : bnd (ret a) k = k a := rfl
@[simp] theorem bnd_lift_some (a : α) (k : α → M W β) : bnd (lift (some a)) k = k a := rfl
theorem bnd_assoc {γ : Type} (m : M W α) (k : α → M W β) (l : β → M W γ) : bnd (bnd m k) l = bnd m fun a => bnd (k a) l := by
  funext w
  unfold bnd
  cases m w with
  | none => rfl
  | some p =>
    obtain ⟨r, w'⟩ := p
    cases r <;> rfl
theorem bnd_inv {m : M W α} {k : α → M W β} {w w' : W} {r : R β} (h : bnd m k w = some (r, w')) :
    (∃ a w1, m w = some (.ok a, w1) ∧ k a w1 = some (r, w')) ∨ (∃ e, m w = some (.er e, w') ∧ r = .er e) := by
  unfold bnd at h
  cases hm : m w with
  | none => rw [hm] at h; cases h
  | some p =>
    obtain ⟨q, w1⟩ := p
    rw [hm] at h
    cases q with
    | ok a => exact .inl ⟨a, w1, rfl, h⟩
    | er e =>
      simp only [Option.some.injEq, Prod.mk.injEq] at h
      obtain ⟨h1, h2⟩ := h
      subst h1 h2
      exact .inr ⟨e, rfl, rfl⟩
theorem lift_inv {o : Option α} {w w' : W} {r : R α} (h : lift o w = some (r, w')) : ∃ a, o = some a ∧ r = .ok a ∧ w' = w := by
  cases o with
  | none => cases h
  | some a =>
    simp only [lift, Option.some.injEq, Prod.mk.injEq] at h
    exact ⟨a, rfl, h.1.symm, h.2.symm⟩
theorem ret_inv {a : α} {w w' : W} {r : R α} (h : ret a w = some (r, w')) : r = .ok a ∧ w' = w := by
  simp only [ret, Option.some.injEq, Prod.mk.injEq] at h
  exact ⟨h.1.symm, h.2.symm⟩
end

/-! ### the state of a body -/
/-- what a slot holds: nothing that is known, a frozen value, a list or a dict of the body's own -/
inductive Sl where
  | un
  | fz (t : T)
  | ow (ts : List T)
  | od (ks : List Key) (ts : List T)
abbrev Rho := List Sl

/-- the source of draws: its dict, what it holds -/
structure Dr where
  d : Addr
  rest : Int
  turn : Int
  large : List Int
  cells : List Int
def Dr.dict (l c : Addr) (w : Dr) : List (Key × V) := [(.inr "large", .ref l), (.inr "cells", .ref c), (.inr "rest", .int w.rest), (.inr "turn", .int w.turn)]
def drD (d l c : Addr) : Addr → Prop := fun b => b = d ∨ b = l ∨ b = c
def drOk (d l c : Addr) (H : Hp) (w : Dr) : Prop := w.d = d ∧ d ≠ l ∧ d ≠ c ∧ l ≠ c ∧ H d = some (.dK (w.dict l c)) ∧ H l = some (.lst (w.large.map V.int)) ∧ H c = some (.lst (w.cells.map V.int)) ∧ w.cells.length ≤ 1000 ∧ w.large.length ≤ 1000
/-- the tables of code objects besides -/
def drDT (d l c : Addr) (T : List (Addr × Str)) : Addr → Prop := fun b => drD d l c b ∨ ∃ p ∈ T, p.1 = b
def drOkT (d l c : Addr) (T : List (Addr × Str)) (H : Hp) (w : Dr) : Prop := drOk d l c H w ∧ LamX.Tabs T H
/-- the worlds there are -/
inductive WGood : (W : Type) → (Addr → Prop) → (Hp → W → Prop) → Prop
  | dr (d l c : Addr) (T : List (Addr × Str)) : WGood Dr (drDT d l c T) (drOkT d l c T)
/-- things that all may change (the source of draws), told by W -/
structure Wd (W : Type) where
  D : Addr → Prop
  ok : Hp → W → Prop
  live : ∀ {H w b}, ok H w → D b → H b ≠ none
  stay : ∀ {H H' w}, ok H w → (∀ b, D b → H' b = H b) → (∀ b f, H b = some (.ext f) → H' b = H b) → ok H' w
  good : WGood W D ok

/-- what is fixed through a body: the world, the heap and its frozen part at the entry -/
structure Gm (W : Type) where
  O : Wd W
  B : Hp
  F0 : Hp

section
variable {W : Type}
def SlOk (K : PySem.W.Frag) (G : Gm W) (H F : Hp) (σ : L2.St) (i : Nat) : Sl → Prop
  | .un => True
  | .fz t => ∃ v, σ[i]? = some (some v) ∧ Rep K F v t
  | .ow ts => ∃ p vs, σ[i]? = some (some (.ref p)) ∧ H p = some (.lst vs) ∧ F p = none ∧ G.B p = none ∧ Reps K F vs ts
  | .od ks ts => ∃ p vs, σ[i]? = some (some (.ref p)) ∧ H p = some (.dK (ks.zip vs)) ∧ ks.length = vs.length ∧ F p = none ∧ G.B p = none ∧ Reps K F vs ts
def Sl.owns : Sl → Bool
  | .ow _ => true
  | .od _ _ => true
  | _ => false

structure Sd (K : PySem.W.Frag) (G : Gm W) (ρ : Rho) (w : W) (σ : L2.St) (H F : Hp) : Prop where
  sub : Same F H
  wok : G.O.ok H w
  dF : ∀ b, G.O.D b → F b = none
  dB : ∀ b, G.O.D b → G.B b ≠ none
  keep : ∀ b o, G.B b = some o → ¬ G.O.D b → H b = some o
  grow : Same G.F0 F
  old : ∀ b, G.B b ≠ none → F b = G.F0 b
  slots : ∀ (i : Nat) (s : Sl), ρ[i]? = some s → SlOk K G H F σ i s
  apart : ∀ (i j : Nat) (s t : Sl), ρ[i]? = some s → ρ[j]? = some t → s.owns = true → t.owns = true → σ[i]? = σ[j]? → i = j
  len : σ.length = ρ.length

/-- the world of draws at given places -/
def drWd (d l c : Addr) (T : List (Addr × Str)) : Wd Dr where
  D := drDT d l c T
  ok := drOkT d l c T
  live := fun {H w b} ⟨⟨_, _, _, _, h1, h2, h3, _⟩, ht⟩ hb => by
    rcases hb with (rfl | rfl | rfl) | ⟨p, hp, rfl⟩
    · rw [h1]; simp
    · rw [h2]; simp
    · rw [h3]; simp
    · obtain ⟨ps, e, _⟩ := ht p hp
      rw [e]; simp
  stay := fun {H H' w} ⟨⟨a0, a1, a2, a3, h1, h2, h3, h4⟩, ht⟩ e x => ⟨⟨a0, a1, a2, a3, (e _ (.inl (.inl rfl))).trans h1, (e _ (.inl (.inr (.inl rfl)))).trans h2, (e _ (.inl (.inr (.inr rfl)))).trans h3, h4⟩, fun p hp => by
    obtain ⟨ps, e1, e2, e3⟩ := ht p hp
    refine ⟨ps, (e _ (.inr ⟨p, hp, rfl⟩)).trans e1, e2, fun pos cv hc => ?_⟩
    obtain ⟨c0, e4, e5⟩ := e3 pos cv hc
    exact ⟨c0, e4, (x _ _ e5).trans e5⟩⟩
  good := .dr d l c T
theorem neq_of {P : Addr → Prop} {b p : Addr} (d : ¬ P p) (h : P b) : b ≠ p := fun e => d (e ▸ h)
theorem none_of {F H : Hp} (s : Same F H) {p : Addr} (h : H p = none) : F p = none := s.free h

variable {K : PySem.W.Frag} {G : Gm W} {ρ : Rho} {w w' : W} {σ : L2.St} {H H' F F' : Hp}
/-- the same slots in a later heap, where all that stood and is not the world's stands as it was -/
theorem Sd.later (S : Sd K G ρ w σ H F) (sub : Same F' H') (wok : G.O.ok H' w') (gr : Same F F') (ke : ∀ b o, H b = some o → ¬ G.O.D b → H' b = some o) (nf : ∀ b, H b ≠ none → F' b = F b)
    (dF : ∀ b, G.O.D b → F' b = none) : Sd K G ρ w' σ H' F' := by
  have ndB : ∀ p, G.B p = none → ¬ G.O.D p := fun p e d => S.dB p d e
  refine ⟨sub, wok, dF, S.dB, fun b o e d => ke b o (S.keep b o e d) d, S.grow.trans gr, fun b hb => ?_, fun i s hs => ?_, S.apart, S.len⟩
  · have : H b ≠ none := by
      by_cases d : G.O.D b
      · exact G.O.live S.wok d
      · intro z
        cases e : G.B b with
        | none => exact hb e
        | some o => rw [S.keep b o e d] at z; cases z
    rw [nf b this, S.old b hb]
  · have q := S.slots i s hs
    cases s with
    | un => trivial
    | fz t => obtain ⟨v, e, r⟩ := q; exact ⟨v, e, r.mono gr⟩
    | ow ts =>
      obtain ⟨p, vs, e, h1, h2, h3, r⟩ := q
      exact ⟨p, vs, e, ke p _ h1 (ndB p h3), by rw [nf p (by rw [h1]; simp), h2], h3, r.mono gr⟩
    | od ks ts =>
      obtain ⟨p, vs, e, h1, hl, h2, h3, r⟩ := q
      exact ⟨p, vs, e, ke p _ h1 (ndB p h3), hl, by rw [nf p (by rw [h1]; simp), h2], h3, r.mono gr⟩
theorem Sd.fresh (S : Sd K G ρ w σ H F) {p : Addr} (hp : H p = none) : ¬ G.O.D p ∧ G.B p = none ∧ F p = none := by
  have d : ¬ G.O.D p := fun d => G.O.live S.wok d hp
  refine ⟨d, ?_, S.sub.free hp⟩
  cases e : G.B p with
  | none => rfl
  | some o => rw [S.keep p o e d] at hp; cases hp
theorem Same.updB {H F : Hp} {p : Addr} {o : HO} (s : Same F H) : Same (upd F p o) (upd H p o) := fun b u e => by
  by_cases h : b = p
  · subst h; rw [upd_same] at e ⊢; exact e
  · rw [upd_ne h] at e ⊢; exact s b u e
theorem Same.updN {H : Hp} {p : Addr} {o : HO} (h : H p = none) : Same H (upd H p o) := fun b u e => by rw [upd_ne (ne_of_none e h)]; exact e
/-- a new object, frozen at once -/
theorem Sd.laidF (S : Sd K G ρ w σ H F) {p : Addr} {o : HO} (hp : H p = none) : Sd K G ρ w σ (upd H p o) (upd F p o) := by
  obtain ⟨d, _, hf⟩ := S.fresh hp
  refine S.later (Same.updB S.sub) (G.O.stay S.wok (fun b db => upd_ne (neq_of d db)) fun b f e => upd_ne (ne_of_none e hp)) (Same.updN hf) (fun b u e _ => Same.updN hp b u e) (fun b hb => upd_ne (neq_of (P := fun b => H b ≠ none) (fun z => z hp) hb)) (fun b db => ?_)
  rw [upd_ne (neq_of d db)]; exact S.dF b db
/-- a new object, not frozen -/
theorem Sd.laid (S : Sd K G ρ w σ H F) {p : Addr} {o : HO} (hp : H p = none) : Sd K G ρ w σ (upd H p o) F := by
  obtain ⟨d, _, hf⟩ := S.fresh hp
  exact S.later (S.sub.trans (Same.updN hp)) (G.O.stay S.wok (fun b db => upd_ne (neq_of d db)) fun b f e => upd_ne (ne_of_none e hp)) (Same.refl F) (fun b u e _ => Same.updN hp b u e) (fun b hb => rfl) S.dF
/-- an object that no slot owns is frozen -/
theorem Sd.freeze (S : Sd K G ρ w σ H F) {p : Addr} {o : HO} (hp : H p = some o) (hf : F p = none) (hB : G.B p = none) (hs : ∀ (i : Nat) (s : Sl), ρ[i]? = some s → s.owns = true → σ[i]? ≠ some (some (V.ref p))) : Sd K G ρ w σ H (upd F p o) := by
  have d : ¬ G.O.D p := fun d => S.dB p d hB
  have gr : Same F (upd F p o) := Same.updN hf
  refine ⟨fun b u e => ?_, S.wok, fun b db => ?_, S.dB, S.keep, S.grow.trans gr, fun b hb => ?_, fun i s hsl => ?_, S.apart, S.len⟩
  · by_cases h : b = p
    · subst h; rw [upd_same] at e; rw [hp]; exact e
    · rw [upd_ne h] at e; exact S.sub b u e
  · rw [upd_ne (neq_of d db)]; exact S.dF b db
  · rw [upd_ne (neq_of (P := fun b => G.B b ≠ none) (fun z => z hB) hb)]; exact S.old b hb
  · have q := S.slots i s hsl
    cases s with
    | un => trivial
    | fz t => obtain ⟨v, e, r⟩ := q; exact ⟨v, e, r.mono gr⟩
    | ow ts =>
      obtain ⟨p', vs, e, h1, h2, h3, r⟩ := q
      exact ⟨p', vs, e, h1, by rw [upd_ne fun (z : p' = p) => hs i _ hsl rfl (z ▸ e)]; exact h2, h3, r.mono gr⟩
    | od ks ts =>
      obtain ⟨p', vs, e, h1, hl, h2, h3, r⟩ := q
      exact ⟨p', vs, e, h1, hl, by rw [upd_ne fun (z : p' = p) => hs i _ hsl rfl (z ▸ e)]; exact h2, h3, r.mono gr⟩
/-- what evaluation does to the heaps: all that stood and is not the world's stands as it was, frozen or not -/
structure Gr (G : Gm W) (H F H' F' : Hp) : Prop where
  same : Same F F'
  keep : ∀ b o, H b = some o → ¬ G.O.D b → H' b = some o
  nof : ∀ b, H b ≠ none → F' b = F b
theorem Gr.refl : Gr G H F H F := ⟨Same.refl F, fun _ _ e _ => e, fun _ _ => rfl⟩
theorem Gr.trans {H2 F2 : Hp} (a : Gr G H F H' F') (b : Gr G H' F' H2 F2) (d : ∀ b, G.O.D b → H' b ≠ none) : Gr G H F H2 F2 := by
  refine ⟨a.same.trans b.same, fun c o e nd => b.keep c o (a.keep c o e nd) nd, fun c e => ?_⟩
  have : H' c ≠ none := by
    by_cases nd : G.O.D c
    · exact d c nd
    · cases q : H c with
      | none => exact absurd q e
      | some o => rw [a.keep c o q nd]; simp
  rw [b.nof c this, a.nof c e]
theorem Sd.dH (S : Sd K G ρ w σ H F) : ∀ b, G.O.D b → H b ≠ none := fun b d => G.O.live S.wok d
theorem Gr.laidF (S : Sd K G ρ w σ H F) {p : Addr} {o : HO} (hp : H p = none) : Gr G H F (upd H p o) (upd F p o) :=
  ⟨Same.updN (S.sub.free hp), fun b u e _ => Same.updN hp b u e, fun b hb => upd_ne (neq_of (P := fun b => H b ≠ none) (fun z => z hp) hb)⟩
theorem Gr.free0 (g : Gr G H F H' F') (d : ∀ b, G.O.D b → H' b ≠ none) {p : Addr} (hp : H' p = none) : H p = none := by
  cases q : H p with
  | none => rfl
  | some o =>
    by_cases nd : G.O.D p
    · exact absurd hp (d p nd)
    · rw [g.keep p o q nd] at hp; cases hp
theorem Gr.laid {p : Addr} {o : HO} (hp : H p = none) : Gr G H F (upd H p o) F := ⟨Same.refl F, fun b u e _ => Same.updN hp b u e, fun _ _ => rfl⟩
/-- a new object (none at the start) is frozen -/
theorem Gr.frz (g : Gr G H F H' F') {p : Addr} {o : HO} (hp : H p = none) (hf : F' p = none) : Gr G H F H' (upd F' p o) :=
  ⟨g.same.trans (Same.updN hf), g.keep, fun b hb => by rw [upd_ne (neq_of (P := fun b => H b ≠ none) (fun z => z hp) hb)]; exact g.nof b hb⟩
theorem Sd.grown (S : Sd K G ρ w σ H F) (g : Gr G H F H' F') (sub : Same F' H') (wok : G.O.ok H' w') (dF : ∀ b, G.O.D b → F' b = none) : Sd K G ρ w' σ H' F' := S.later sub wok g.same g.keep g.nof dF
end
end PL

/-! PLb: the judgements: expressions, tests, arguments, statements, told by functions. -/
namespace PL
open PySem PySem.Spec PyProof.Rows L2
section
variable {W : Type}

/-- a value that is frozen, or that a slot owns -/
def ShR (K : PySem.W.Frag) (ρ : Rho) (σ : L2.St) (F : Hp) (v : V) (t : T) : Prop :=
  Rep K F v t ∨ (∃ (i : Nat) (ts : List T), ρ[i]? = some (Sl.ow ts) ∧ σ[i]? = some (some v) ∧ t = .lst ts) ∨ (∃ (i : Nat) (ks : List Key) (ts : List T), ρ[i]? = some (Sl.od ks ts) ∧ σ[i]? = some (some v) ∧ t = .dct ks ts)
theorem ShR.mono {K : PySem.W.Frag} {ρ : Rho} {σ : L2.St} {F F' : Hp} {v : V} {t : T} (s : Same F F') (h : ShR K ρ σ F v t) : ShR K ρ σ F' v t := by
  rcases h with h | h | h
  · exact .inl (h.mono s)
  · exact .inr (.inl h)
  · exact .inr (.inr h)

/-- the fields of an exception, by its own dict -/
def ErAt (K : PySem.W.Frag) (H F : Hp) (e : Er) (d : Option Addr) : Prop :=
  (e.ns = [] ∧ e.ts = [] ∧ d = none) ∨ ∃ dd vs, d = some dd ∧ H dd = some (.xd (e.ns.zip vs)) ∧ e.ns.length = vs.length ∧ Reps K F vs e.ts

variable (K : PySem.W.Frag) (G : Gm W) (E : XK)
def AccE (F : Hp) (e : Er) (w' : W) : Prop := ∀ d H' F' ρ' σ', Sd K G ρ' w' σ' H' F' → Same F F' → ErAt K H' F' e d → E (.ref e.C) d H'
def Acc (ρ : Rho) (σ : L2.St) (H F : Hp) (Q : VK) (r : R T) (w' : W) : Prop := match r with
  | .ok t => ∀ v H' F', Sd K G ρ w' σ H' F' → Gr G H F H' F' → Rep K F' v t → Q v H'
  | .er e => AccE K G E F e w'
def AccS (ρ : Rho) (σ : L2.St) (H F : Hp) (Q : VK) (r : R T) (w' : W) : Prop := match r with
  | .ok t => ∀ v H' F', Sd K G ρ w' σ H' F' → Gr G H F H' F' → ShR K ρ σ F' v t → Q v H'
  | .er e => AccE K G E F e w'
/-- a list that is new -/
def AccF (ρ : Rho) (σ : L2.St) (H F : Hp) (Q : VK) (r : R (List T)) (w' : W) : Prop := match r with
  | .ok ts => ∀ p vs H' F', Sd K G ρ w' σ H' F' → Gr G H F H' F' → H p = none → H' p = some (.lst vs) → F' p = none → G.B p = none → (∀ (i : Nat) (s : Sl), ρ[i]? = some s → s.owns = true → σ[i]? ≠ some (some (V.ref p))) → Reps K F' vs ts → Q (.ref p) H'
  | .er e => AccE K G E F e w'
def AccT (ρ : Rho) (σ : L2.St) (H F : Hp) (Q : Bool → Hp → Prop) (r : R Bool) (w' : W) : Prop := match r with
  | .ok b => ∀ H' F', Sd K G ρ w' σ H' F' → Gr G H F H' F' → Q b H'
  | .er e => AccE K G E F e w'
def AccA (ρ : Rho) (σ : L2.St) (H F : Hp) (Q : List V → Hp → Prop) (r : R (List T)) (w' : W) : Prop := match r with
  | .ok ts => ∀ vs H' F', Sd K G ρ w' σ H' F' → Gr G H F H' F' → Reps K F' vs ts → Q vs H'
  | .er e => AccE K G E F e w'

def tV (f : Rho → M W T) : TE := fun σ H Q => ∃ ρ w F r w', Sd K G ρ w σ H F ∧ f ρ w = some (r, w') ∧ Acc K G E ρ σ H F Q r w'
def tVs (f : Rho → M W T) : TE := fun σ H Q => ∃ ρ w F r w', Sd K G ρ w σ H F ∧ f ρ w = some (r, w') ∧ AccS K G E ρ σ H F Q r w'
def tF (f : Rho → M W (List T)) : TE := fun σ H Q => ∃ ρ w F r w', Sd K G ρ w σ H F ∧ f ρ w = some (r, w') ∧ AccF K G E ρ σ H F Q r w'
def tT (f : Rho → M W Bool) : TT := fun σ H Q => ∃ ρ w F r w', Sd K G ρ w σ H F ∧ f ρ w = some (r, w') ∧ AccT K G E ρ σ H F Q r w'
def tA (f : Rho → M W (List T)) : TA := fun σ H Q => ∃ ρ w F r w', Sd K G ρ w σ H F ∧ f ρ w = some (r, w') ∧ AccA K G E ρ σ H F Q r w'

/-- how a statement ends -/
inductive Fl where
  | nx (ρ : Rho) | rt (t : T) | bk (ρ : Rho) | ct (ρ : Rho)
def AccD (D : Ends) (F : Hp) (r : R Fl) (w' : W) : Prop := match r with
  | .ok (.nx ρ') => ∀ σ' H' F', Sd K G ρ' w' σ' H' F' → Same F F' → D.nx σ' H'
  | .ok (.bk ρ') => ∀ σ' H' F', Sd K G ρ' w' σ' H' F' → Same F F' → D.bk σ' H'
  | .ok (.ct ρ') => ∀ σ' H' F', Sd K G ρ' w' σ' H' F' → Same F F' → D.ct σ' H'
  | .ok (.rt t) => ∀ v ρ' σ' H' F', Sd K G ρ' w' σ' H' F' → Same F F' → Rep K F' v t → D.rt v H'
  | .er e => AccE K G E F e w'
def tS (g : Rho → M W Fl) : TS := fun D σ H => ∃ ρ w F r w', Sd K G ρ w σ H F ∧ g ρ w = some (r, w') ∧ AccD K G E D F r w'
end

section
variable {W : Type}
structure PV (X : Cx) (G : Gm W) (E : XK) (e : Expr) (f : Rho → M W T) : Prop where
  run : PE X e (tV X.K G E f)
/-- what may be read of it is known; it may be a slot's own -/
structure PVs (X : Cx) (G : Gm W) (E : XK) (e : Expr) (f : Rho → M W T) : Prop where
  run : PE X e (tVs X.K G E f)
/-- a new list -/
structure PF (X : Cx) (G : Gm W) (E : XK) (e : Expr) (f : Rho → M W (List T)) : Prop where
  run : PE X e (tF X.K G E f)
structure PB (X : Cx) (G : Gm W) (E : XK) (e : Expr) (f : Rho → M W Bool) : Prop where
  run : PT X e (tT X.K G E f)
structure PAs (X : Cx) (G : Gm W) (E : XK) (es : List Expr) (f : Rho → M W (List T)) : Prop where
  run : PA X es (tA X.K G E f)
structure PD (X : Cx) (G : Gm W) (E : XK) (s : Stmt) (g : Rho → M W Fl) : Prop where
  run : PS X s (tS X.K G E g)
structure PDs (X : Cx) (G : Gm W) (E : XK) (s : List Stmt) (g : Rho → M W Fl) : Prop where
  run : PSs X s (tS X.K G E g)
end

/-! ### weakening of readings -/
theorem _root_.L2.PE.imp {X : Cx} {e : Expr} {t t' : TE} (h : PE X e t) (i : ∀ σ H Q, t' σ H Q → t σ H Q) : PE X e t' := ⟨fun pins s σ H Q I q => h.run pins s σ H Q I (i σ H Q q)⟩
theorem _root_.L2.PT.imp {X : Cx} {e : Expr} {t t' : TT} (h : PT X e t) (i : ∀ σ H Q, t' σ H Q → t σ H Q) : PT X e t' := ⟨fun pins s σ H Q I q => h.run pins s σ H Q I (i σ H Q q)⟩
theorem _root_.L2.PW.imp {X : Cx} {e : Expr} {t t' : TT} (h : PW X e t) (i : ∀ σ H Q, t' σ H Q → t σ H Q) : PW X e t' := ⟨fun wh pins s σ H Q I q => h.run wh pins s σ H Q I (i σ H Q q)⟩
theorem _root_.L2.PA.imp {X : Cx} {e : List Expr} {t t' : TA} (h : PA X e t) (i : ∀ σ H Q, t' σ H Q → t σ H Q) : PA X e t' := ⟨fun pos pins s σ H Q I q => h.run pos pins s σ H Q I (i σ H Q q)⟩
theorem _root_.L2.PS.imp {X : Cx} {e : Stmt} {t t' : TS} (h : PS X e t) (i : ∀ D σ H, t' D σ H → t D σ H) : PS X e t' := ⟨fun pins s σ H D I q => h.run pins s σ H D I (i D σ H q)⟩
theorem _root_.L2.PSs.imp {X : Cx} {e : List Stmt} {t t' : TS} (h : PSs X e t) (i : ∀ D σ H, t' D σ H → t D σ H) : PSs X e t' := ⟨fun pins s σ H D I q => h.run pins s σ H D I (i D σ H q)⟩

section
variable {W : Type} {X : Cx} {G : Gm W} {E : XK} {ρ : Rho} {w w' : W} {σ : L2.St} {H F : Hp}
theorem AccE.mono {F' : Hp} {e : Er} (h : AccE X.K G E F e w') (s : Same F F') : AccE X.K G E F' e w' := fun d H' F2 ρ' σ' S g r => h d H' F2 ρ' σ' S (s.trans g) r

/-! ### one step of a bind, by the kind of what is read -/
theorem tV.bind {β : Type} {f : Rho → M W T} {k : T → M W β} {r : R β} {Q : VK} (S : Sd X.K G ρ w σ H F) (e : bnd (f ρ) k w = some (r, w'))
    (er : ∀ e, r = .er e → AccE X.K G E F e w')
    (kk : ∀ t w1 v H1 F1, Sd X.K G ρ w1 σ H1 F1 → Gr G H F H1 F1 → Rep X.K F1 v t → k t w1 = some (r, w') → Q v H1) : tV X.K G E f σ H Q := by
  rcases bnd_inv e with ⟨a, w1, h1, h2⟩ | ⟨e', h1, rfl⟩
  · exact ⟨ρ, w, F, .ok a, w1, S, h1, fun v H1 F1 S1 s1 r1 => kk a w1 v H1 F1 S1 s1 r1 h2⟩
  · exact ⟨ρ, w, F, .er e', w', S, h1, er e' rfl⟩
theorem tVs.bind {β : Type} {f : Rho → M W T} {k : T → M W β} {r : R β} {Q : VK} (S : Sd X.K G ρ w σ H F) (e : bnd (f ρ) k w = some (r, w'))
    (er : ∀ e, r = .er e → AccE X.K G E F e w')
    (kk : ∀ t w1 v H1 F1, Sd X.K G ρ w1 σ H1 F1 → Gr G H F H1 F1 → ShR X.K ρ σ F1 v t → k t w1 = some (r, w') → Q v H1) : tVs X.K G E f σ H Q := by
  rcases bnd_inv e with ⟨a, w1, h1, h2⟩ | ⟨e', h1, rfl⟩
  · exact ⟨ρ, w, F, .ok a, w1, S, h1, fun v H1 F1 S1 s1 r1 => kk a w1 v H1 F1 S1 s1 r1 h2⟩
  · exact ⟨ρ, w, F, .er e', w', S, h1, er e' rfl⟩
theorem tF.bind {β : Type} {f : Rho → M W (List T)} {k : List T → M W β} {r : R β} {Q : VK} (S : Sd X.K G ρ w σ H F) (e : bnd (f ρ) k w = some (r, w'))
    (er : ∀ e, r = .er e → AccE X.K G E F e w')
    (kk : ∀ ts w1 p vs H1 F1, Sd X.K G ρ w1 σ H1 F1 → Gr G H F H1 F1 → H p = none → H1 p = some (.lst vs) → F1 p = none → G.B p = none → (∀ (i : Nat) (s : Sl), ρ[i]? = some s → s.owns = true → σ[i]? ≠ some (some (V.ref p))) → Reps X.K F1 vs ts → k ts w1 = some (r, w') → Q (.ref p) H1) : tF X.K G E f σ H Q := by
  rcases bnd_inv e with ⟨a, w1, h1, h2⟩ | ⟨e', h1, rfl⟩
  · exact ⟨ρ, w, F, .ok a, w1, S, h1, fun p vs H1 F1 S1 s1 r0 r1 r2 r3 r4 r5 => kk a w1 p vs H1 F1 S1 s1 r0 r1 r2 r3 r4 r5 h2⟩
  · exact ⟨ρ, w, F, .er e', w', S, h1, er e' rfl⟩
theorem tT.bind {β : Type} {f : Rho → M W Bool} {k : Bool → M W β} {r : R β} {Q : Bool → Hp → Prop} (S : Sd X.K G ρ w σ H F) (e : bnd (f ρ) k w = some (r, w'))
    (er : ∀ e, r = .er e → AccE X.K G E F e w')
    (kk : ∀ b w1 H1 F1, Sd X.K G ρ w1 σ H1 F1 → Gr G H F H1 F1 → k b w1 = some (r, w') → Q b H1) : tT X.K G E f σ H Q := by
  rcases bnd_inv e with ⟨a, w1, h1, h2⟩ | ⟨e', h1, rfl⟩
  · exact ⟨ρ, w, F, .ok a, w1, S, h1, fun H1 F1 S1 s1 => kk a w1 H1 F1 S1 s1 h2⟩
  · exact ⟨ρ, w, F, .er e', w', S, h1, er e' rfl⟩
theorem tA.bind {β : Type} {f : Rho → M W (List T)} {k : List T → M W β} {r : R β} {Q : List V → Hp → Prop} (S : Sd X.K G ρ w σ H F) (e : bnd (f ρ) k w = some (r, w'))
    (er : ∀ e, r = .er e → AccE X.K G E F e w')
    (kk : ∀ ts w1 vs H1 F1, Sd X.K G ρ w1 σ H1 F1 → Gr G H F H1 F1 → Reps X.K F1 vs ts → k ts w1 = some (r, w') → Q vs H1) : tA X.K G E f σ H Q := by
  rcases bnd_inv e with ⟨a, w1, h1, h2⟩ | ⟨e', h1, rfl⟩
  · exact ⟨ρ, w, F, .ok a, w1, S, h1, fun vs H1 F1 S1 s1 r1 => kk a w1 vs H1 F1 S1 s1 r1 h2⟩
  · exact ⟨ρ, w, F, .er e', w', S, h1, er e' rfl⟩
theorem Acc.er {Q : VK} {r : R T} (h : Acc X.K G E ρ σ H F Q r w') : ∀ e, r = .er e → AccE X.K G E F e w' := fun e q => by subst q; exact h
theorem AccS.er {Q : VK} {r : R T} (h : AccS X.K G E ρ σ H F Q r w') : ∀ e, r = .er e → AccE X.K G E F e w' := fun e q => by subst q; exact h
theorem AccF.er {Q : VK} {r : R (List T)} (h : AccF X.K G E ρ σ H F Q r w') : ∀ e, r = .er e → AccE X.K G E F e w' := fun e q => by subst q; exact h
theorem AccT.er {Q : Bool → Hp → Prop} {r : R Bool} (h : AccT X.K G E ρ σ H F Q r w') : ∀ e, r = .er e → AccE X.K G E F e w' := fun e q => by subst q; exact h
theorem AccA.er {Q : List V → Hp → Prop} {r : R (List T)} (h : AccA X.K G E ρ σ H F Q r w') : ∀ e, r = .er e → AccE X.K G E F e w' := fun e q => by subst q; exact h
theorem AccD.er {D : Ends} {r : R Fl} (h : AccD X.K G E D F r w') : ∀ e, r = .er e → AccE X.K G E F e w' := fun e q => by subst q; exact h
theorem Acc.mono {H' F' : Hp} {Q : VK} {r : R T} (h : Acc X.K G E ρ σ H F Q r w') (s : Gr G H F H' F') (d : ∀ b, G.O.D b → H' b ≠ none) : Acc X.K G E ρ σ H' F' Q r w' := by
  cases r with
  | ok t => exact fun v H2 F2 S g q => h v H2 F2 S (s.trans g d) q
  | er e => exact AccE.mono (X := X) h s.same
theorem AccS.mono {H' F' : Hp} {Q : VK} {r : R T} (h : AccS X.K G E ρ σ H F Q r w') (s : Gr G H F H' F') (d : ∀ b, G.O.D b → H' b ≠ none) : AccS X.K G E ρ σ H' F' Q r w' := by
  cases r with
  | ok t => exact fun v H2 F2 S g q => h v H2 F2 S (s.trans g d) q
  | er e => exact AccE.mono (X := X) h s.same
theorem AccT.mono {H' F' : Hp} {Q : Bool → Hp → Prop} {r : R Bool} (h : AccT X.K G E ρ σ H F Q r w') (s : Gr G H F H' F') (d : ∀ b, G.O.D b → H' b ≠ none) : AccT X.K G E ρ σ H' F' Q r w' := by
  cases r with
  | ok t => exact fun H2 F2 S g => h H2 F2 S (s.trans g d)
  | er e => exact AccE.mono (X := X) h s.same
theorem AccA.mono {H' F' : Hp} {Q : List V → Hp → Prop} {r : R (List T)} (h : AccA X.K G E ρ σ H F Q r w') (s : Gr G H F H' F') (d : ∀ b, G.O.D b → H' b ≠ none) : AccA X.K G E ρ σ H' F' Q r w' := by
  cases r with
  | ok t => exact fun vs H2 F2 S g q => h vs H2 F2 S (s.trans g d) q
  | er e => exact AccE.mono (X := X) h s.same
theorem AccD.mono {F' : Hp} {D : Ends} {r : R Fl} (h : AccD X.K G E D F r w') (s : Same F F') : AccD X.K G E D F' r w' := by
  cases r with
  | ok fl =>
    cases fl with
    | nx ρ' => exact fun σ' H' F2 S g => h σ' H' F2 S (s.trans g)
    | bk ρ' => exact fun σ' H' F2 S g => h σ' H' F2 S (s.trans g)
    | ct ρ' => exact fun σ' H' F2 S g => h σ' H' F2 S (s.trans g)
    | rt t => exact fun v ρ' σ' H' F2 S g q => h v ρ' σ' H' F2 S (s.trans g) q
  | er e => exact AccE.mono (X := X) h s
end

/-! ### from one kind of reading to another -/
section
variable {W : Type} {X : Cx} {G : Gm W} {E : XK} {e : Expr} {f : Rho → M W T}
theorem PV.sh (h : PV X G E e f) : PVs X G E e f := ⟨h.run.imp fun σ H Q => by
  rintro ⟨ρ, w, F, r, w', S, hf, acc⟩
  refine ⟨ρ, w, F, r, w', S, hf, ?_⟩
  cases r with
  | ok t => exact fun v H' F' S' g q => acc v H' F' S' g (.inl q)
  | er e => exact acc⟩
/-- a new list, frozen -/
def asL {W : Type} (f : Rho → M W (List T)) : Rho → M W T := fun ρ => bnd (f ρ) fun ts => ret (.lst ts)
theorem PF.dp {g : Rho → M W (List T)} (h : PF X G E e g) : PV X G E e (asL g) := ⟨h.run.imp fun σ H Q => by
  rintro ⟨ρ, w, F, r, w', S, hf, acc⟩
  refine tF.bind (X := X) S hf acc.er fun ts w1 p vs H1 F1 S1 s1 h0 h1 h2 h3 h4 h5 hk => ?_
  obtain ⟨rfl, rfl⟩ := ret_inv hk
  exact acc (.ref p) H1 (upd F1 p (.lst vs)) (S1.freeze h1 h2 h3 h4) (s1.frz h0 h2) (.lst upd_same (h5.mono (Same.updN h2)))⟩
theorem PF.sh {g : Rho → M W (List T)} (h : PF X G E e g) : PVs X G E e (asL g) := h.dp.sh

/-! ### names and constants -/
def slotV (o : Option Sl) : Option T := match o with
  | some (.fz t) => some t
  | _ => none
def slotS (o : Option Sl) : Option T := match o with
  | some (.fz t) => some t
  | some (.ow ts) => some (.lst ts)
  | some (.od ks ts) => some (.dct ks ts)
  | _ => none
def fVar {W : Type} (i : Nat) : Rho → M W T := fun ρ => lift (slotV ρ[i]?)
def fVarS {W : Type} (i : Nat) : Rho → M W T := fun ρ => lift (slotS ρ[i]?)
def fC {W : Type} (t : T) : Rho → M W T := fun _ => ret t
theorem slotV_inv {o : Option Sl} {t : T} (h : slotV o = some t) : o = some (.fz t) := by
  unfold slotV at h
  split at h
  · cases h; rfl
  · cases h
theorem pv_var (i : Nat) {x : Str} {pos : Pos} (hN : X.N[i]? = some x) (hv : Vis X.env.scope x) (hd : (x == ("__debug__" : Str)) = false := by decide) (hcd : (x == ("__classdict__" : Str)) = false := by decide) : PV X G E (.Name x pos) (fVar i) :=
  ⟨(pe_var hN hv hd hcd).imp fun σ H Q => by
    rintro ⟨ρ, w, F, r, w', S, hf, acc⟩
    obtain ⟨t, e, rfl, rfl⟩ := lift_inv hf
    obtain ⟨v, hv, rp⟩ := S.slots i _ (slotV_inv e)
    exact ⟨v, hv, acc v H F S .refl rp⟩⟩
theorem pv_varS (i : Nat) {x : Str} {pos : Pos} (hN : X.N[i]? = some x) (hv : Vis X.env.scope x) (hd : (x == ("__debug__" : Str)) = false := by decide) (hcd : (x == ("__classdict__" : Str)) = false := by decide) : PVs X G E (.Name x pos) (fVarS i) :=
  ⟨(pe_var hN hv hd hcd).imp fun σ H Q => by
    rintro ⟨ρ, w, F, r, w', S, hf, acc⟩
    obtain ⟨t, e, rfl, rfl⟩ := lift_inv hf
    cases hs : ρ[i]? with
    | none => rw [hs] at e; cases e
    | some sl =>
      rw [hs] at e
      have q := S.slots i sl hs
      cases sl with
      | un => cases e
      | fz t' =>
        cases e
        obtain ⟨v, hv, rp⟩ := q
        exact ⟨v, hv, acc v H F S .refl (.inl rp)⟩
      | ow ts =>
        cases e
        obtain ⟨p, vs, hv, _⟩ := q
        exact ⟨.ref p, hv, acc _ H F S .refl (.inr (.inl ⟨i, ts, hs, hv, rfl⟩))⟩
      | od ks ts =>
        cases e
        obtain ⟨p, vs, hv, _⟩ := q
        exact ⟨.ref p, hv, acc _ H F S .refl (.inr (.inr ⟨i, ks, ts, hs, hv, rfl⟩))⟩⟩
theorem pv_c {v : V} {t : T} (h : PE X e (tC v)) (hr : ∀ F, Rep X.K F v t) : PV X G E e (fC t) := ⟨h.imp fun σ H Q => by
  rintro ⟨ρ, w, F, r, w', S, hf, acc⟩
  obtain ⟨rfl, rfl⟩ := ret_inv hf
  exact acc v H F S .refl (hr F)⟩
theorem pv_int {i : Int} {j pos} : PV X G E (.Constant (.int i) j pos) (fC (.int i)) := pv_c pe_int fun _ => .int i
theorem pv_bl {b : Bool} {j pos} : PV X G E (.Constant (.bool b) j pos) (fC (.bl b)) := pv_c pe_bl fun _ => .bl b
theorem pv_non {j pos} : PV X G E (.Constant .none j pos) (fC .non) := pv_c pe_non fun _ => .non
theorem pv_str {x : Str} {j pos} : PV X G E (.Constant (.str x) j pos) (fC (.str x)) := pv_c pe_str fun _ => .str x
theorem pv_glob {x : Str} {v : V} {u : Value} {t : T} {pos : Pos} (hg : Gl X x) (hm : X.mg x = some u) (r : RelV v u) (hr : ∀ F, Rep X.K F v t) (hd : (x == ("__debug__" : Str)) = false := by decide) : PV X G E (.Name x pos) (fC t) := pv_c (pe_glob hg hm r hd) hr
end

/-! ### what may be read -/
section
variable {W : Type} {K : PySem.W.Frag} {G : Gm W} {ρ : Rho} {w : W} {σ : L2.St} {H F : Hp} {v : V}
theorem Rep.lst_inv {ts : List T} (h : Rep K F v (.lst ts)) : ∃ a vs, v = .ref a ∧ F a = some (.lst vs) ∧ Reps K F vs ts := by
  cases h with
  | lst h r => exact ⟨_, _, rfl, h, r⟩
theorem Rep.tup_inv {ts : List T} (h : Rep K F v (.tup ts)) : ∃ a vs, v = .ref a ∧ SqT K F a vs ∧ Reps K F vs ts := by
  cases h with
  | tup h r => exact ⟨_, _, rfl, h, r⟩
theorem Rep.int_inv {i : Int} (h : Rep K F v (.int i)) : v = .int i := by cases h; rfl
theorem Rep.str_inv {x : Str} (h : Rep K F v (.str x)) : v = .str x := by cases h; rfl
theorem Rep.bl_inv {b : Bool} (h : Rep K F v (.bl b)) : v = .bl b := by cases h; rfl
theorem Rep.non_inv (h : Rep K F v .non) : v = .non := by cases h; rfl
theorem ShR.lst (S : Sd K G ρ w σ H F) {ts : List T} (h : ShR K ρ σ F v (.lst ts)) : ∃ a vs, v = .ref a ∧ H a = some (.lst vs) ∧ Reps K F vs ts := by
  rcases h with h | ⟨i, us, h1, h2, h3⟩ | ⟨i, ks, us, h1, h2, h3⟩
  · obtain ⟨a, vs, e, h1, r⟩ := h.lst_inv
    exact ⟨a, vs, e, S.sub _ _ h1, r⟩
  · cases h3
    obtain ⟨p, vs, e, q1, q2, q3, r⟩ := S.slots i _ h1
    rw [h2] at e
    cases e
    exact ⟨p, vs, rfl, q1, r⟩
  · cases h3
theorem ShR.dct (S : Sd K G ρ w σ H F) {ks : List Key} {ts : List T} (h : ShR K ρ σ F v (.dct ks ts)) : ∃ a vs, v = .ref a ∧ Rd H a (.dK (ks.zip vs)) ∧ ks.length = vs.length ∧ Reps K F vs ts := by
  rcases h with h | ⟨i, us, h1, h2, h3⟩ | ⟨i, ks', us, h1, h2, h3⟩
  · cases h with
    | dct h e r => exact ⟨_, _, rfl, Same.rd S.sub h, e, r⟩
  · cases h3
  · cases h3
    obtain ⟨p, vs, e, q1, ql, q2, q3, r⟩ := S.slots i _ h1
    rw [h2] at e
    cases e
    exact ⟨p, vs, rfl, .inl q1, ql, r⟩
theorem ShR.rep {t : T} (h : ShR K ρ σ F v t) (h1 : ∀ ts, t ≠ .lst ts) (h2 : ∀ ks ts, t ≠ .dct ks ts) : Rep K F v t := by
  rcases h with h | ⟨_, us, _, _, h3⟩ | ⟨_, ks, us, _, _, h3⟩
  · exact h
  · exact absurd h3 (h1 _)
  · exact absurd h3 (h2 _ _)
theorem ShR.tup (S : Sd K G ρ w σ H F) {ts : List T} (h : ShR K ρ σ F v (.tup ts)) : ∃ a vs, v = .ref a ∧ SqT K F a vs ∧ SqT K H a vs ∧ Reps K F vs ts := by
  obtain ⟨a, vs, e, q, r⟩ := (h.rep (fun _ z => nomatch z) fun _ _ z => nomatch z).tup_inv
  exact ⟨a, vs, e, q, Same.seqT S.sub q, r⟩
theorem ShR.int {i : Int} (h : ShR K ρ σ F v (.int i)) : v = .int i := (h.rep (fun _ z => nomatch z) fun _ _ z => nomatch z).int_inv
theorem ShR.str {x : Str} (h : ShR K ρ σ F v (.str x)) : v = .str x := (h.rep (fun _ z => nomatch z) fun _ _ z => nomatch z).str_inv
theorem ShR.bl {b : Bool} (h : ShR K ρ σ F v (.bl b)) : v = .bl b := (h.rep (fun _ z => nomatch z) fun _ _ z => nomatch z).bl_inv
theorem ShR.non (h : ShR K ρ σ F v .non) : v = .non := (h.rep (fun _ z => nomatch z) fun _ _ z => nomatch z).non_inv
end
end PL

/-! PLc: operators, comparisons, truth, subscripts, slices, displays. -/
namespace PL
open PySem PySem.Spec PyProof.Rows L2

/-! ### data -/
mutual
def dataT : T → Option PyData
  | .non => some .none
  | .bl b => some (.bool b)
  | .int i => some (.int i)
  | .str x => some (.str x)
  | .tup ts => (dataTs ts).map PyData.tuple
  | .lst ts => (dataTs ts).map PyData.list
  | _ => none
def dataTs : List T → Option (List PyData)
  | [] => some []
  | t :: ts => (dataT t).bind fun d => (dataTs ts).map fun ds => d :: ds
end
mutual
theorem dataT_plain : ∀ (t : T) (d : PyData), dataT t = some d → d.plain = true
  | .non, _, h => by cases h; rfl
  | .bl b, _, h => by cases h; rfl
  | .int i, _, h => by cases h; rfl
  | .str x, _, h => by cases h; rfl
  | .tup ts, d, h => by
    simp only [dataT, Option.map_eq_some_iff] at h
    obtain ⟨ds, h1, rfl⟩ := h
    exact dataTs_plain ts ds h1
  | .lst ts, d, h => by
    simp only [dataT, Option.map_eq_some_iff] at h
    obtain ⟨ds, h1, rfl⟩ := h
    exact dataTs_plain ts ds h1
  | .dct _ _, _, h => by cases h
  | .ins _ _ _, _, h => by cases h
  | .raw _, _, h => by cases h
theorem dataTs_plain : ∀ (ts : List T) (ds : List PyData), dataTs ts = some ds → PyData.plainAll ds = true
  | [], _, h => by cases h; rfl
  | t :: ts, ds, h => by
    simp only [dataTs, Option.bind_eq_some_iff, Option.map_eq_some_iff] at h
    obtain ⟨d, h1, es, h2, rfl⟩ := h
    simp [PyData.plainAll, dataT_plain t d h1, dataTs_plain ts es h2]
end
section
variable {K : PySem.W.Frag} {F H : Hp}
mutual
theorem Rep.dp (s : Same F H) : ∀ (t : T) (v : V) (d : PyData), Rep K F v t → dataT t = some d → Dp K H v d
  | .non, _, _, h, e => by cases h; cases e; exact .non
  | .bl b, _, _, h, e => by cases h; cases e; exact .bl b
  | .int i, _, _, h, e => by cases h; cases e; exact .int i
  | .str x, _, _, h, e => by cases h; cases e; exact .str x
  | .tup ts, _, d, h, e => by
    simp only [dataT, Option.map_eq_some_iff] at e
    obtain ⟨ds, h1, rfl⟩ := e
    cases h with
    | tup q r => exact .tup (Same.seqT s q) (Reps.dp s ts _ ds r h1)
  | .lst ts, _, d, h, e => by
    simp only [dataT, Option.map_eq_some_iff] at e
    obtain ⟨ds, h1, rfl⟩ := e
    cases h with
    | lst q r => exact .lst (.of (s _ _ q)) (Reps.dp s ts _ ds r h1)
  | .dct _ _, _, _, _, e => by cases e
  | .ins _ _ _, _, _, _, e => by cases e
  | .raw _, _, _, _, e => by cases e
theorem Reps.dp (s : Same F H) : ∀ (ts : List T) (vs : List V) (ds : List PyData), Reps K F vs ts → dataTs ts = some ds → DpAll K H vs ds
  | [], _, _, h, e => by cases h; cases e; exact .nil
  | t :: ts, _, ds, h, e => by
    simp only [dataTs, Option.bind_eq_some_iff, Option.map_eq_some_iff] at e
    obtain ⟨d, h1, es, h2, rfl⟩ := e
    cases h with
    | cons q r => exact .cons (Rep.dp s t _ d q h1) (Reps.dp s ts _ es r h2)
end
end
theorem ShR.dp {W : Type} {K : PySem.W.Frag} {G : Gm W} {ρ : Rho} {w : W} {σ : L2.St} {H F : Hp} {v : V} {t : T} {d : PyData} (S : Sd K G ρ w σ H F) (h : ShR K ρ σ F v t) (e : dataT t = some d) : Dp K H v d := by
  cases t with
  | lst ts =>
    obtain ⟨a, vs, rfl, h1, r⟩ := h.lst S
    simp only [dataT, Option.map_eq_some_iff] at e
    obtain ⟨ds, h2, rfl⟩ := e
    exact .lst (.of h1) (Reps.dp S.sub ts vs ds r h2)
  | dct ks ts => cases e
  | non => exact Rep.dp S.sub _ _ _ (h.rep (fun _ z => nomatch z) fun _ _ z => nomatch z) e
  | bl b => exact Rep.dp S.sub _ _ _ (h.rep (fun _ z => nomatch z) fun _ _ z => nomatch z) e
  | int b => exact Rep.dp S.sub _ _ _ (h.rep (fun _ z => nomatch z) fun _ _ z => nomatch z) e
  | str b => exact Rep.dp S.sub _ _ _ (h.rep (fun _ z => nomatch z) fun _ _ z => nomatch z) e
  | tup b => exact Rep.dp S.sub _ _ _ (h.rep (fun _ z => nomatch z) fun _ _ z => nomatch z) e
  | ins _ _ _ => cases e
  | raw _ => cases e

/-! ### operators by values -/
def f2 {W : Type} (g : T → T → Option T) (fa fb : Rho → M W T) : Rho → M W T := fun ρ => bnd (fa ρ) fun t => bnd (fb ρ) fun u => lift (g t u)
section
variable {W : Type} {X : Cx} {G : Gm W} {E : XK} {a b : Expr} {fa fb : Rho → M W T} {pos : Pos}
/-- a reading of an operator by values, told by a function -/
def OpG (X : Cx) (G : Gm W) (r : R2) (g : T → T → Option T) : Prop :=
  ∀ (ρ : Rho) (w : W) (σ : L2.St) (H F : Hp) (x y : V) (t u z : T) (Q : VK), Sd X.K G ρ w σ H F → ShR X.K ρ σ F x t → ShR X.K ρ σ F y u → g t u = some z → (∀ v H' F', Sd X.K G ρ w σ H' F' → Gr G H F H' F' → Rep X.K F' v z → Q v H') → r x y H Q
theorem tOp.of {r : R2} {g : T → T → Option T} (hg : OpG X G r g) : ∀ σ H Q, tV X.K G E (f2 g fa fb) σ H Q → tOp r (tVs X.K G E fa) (tVs X.K G E fb) σ H Q := fun σ H Q => by
  rintro ⟨ρ, w, F, q, w', S, hf, acc⟩
  refine tVs.bind (X := X) S hf acc.er fun t w1 x H1 F1 S1 s1 r1 hk => ?_
  refine tVs.bind (X := X) S1 hk (acc.mono s1 S1.dH).er fun u w2 y H2 F2 S2 s2 r2 hk2 => ?_
  obtain ⟨z, hz, rfl, rfl⟩ := lift_inv hk2
  exact hg ρ _ σ H2 F2 x y t u z Q S2 (r1.mono s2.same) r2 hz fun v H' F' S' s' rv => acc v H' F' S' ((s1.trans s2 S1.dH).trans s' S2.dH) rv
theorem pv_op {op : Operator} {r : R2} {g : T → T → Option T} (ho : OpR X (binaryOp op) r) (hg : OpG X G r g) (ha : PVs X G E a fa) (hb : PVs X G E b fb) : PV X G E (.BinOp a op b pos) (f2 g fa fb) :=
  ⟨(pe_op ho ha.run hb.run).imp (tOp.of hg)⟩
theorem pv_cmp {op : CmpOp} {r : R2} {g : T → T → Option T} (ho : OpR X (compareOp op) r) (hg : OpG X G r g) (ha : PVs X G E a fa) (hb : PVs X G E b fb) (hm : behindInMarks op b = false) : PV X G E (.Compare a [op] [b] pos) (f2 g fa fb) :=
  ⟨(pe_cmpR ho ha.run hb.run hm).imp (tOp.of hg)⟩

/-! ### arithmetic -/
def addT : T → T → Option T
  | .int i, .int j => some (.int (i + j))
  | .str x, .str y => if x.length + y.length ≤ sizeLine then some (.str (x ++ y)) else none
  | .tup xs, .tup ys => if xs.length + ys.length ≤ sizeLine then some (.tup (xs ++ ys)) else none
  | .lst xs, .lst ys => if xs.length + ys.length ≤ sizeLine then some (.lst (xs ++ ys)) else none
  | _, _ => none
def rAddA (K : PySem.W.Frag) : R2 := fun x y H Q => ((rI0 fun i j => .int (i + j)) x y H Q ∨ (∃ i j, x = .str i ∧ y = .str j ∧ i.length + j.length ≤ sizeLine ∧ Q (.str (i ++ j)) H)) ∨ (rCatA K x y H Q ∨ rCat x y H Q)
theorem addG : OpG X G (rAddA X.K) addT := by
  intro ρ w σ H F x y t u z Q S hx hy hz k
  unfold addT at hz
  split at hz
  · cases hz
    exact .inl (.inl ⟨_, _, hx.int, hy.int, k _ H F S .refl (.int _)⟩)
  · split at hz
    · rename_i hl
      cases hz
      exact .inl (.inr ⟨_, _, hx.str, hy.str, hl, k _ H F S .refl (.str _)⟩)
    · cases hz
  · rename_i xs ys
    split at hz
    · rename_i hl
      cases hz
      obtain ⟨a, vs, rfl, hF, hH, r1⟩ := hx.tup S
      obtain ⟨b, us, rfl, hF2, hH2, r2⟩ := hy.tup S
      refine .inr (.inl ⟨a, b, vs, us, rfl, rfl, hH, hH2, by rw [r1.length, r2.length]; exact hl, fun e => ?_, fun _ e => ?_, fun _ _ p hp => ?_⟩)
      · subst e; cases r1
        exact k _ H F S .refl (.tup hF2 r2)
      · subst e; cases r2
        rw [List.append_nil] at k
        exact k _ H F S .refl (.tup hF r1)
      · exact k _ _ _ (S.laidF hp) (.laidF S hp) (.tup (.of upd_same) ((r1.append r2).mono (Same.updN (S.sub.free hp))))
    · cases hz
  · rename_i xs ys
    split at hz
    · rename_i hl
      cases hz
      obtain ⟨a, vs, rfl, hH, r1⟩ := hx.lst S
      obtain ⟨b, us, rfl, hH2, r2⟩ := hy.lst S
      exact .inr (.inr ⟨a, b, vs, us, rfl, rfl, hH, hH2, by rw [r1.length, r2.length]; exact hl, fun p hp => k _ _ _ (S.laidF hp) (.laidF S hp) (.lst upd_same ((r1.append r2).mono (Same.updN (S.sub.free hp))))⟩)
    · cases hz
  · cases hz
theorem pv_add (ha : PVs X G E a fa) (hb : PVs X G E b fb) : PV X G E (.BinOp a .Add b pos) (f2 addT fa fb) :=
  pv_op (OpR.or (OpR.or op_add op_add_str) (OpR.or op_catA op_cat)) addG ha hb
def intT (C : Int → Int → Bool) (g : Int → Int → Int) : T → T → Option T
  | .int i, .int j => if C i j = true then some (.int (g i j)) else none
  | _, _ => none
theorem intG {P : Int → Int → Prop} {C : Int → Int → Bool} {g : Int → Int → Int} (h : ∀ i j, C i j = true → P i j) : OpG X G (rI P fun i j => .int (g i j)) (intT C g) := by
  intro ρ w σ H F x y t u z Q S hx hy hz k
  unfold intT at hz
  split at hz
  · split at hz
    · rename_i hc
      cases hz
      exact ⟨_, _, hx.int, hy.int, h _ _ hc, k _ H F S .refl (.int _)⟩
    · cases hz
  · cases hz
def subT : T → T → Option T := intT (fun _ _ => true) fun i j => i - j
instance (i j : Int) : Decidable (CMul i j) := inferInstanceAs (Decidable ((-(2 ^ 64) < i ∧ i < 2 ^ 64) ∨ (-(2 ^ 64) < j ∧ j < 2 ^ 64)))
instance (i j : Int) : Decidable (CDiv i j) := inferInstanceAs (Decidable (0 < j ∧ j < 1073741824))
instance (i j : Int) : Decidable (CPow i j) := inferInstanceAs (Decidable (0 ≤ j ∧ j ≤ 1000000 ∧ i.natAbs < 2 ^ 64))
def mulT : T → T → Option T := intT (fun i j => decide (CMul i j)) fun i j => i * j
def modT : T → T → Option T := intT (fun _ j => decide (0 < j)) fun i j => i % j
def fdivT : T → T → Option T := intT (fun i j => decide (CDiv i j)) fun i j => i / j
def powT : T → T → Option T := intT (fun i j => decide (CPow i j)) fun i j => i ^ j.toNat
theorem pv_sub (ha : PVs X G E a fa) (hb : PVs X G E b fb) : PV X G E (.BinOp a .Sub b pos) (f2 subT fa fb) :=
  pv_op op_sub (r := rI0 fun i j => .int (i - j)) (by
    intro ρ w σ H F x y t u z Q S hx hy hz k
    have q := intG (X := X) (G := G) (P := fun _ _ => True) (C := fun _ _ => true) (g := fun i j => i - j) (fun _ _ _ => trivial) ρ w σ H F x y t u z Q S hx hy hz k
    obtain ⟨i, j, h1, h2, _, h3⟩ := q
    exact ⟨i, j, h1, h2, h3⟩) ha hb
theorem pv_mul (ha : PVs X G E a fa) (hb : PVs X G E b fb) : PV X G E (.BinOp a .Mult b pos) (f2 mulT fa fb) := pv_op op_mul (intG fun _ _ h => of_decide_eq_true h) ha hb
theorem pv_mod (ha : PVs X G E a fa) (hb : PVs X G E b fb) : PV X G E (.BinOp a .Mod b pos) (f2 modT fa fb) := pv_op op_mod (intG fun _ _ h => of_decide_eq_true h) ha hb
theorem pv_fdiv (ha : PVs X G E a fa) (hb : PVs X G E b fb) : PV X G E (.BinOp a .FloorDiv b pos) (f2 fdivT fa fb) := pv_op op_fdiv (intG fun _ _ h => of_decide_eq_true h) ha hb
theorem pv_pow (ha : PVs X G E a fa) (hb : PVs X G E b fb) : PV X G E (.BinOp a .Pow b pos) (f2 powT fa fb) := pv_op op_pow (intG fun _ _ h => of_decide_eq_true h) ha hb

/-! ### comparisons -/
def ltT (f : Int → Int → Bool) : T → T → Option T
  | .int i, .int j => some (.bl (f i j))
  | _, _ => none
theorem cmpG {f : Int → Int → Bool} : OpG X G (rI0 fun i j => .bl (f i j)) (ltT f) := by
  intro ρ w σ H F x y t u z Q S hx hy hz k
  unfold ltT at hz
  split at hz
  · cases hz
    exact ⟨_, _, hx.int, hy.int, k _ H F S .refl (.bl _)⟩
  · cases hz
def eqT (neg : Bool) (t u : T) : Option T := (dataT t).bind fun d => (dataT u).bind fun e => if min d.depth e.depth ≤ 150 then some (.bl (if neg then !PyData.eqv d e else PyData.eqv d e)) else none
def rEqP (K : PySem.W.Frag) (neg : Bool) : R2 := fun x y H Q => ∃ d e, Dp K H x d ∧ Dp K H y e ∧ d.plain = true ∧ e.plain = true ∧ min d.depth e.depth ≤ 150 ∧ Q (.bl (if neg then !PyData.eqv d e else PyData.eqv d e)) H
theorem op_eqP (hu : X.A.units + 200 < cLine) : OpR X (compareOp .Eq) (rEqP X.K false) := by
  intro pins s σ H x y v u Q I rx ry h
  obtain ⟨d, e, hd, he, sd, se, hl, q⟩ := h
  obtain ⟨as, r1⟩ := Dp.reads I d x v hd rx
  obtain ⟨bs, r2⟩ := Dp.reads I e y u he ry
  exact SeqAt.eq_plain r1 r2 sd se (by omega) ⟨.bl _, H, I, rfl, q⟩
theorem op_neP (hu : X.A.units + 200 < cLine) : OpR X (compareOp .NotEq) (rEqP X.K true) := by
  intro pins s σ H x y v u Q I rx ry h
  obtain ⟨d, e, hd, he, sd, se, hl, q⟩ := h
  obtain ⟨as, r1⟩ := Dp.reads I d x v hd rx
  obtain ⟨bs, r2⟩ := Dp.reads I e y u he ry
  exact SeqAt.ne_plain r1 r2 sd se (by omega) ⟨.bl _, H, I, rfl, q⟩
theorem eqG {neg : Bool} : OpG X G (rEqP X.K neg) (eqT neg) := by
  intro ρ w σ H F x y t u z Q S hx hy hz k
  simp only [eqT, Option.bind_eq_some_iff] at hz
  obtain ⟨d, h1, e, h2, h3⟩ := hz
  split at h3
  · rename_i hl
    cases h3
    exact ⟨d, e, hx.dp S h1, hy.dp S h2, dataT_plain _ _ h1, dataT_plain _ _ h2, hl, k _ H F S .refl (.bl _)⟩
  · cases h3
/-- in, not in -/
def inT (neg : Bool) (t u : T) : Option T := match u with
  | .str z => match t with
    | .str x => some (.bl (if neg then !(!(Builtin.Str.occurrences z x 0 z.length 1).isEmpty) else !(Builtin.Str.occurrences z x 0 z.length 1).isEmpty))
    | _ => none
  | .lst us => (dataT t).bind fun d => (dataTs us).bind fun es => if d.depth ≤ 150 then some (.bl (if neg then !es.any (fun y => PyData.eqv y d) else es.any fun y => PyData.eqv y d)) else none
  | .tup us => (dataT t).bind fun d => (dataTs us).bind fun es => if d.depth ≤ 150 then some (.bl (if neg then !es.any (fun y => PyData.eqv y d) else es.any fun y => PyData.eqv y d)) else none
  | _ => none
def rInP (K : PySem.W.Frag) (neg : Bool) : R2 := fun x y H Q => ∃ d e es, Dp K H x d ∧ Dp K H y e ∧ (e = .list es ∨ e = .tuple es) ∧ d.plain = true ∧ e.plain = true ∧ d.depth ≤ 150 ∧ Q (.bl (if neg then !es.any (fun y => PyData.eqv y d) else es.any fun y => PyData.eqv y d)) H
theorem op_inP (hu : X.A.units + 200 < cLine) : OpR X (compareOp .In) (rInP X.K false) := by
  intro pins s σ H x y v u Q I rx ry h
  obtain ⟨d, e, es, hd, he, ke, sd, se, hl, q⟩ := h
  obtain ⟨as, r1⟩ := Dp.reads I d x v hd rx
  obtain ⟨bs, r2⟩ := Dp.reads I e y u he ry
  rcases ke with rfl | rfl
  · exact SeqAt.in_list_data r2 r1 se sd (by omega) ⟨.bl _, H, I, rfl, q⟩
  · exact SeqAt.in_tuple_data r2 r1 se sd (by omega) ⟨.bl _, H, I, rfl, q⟩
theorem op_notInP (hu : X.A.units + 200 < cLine) : OpR X (compareOp .NotIn) (rInP X.K true) := by
  intro pins s σ H x y v u Q I rx ry h
  obtain ⟨d, e, es, hd, he, ke, sd, se, hl, q⟩ := h
  obtain ⟨as, r1⟩ := Dp.reads I d x v hd rx
  obtain ⟨bs, r2⟩ := Dp.reads I e y u he ry
  rcases ke with rfl | rfl
  · exact SeqAt.notIn_list_data r2 r1 se sd (by omega) ⟨.bl _, H, I, rfl, q⟩
  · exact SeqAt.notIn_tuple_data r2 r1 se sd (by omega) ⟨.bl _, H, I, rfl, q⟩
def rInA (K : PySem.W.Frag) (neg : Bool) : R2 := fun x y H Q => (∃ i j, x = .str i ∧ y = .str j ∧ Q (.bl (if neg then !(!(Builtin.Str.occurrences j i 0 j.length 1).isEmpty) else !(Builtin.Str.occurrences j i 0 j.length 1).isEmpty)) H) ∨ rInP K neg x y H Q
theorem inG {neg : Bool} : OpG X G (rInA X.K neg) (inT neg) := by
  intro ρ w σ H F x y t u z Q S hx hy hz k
  unfold inT at hz
  split at hz
  · split at hz
    · cases hz
      exact .inl ⟨_, _, hx.str, hy.str, k _ H F S .refl (.bl _)⟩
    · cases hz
  · simp only [Option.bind_eq_some_iff] at hz
    obtain ⟨d, h1, es, h2, h3⟩ := hz
    split at h3
    · rename_i hl
      cases h3
      exact .inr ⟨d, .list es, es, hx.dp S h1, hy.dp S (by simp [dataT, h2]), .inl rfl, dataT_plain _ _ h1, dataTs_plain _ _ h2, hl, k _ H F S .refl (.bl _)⟩
    · cases h3
  · simp only [Option.bind_eq_some_iff] at hz
    obtain ⟨d, h1, es, h2, h3⟩ := hz
    split at h3
    · rename_i hl
      cases h3
      exact .inr ⟨d, .tuple es, es, hx.dp S h1, hy.dp S (by simp [dataT, h2]), .inr rfl, dataT_plain _ _ h1, dataTs_plain _ _ h2, hl, k _ H F S .refl (.bl _)⟩
    · cases h3
  · cases hz
theorem op_inA (hu : X.A.units + 200 < cLine) : OpR X (compareOp .In) (rInA X.K false) := OpR.or op_in_str (op_inP hu)
theorem op_notInA (hu : X.A.units + 200 < cLine) : OpR X (compareOp .NotIn) (rInA X.K true) := OpR.or op_notin_str (op_notInP hu)
theorem pv_eq (hu : X.A.units + 200 < cLine) (ha : PVs X G E a fa) (hb : PVs X G E b fb) : PV X G E (.Compare a [.Eq] [b] pos) (f2 (eqT false) fa fb) := pv_cmp (op_eqP hu) eqG ha hb (nomark b)
theorem pv_ne (hu : X.A.units + 200 < cLine) (ha : PVs X G E a fa) (hb : PVs X G E b fb) : PV X G E (.Compare a [.NotEq] [b] pos) (f2 (eqT true) fa fb) := pv_cmp (op_neP hu) eqG ha hb (nomark b)
theorem pv_in (hu : X.A.units + 200 < cLine) (ha : PVs X G E a fa) (hb : PVs X G E b fb) (hm : behindInMarks .In b = false := by rfl) : PV X G E (.Compare a [.In] [b] pos) (f2 (inT false) fa fb) := pv_cmp (op_inA hu) inG ha hb hm
theorem pv_notIn (hu : X.A.units + 200 < cLine) (ha : PVs X G E a fa) (hb : PVs X G E b fb) (hm : behindInMarks .NotIn b = false := by rfl) : PV X G E (.Compare a [.NotIn] [b] pos) (f2 (inT true) fa fb) := pv_cmp (op_notInA hu) inG ha hb hm
theorem pv_lt (ha : PVs X G E a fa) (hb : PVs X G E b fb) : PV X G E (.Compare a [.Lt] [b] pos) (f2 (ltT fun i j => decide (i < j)) fa fb) := pv_cmp op_lt cmpG ha hb (nomark b)
theorem pv_le (ha : PVs X G E a fa) (hb : PVs X G E b fb) : PV X G E (.Compare a [.LtE] [b] pos) (f2 (ltT fun i j => decide (i ≤ j)) fa fb) := pv_cmp op_le cmpG ha hb (nomark b)
theorem pv_gt (ha : PVs X G E a fa) (hb : PVs X G E b fb) : PV X G E (.Compare a [.Gt] [b] pos) (f2 (ltT fun i j => decide (j < i)) fa fb) := pv_cmp op_gt cmpG ha hb (nomark b)
theorem pv_ge (ha : PVs X G E a fa) (hb : PVs X G E b fb) : PV X G E (.Compare a [.GtE] [b] pos) (f2 (ltT fun i j => decide (j ≤ i)) fa fb) := pv_cmp op_ge cmpG ha hb (nomark b)
/-- is None, is True -/
def isT (neg : Bool) : T → T → Option T
  | .non, .non => some (.bl (!neg))
  | .bl _, .non | .int _, .non | .str _, .non | .tup _, .non | .lst _, .non | .dct _ _, .non | .ins _ _ _, .non => some (.bl neg)
  | .bl c, .bl d => some (.bl (if neg then !decide (c = d) else decide (c = d)))
  | _, _ => none
def rIsA (neg : Bool) : R2 := fun x y H Q => (y = .non ∧ Q (.bl (if neg then !decide (x = .non) else decide (x = .non))) H) ∨ (∃ c d, x = .bl c ∧ y = .bl d ∧ Q (.bl (if neg then !decide (c = d) else decide (c = d))) H)
theorem isG {neg : Bool} : OpG X G (rIsA neg) (isT neg) := by
  intro ρ w σ H F x y t u z Q S hx hy hz k
  have ref : ∀ a, (if neg = true then !decide (V.ref a = V.non) else decide (V.ref a = V.non)) = neg := fun a => by cases neg <;> simp
  cases t with
  | non =>
    cases u <;> first | (cases hz; done) | skip
    cases hz
    obtain rfl := hx.non
    exact .inl ⟨hy.non, by have e : (if neg = true then !decide (V.non = V.non) else decide (V.non = V.non)) = !neg := by cases neg <;> simp
                           rw [e]; exact k _ H F S .refl (.bl _)⟩
  | bl c =>
    cases u <;> first | (cases hz; done) | skip
    · cases hz
      obtain rfl := hx.bl
      exact .inl ⟨hy.non, by have e : (if neg = true then !decide (V.bl c = V.non) else decide (V.bl c = V.non)) = neg := by cases neg <;> simp
                             rw [e]; exact k _ H F S .refl (.bl _)⟩
    · cases hz
      exact .inr ⟨_, _, hx.bl, hy.bl, k _ H F S .refl (.bl _)⟩
  | int c =>
    cases u <;> first | (cases hz; done) | skip
    cases hz
    obtain rfl := hx.int
    exact .inl ⟨hy.non, by have e : (if neg = true then !decide (V.int c = V.non) else decide (V.int c = V.non)) = neg := by cases neg <;> simp
                           rw [e]; exact k _ H F S .refl (.bl _)⟩
  | str c =>
    cases u <;> first | (cases hz; done) | skip
    cases hz
    obtain rfl := hx.str
    exact .inl ⟨hy.non, by have e : (if neg = true then !decide (V.str c = V.non) else decide (V.str c = V.non)) = neg := by cases neg <;> simp
                           rw [e]; exact k _ H F S .refl (.bl _)⟩
  | tup c =>
    cases u <;> first | (cases hz; done) | skip
    cases hz
    obtain ⟨a, _, rfl, _⟩ := hx.tup S
    exact .inl ⟨hy.non, by rw [ref]; exact k _ H F S .refl (.bl _)⟩
  | lst c =>
    cases u <;> first | (cases hz; done) | skip
    cases hz
    obtain ⟨a, _, rfl, _⟩ := hx.lst S
    exact .inl ⟨hy.non, by rw [ref]; exact k _ H F S .refl (.bl _)⟩
  | dct c d =>
    cases u <;> first | (cases hz; done) | skip
    cases hz
    obtain ⟨a, _, rfl, _⟩ := hx.dct S
    exact .inl ⟨hy.non, by rw [ref]; exact k _ H F S .refl (.bl _)⟩
  | ins c d e =>
    cases u <;> first | (cases hz; done) | skip
    cases hz
    cases (hx.rep (fun _ z => nomatch z) fun _ _ z => nomatch z) with
    | ins h1 h2 h3 => exact .inl ⟨hy.non, by rw [ref]; exact k _ H F S .refl (.bl _)⟩
  | raw c => cases u <;> cases hz
end
end PL

/-! PLd: and, or, not, if; tests; subscripts, slices, displays, arguments, calls of defs. -/
namespace PL
open PySem PySem.Spec PyProof.Rows L2
section
variable {W : Type} {X : Cx} {G : Gm W} {E : XK} {a b c : Expr} {rest : List Expr} {fa fb fc : Rho → M W T} {pos : Pos}

/-! ### and, or, not as values -/
def boolM {W : Type} (t : T) : M W Bool := match t with
  | .bl b => ret b
  | _ => stuck
def fAnd (fa fb : Rho → M W T) : Rho → M W T := fun ρ => bnd (fa ρ) fun t => bnd (boolM t) fun b => if b = true then fb ρ else ret (.bl false)
def fOr (fa fb : Rho → M W T) : Rho → M W T := fun ρ => bnd (fa ρ) fun t => bnd (boolM t) fun b => if b = true then ret (.bl true) else fb ρ
def fNot (fa : Rho → M W T) : Rho → M W T := fun ρ => bnd (fa ρ) fun t => bnd (boolM t) fun b => ret (.bl (!b))
theorem boolM_inv {t : T} {w w' : W} {r : R Bool} (h : boolM t w = some (r, w')) : ∃ b, t = .bl b ∧ r = .ok b ∧ w' = w := by
  cases t <;> first | (cases h; done) | skip
  obtain ⟨rfl, rfl⟩ := ret_inv h
  exact ⟨_, rfl, rfl, rfl⟩
theorem boolM_bnd {β : Type} {t : T} {k : Bool → M W β} {w w' : W} {r : R β} (h : bnd (boolM t) k w = some (r, w')) : ∃ b, t = .bl b ∧ k b w = some (r, w') := by
  rcases bnd_inv h with ⟨b, w1, h1, h2⟩ | ⟨e, h1, _⟩
  · obtain ⟨b', e, h3, rfl⟩ := boolM_inv h1
    cases h3
    exact ⟨b, e, h2⟩
  · obtain ⟨_, _, h3, _⟩ := boolM_inv h1
    cases h3
theorem pv_one {op} (ha : PV X G E a fa) : PV X G E (.BoolOp op [a] pos) fa := ⟨pe_one ha.run⟩
theorem pv_and (ha : PV X G E a fa) (hb : PV X G E (.BoolOp .And (b :: rest) pos) fb) : PV X G E (.BoolOp .And (a :: b :: rest) pos) (fAnd fa fb) := ⟨(pe_and ha.run hb.run).imp fun σ H Q => by
  rintro ⟨ρ, w, F, r, w', S, hf, acc⟩
  refine tV.bind (X := X) S hf acc.er fun t w1 x H1 F1 S1 s1 r1 hk => ?_
  obtain ⟨b, rfl, hk⟩ := boolM_bnd hk
  obtain rfl := r1.bl_inv
  refine ⟨b, rfl, ?_⟩
  cases b with
  | true => exact ⟨ρ, w1, F1, r, w', S1, hk, acc.mono s1 S1.dH⟩
  | false =>
    obtain ⟨rfl, rfl⟩ := ret_inv hk
    exact acc _ H1 F1 S1 s1 (.bl _)⟩
theorem pv_or (ha : PV X G E a fa) (hb : PV X G E (.BoolOp .Or (b :: rest) pos) fb) : PV X G E (.BoolOp .Or (a :: b :: rest) pos) (fOr fa fb) := ⟨(pe_or ha.run hb.run).imp fun σ H Q => by
  rintro ⟨ρ, w, F, r, w', S, hf, acc⟩
  refine tV.bind (X := X) S hf acc.er fun t w1 x H1 F1 S1 s1 r1 hk => ?_
  obtain ⟨b, rfl, hk⟩ := boolM_bnd hk
  obtain rfl := r1.bl_inv
  refine ⟨b, rfl, ?_⟩
  cases b with
  | false => exact ⟨ρ, w1, F1, r, w', S1, hk, acc.mono s1 S1.dH⟩
  | true =>
    obtain ⟨rfl, rfl⟩ := ret_inv hk
    exact acc _ H1 F1 S1 s1 (.bl _)⟩
theorem pv_not (ha : PV X G E a fa) : PV X G E (.UnaryOp .Not a pos) (fNot fa) := ⟨(pe_not ha.run).imp fun σ H Q => by
  rintro ⟨ρ, w, F, r, w', S, hf, acc⟩
  refine tV.bind (X := X) S hf acc.er fun t w1 x H1 F1 S1 s1 r1 hk => ?_
  obtain ⟨b, rfl, hk⟩ := boolM_bnd hk
  obtain rfl := r1.bl_inv
  obtain ⟨rfl, rfl⟩ := ret_inv hk
  exact ⟨b, rfl, acc _ H1 F1 S1 s1 (.bl _)⟩⟩

/-! ### tests -/
def fB (f : Rho → M W T) : Rho → M W Bool := fun ρ => bnd (f ρ) boolM
theorem tTest.of : ∀ {t : TE} {fa : Rho → M W T}, (∀ σ H Q, tV X.K G E fa σ H Q → t σ H Q) → ∀ σ H Q, tT X.K G E (fB fa) σ H Q → t σ H fun x H' => ∃ k, x = .bl k ∧ Q k H' := fun {t fa} h σ H Q => by
  rintro ⟨ρ, w, F, r, w', S, hf, acc⟩
  refine h σ H _ (tV.bind (X := X) S hf acc.er fun t w1 x H1 F1 S1 s1 r1 hk => ?_)
  obtain ⟨b, rfl, rfl, rfl⟩ := boolM_inv hk
  exact ⟨b, r1.bl_inv, acc H1 F1 S1 s1⟩
theorem pb_val (ha : PV X G E a fa) (he : ∀ whole, isTrue a X.env whole = (do let v ← whole; standAt a.pos; holding [v] (truthy v)) := by intro _; rfl) : PB X G E a (fB fa) :=
  ⟨(pt_val ha.run he).imp (tTest.of fun _ _ _ h => h)⟩
theorem pb_cmp {op : CmpOp} {r : R2} {g : T → T → Option T} (ho : OpR X (compareOp op) r) (hg : OpG X G r g) (ha : PVs X G E a fa) (hb : PVs X G E b fb) (hm : behindInMarks op b = false) : PB X G E (.Compare a [op] [b] pos) (fB (f2 g fa fb)) :=
  ⟨(pt_cmpR ho ha.run hb.run hm).imp (tTest.of (tOp.of hg))⟩
theorem pb_eq (hu : X.A.units + 200 < cLine) (ha : PVs X G E a fa) (hb : PVs X G E b fb) : PB X G E (.Compare a [.Eq] [b] pos) (fB (f2 (eqT false) fa fb)) := pb_cmp (op_eqP hu) eqG ha hb (nomark b)
theorem pb_ne (hu : X.A.units + 200 < cLine) (ha : PVs X G E a fa) (hb : PVs X G E b fb) : PB X G E (.Compare a [.NotEq] [b] pos) (fB (f2 (eqT true) fa fb)) := pb_cmp (op_neP hu) eqG ha hb (nomark b)
theorem pb_in (hu : X.A.units + 200 < cLine) (ha : PVs X G E a fa) (hb : PVs X G E b fb) (hm : behindInMarks .In b = false := by rfl) : PB X G E (.Compare a [.In] [b] pos) (fB (f2 (inT false) fa fb)) := pb_cmp (op_inA hu) inG ha hb hm
theorem pb_notIn (hu : X.A.units + 200 < cLine) (ha : PVs X G E a fa) (hb : PVs X G E b fb) (hm : behindInMarks .NotIn b = false := by rfl) : PB X G E (.Compare a [.NotIn] [b] pos) (fB (f2 (inT true) fa fb)) := pb_cmp (op_notInA hu) inG ha hb hm
theorem pb_lt (ha : PVs X G E a fa) (hb : PVs X G E b fb) : PB X G E (.Compare a [.Lt] [b] pos) (fB (f2 (ltT fun i j => decide (i < j)) fa fb)) := pb_cmp op_lt cmpG ha hb (nomark b)
theorem pb_le (ha : PVs X G E a fa) (hb : PVs X G E b fb) : PB X G E (.Compare a [.LtE] [b] pos) (fB (f2 (ltT fun i j => decide (i ≤ j)) fa fb)) := pb_cmp op_le cmpG ha hb (nomark b)
theorem pb_gt (ha : PVs X G E a fa) (hb : PVs X G E b fb) : PB X G E (.Compare a [.Gt] [b] pos) (fB (f2 (ltT fun i j => decide (j < i)) fa fb)) := pb_cmp op_gt cmpG ha hb (nomark b)
theorem pb_ge (ha : PVs X G E a fa) (hb : PVs X G E b fb) : PB X G E (.Compare a [.GtE] [b] pos) (fB (f2 (ltT fun i j => decide (j ≤ i)) fa fb)) := pb_cmp op_ge cmpG ha hb (nomark b)
theorem _root_.L2.OpR.imp {f : Value → Value → Sem Value} {r r' : R2} (h : OpR X f r) (i : ∀ x y H Q, r' x y H Q → r x y H Q) : OpR X f r' := fun pins s σ H x y v u Q I rx ry q => h pins s σ H x y v u Q I rx ry (i x y H Q q)
theorem op_isA : OpR X (compareOp .Is) (rIsA false) := (OpR.or op_isN op_isBl).imp fun x y H Q h => h
theorem op_isNotA : OpR X (compareOp .IsNot) (rIsA true) := (OpR.or op_notN op_notBl).imp fun x y H Q h => h
theorem pv_is (ha : PVs X G E a fa) (hb : PVs X G E b fb) : PV X G E (.Compare a [.Is] [b] pos) (f2 (isT false) fa fb) := pv_cmp op_isA isG ha hb (nomark b)
theorem pv_isNot (ha : PVs X G E a fa) (hb : PVs X G E b fb) : PV X G E (.Compare a [.IsNot] [b] pos) (f2 (isT true) fa fb) := pv_cmp op_isNotA isG ha hb (nomark b)
theorem pb_is (ha : PVs X G E a fa) (hb : PVs X G E b fb) : PB X G E (.Compare a [.Is] [b] pos) (fB (f2 (isT false) fa fb)) := pb_cmp op_isA isG ha hb (nomark b)
theorem pb_isNot (ha : PVs X G E a fa) (hb : PVs X G E b fb) : PB X G E (.Compare a [.IsNot] [b] pos) (fB (f2 (isT true) fa fb)) := pb_cmp op_isNotA isG ha hb (nomark b)

/-! ### and, or, not as tests -/
structure PBw (X : Cx) (G : Gm W) (E : XK) (e : Expr) (f : Rho → M W Bool) : Prop where
  run : PW X e (tT X.K G E f)
variable {ga gb gc : Rho → M W Bool}
def bAnd (ga gb : Rho → M W Bool) : Rho → M W Bool := fun ρ => bnd (ga ρ) fun b => if b = true then gb ρ else ret false
def bOr (ga gb : Rho → M W Bool) : Rho → M W Bool := fun ρ => bnd (ga ρ) fun b => if b = true then ret true else gb ρ
def bNot (ga : Rho → M W Bool) : Rho → M W Bool := fun ρ => bnd (ga ρ) fun b => ret (!b)
theorem PBw.pb (h : PBw X G E a ga) : PB X G E a ga := ⟨h.run.pt⟩
theorem pbw_and1 (ha : PB X G E a ga) : PBw X G E (.BoolOp .And [a] pos) ga := ⟨pw_and1 ha.run⟩
theorem pbw_or1 (ha : PB X G E a ga) : PBw X G E (.BoolOp .Or [a] pos) ga := ⟨pw_or1 ha.run⟩
theorem pbw_and (ha : PB X G E a ga) (hb : PBw X G E (.BoolOp .And (b :: rest) pos) gb) : PBw X G E (.BoolOp .And (a :: b :: rest) pos) (bAnd ga gb) := ⟨(pw_and ha.run hb.run).imp fun σ H Q => by
  rintro ⟨ρ, w, F, r, w', S, hf, acc⟩
  refine tT.bind (X := X) S hf acc.er fun t w1 H1 F1 S1 s1 hk => ?_
  cases t with
  | true => exact ⟨ρ, w1, F1, r, w', S1, hk, acc.mono s1 S1.dH⟩
  | false =>
    obtain ⟨rfl, rfl⟩ := ret_inv hk
    exact acc H1 F1 S1 s1⟩
theorem pbw_or (ha : PB X G E a ga) (hb : PBw X G E (.BoolOp .Or (b :: rest) pos) gb) : PBw X G E (.BoolOp .Or (a :: b :: rest) pos) (bOr ga gb) := ⟨(pw_or ha.run hb.run).imp fun σ H Q => by
  rintro ⟨ρ, w, F, r, w', S, hf, acc⟩
  refine tT.bind (X := X) S hf acc.er fun t w1 H1 F1 S1 s1 hk => ?_
  cases t with
  | false => exact ⟨ρ, w1, F1, r, w', S1, hk, acc.mono s1 S1.dH⟩
  | true =>
    obtain ⟨rfl, rfl⟩ := ret_inv hk
    exact acc H1 F1 S1 s1⟩
theorem pb_not (ha : PB X G E a ga) : PB X G E (.UnaryOp .Not a pos) (bNot ga) := ⟨(pt_not ha.run).imp fun σ H Q => by
  rintro ⟨ρ, w, F, r, w', S, hf, acc⟩
  refine tT.bind (X := X) S hf acc.er fun t w1 H1 F1 S1 s1 hk => ?_
  obtain ⟨rfl, rfl⟩ := ret_inv hk
  exact acc H1 F1 S1 s1⟩
def fIf (gc : Rho → M W Bool) (fa fb : Rho → M W T) : Rho → M W T := fun ρ => bnd (gc ρ) fun b => if b = true then fa ρ else fb ρ
theorem pv_if (hc : PB X G E c gc) (ha : PV X G E a fa) (hb : PV X G E b fb) : PV X G E (.IfExp c a b pos) (fIf gc fa fb) := ⟨(pe_ifExp hc.run ha.run hb.run).imp fun σ H Q => by
  rintro ⟨ρ, w, F, r, w', S, hf, acc⟩
  refine tT.bind (X := X) S hf acc.er fun t w1 H1 F1 S1 s1 hk => ?_
  cases t with
  | true => exact ⟨ρ, w1, F1, r, w', S1, hk, acc.mono s1 S1.dH⟩
  | false => exact ⟨ρ, w1, F1, r, w', S1, hk, acc.mono s1 S1.dH⟩⟩
theorem pvs_if (hc : PB X G E c gc) (ha : PVs X G E a fa) (hb : PVs X G E b fb) : PVs X G E (.IfExp c a b pos) (fIf gc fa fb) := ⟨(pe_ifExp hc.run ha.run hb.run).imp fun σ H Q => by
  rintro ⟨ρ, w, F, r, w', S, hf, acc⟩
  refine tT.bind (X := X) S hf acc.er fun t w1 H1 F1 S1 s1 hk => ?_
  cases t with
  | true => exact ⟨ρ, w1, F1, r, w', S1, hk, acc.mono s1 S1.dH⟩
  | false => exact ⟨ρ, w1, F1, r, w', S1, hk, acc.mono s1 S1.dH⟩⟩
/-- a < b < c -/
def fChain (g g' : T → T → Option T) (fa fb fc : Rho → M W T) : Rho → M W T := fun ρ => bnd (fa ρ) fun t => bnd (fb ρ) fun u => bnd (lift (g t u)) fun z => bnd (boolM z) fun k => if k = true then bnd (fc ρ) fun v => lift (g' u v) else ret (.bl false)
theorem tChain.of {r r' : R2} {g g' : T → T → Option T} (hg : OpG X G r g) (hg' : OpG X G r' g') : ∀ σ H Q, tV X.K G E (fChain g g' fa fb fc) σ H Q → tChain r r' (tVs X.K G E fa) (tVs X.K G E fb) (tVs X.K G E fc) σ H Q := fun σ H Q => by
  rintro ⟨ρ, w, F, q, w', S, hf, acc⟩
  refine tVs.bind (X := X) S hf acc.er fun t w1 x H1 F1 S1 s1 r1 hk => ?_
  refine tVs.bind (X := X) S1 hk (acc.mono s1 S1.dH).er fun u w2 y H2 F2 S2 s2 r2 hk2 => ?_
  rcases bnd_inv hk2 with ⟨z, w3, h1, h2⟩ | ⟨e, h1, h2⟩
  · obtain ⟨z', hz, e1, rfl⟩ := lift_inv h1
    cases e1
    obtain ⟨k, rfl, h3⟩ := boolM_bnd h2
    refine hg ρ _ σ H2 F2 x y t u _ _ S2 (r1.mono s2.same) r2 hz fun v H3 F3 S3 s3 rv => ?_
    refine ⟨k, rv.bl_inv, ?_⟩
    cases k with
    | false =>
      obtain ⟨rfl, rfl⟩ := ret_inv h3
      exact acc _ H3 F3 S3 ((s1.trans s2 S1.dH).trans s3 S2.dH) (.bl _)
    | true =>
      rw [if_pos rfl] at h3 ⊢
      refine tVs.bind (X := X) S3 h3 (acc.mono ((s1.trans s2 S1.dH).trans s3 S2.dH) S3.dH).er fun c w4 yc H4 F4 S4 s4 r4 hk4 => ?_
      obtain ⟨z2, hz2, rfl, rfl⟩ := lift_inv hk4
      exact hg' ρ _ σ H4 F4 y yc u c z2 Q S4 ((r2.mono s3.same).mono s4.same) r4 hz2 fun v' H' F' S' s' rv' => acc v' H' F' S' ((((s1.trans s2 S1.dH).trans s3 S2.dH).trans s4 S3.dH).trans s' S4.dH) rv'
  · obtain ⟨_, _, h3, _⟩ := lift_inv h1
    cases h3
theorem pv_chain {op op' : CmpOp} {r r' : R2} {g g' : T → T → Option T} (ho : OpR X (compareOp op) r) (ho' : OpR X (compareOp op') r') (hg : OpG X G r g) (hg' : OpG X G r' g') (ha : PVs X G E a fa) (hb : PVs X G E b fb) (hc : PVs X G E c fc)
    (hm : lastMarks [op, op'] [b, c] = false := by with_unfolding_all rfl) : PV X G E (.Compare a [op, op'] [b, c] pos) (fChain g g' fa fb fc) := ⟨(pe_chain ho ho' ha.run hb.run hc.run hm).imp (tChain.of hg hg')⟩
theorem pb_chain {op op' : CmpOp} {r r' : R2} {g g' : T → T → Option T} (ho : OpR X (compareOp op) r) (ho' : OpR X (compareOp op') r') (hg : OpG X G r g) (hg' : OpG X G r' g') (ha : PVs X G E a fa) (hb : PVs X G E b fb) (hc : PVs X G E c fc)
    (hm : lastMarks [op, op'] [b, c] = false := by with_unfolding_all rfl) : PB X G E (.Compare a [op, op'] [b, c] pos) (fB (fChain g g' fa fb fc)) := ⟨(pt_chain ho ho' ha.run hb.run hc.run hm).imp (tTest.of (tChain.of hg hg'))⟩
theorem pb_chain_le_le (ha : PVs X G E a fa) (hb : PVs X G E b fb) (hc : PVs X G E c fc) (hm : lastMarks [.LtE, .LtE] [b, c] = false := by with_unfolding_all rfl) : PB X G E (.Compare a [.LtE, .LtE] [b, c] pos) (fB (fChain (ltT fun i j => decide (i ≤ j)) (ltT fun i j => decide (i ≤ j)) fa fb fc)) := pb_chain op_le op_le cmpG cmpG ha hb hc hm

/-! ### subscripts and slices -/
def ixT : T → T → Option T
  | .lst ts, .int i => atI ts i
  | .tup ts, .int i => atI ts i
  | .str z, .int i => if z.length ≤ sizeLine then (atI z.cps.toList i).map fun c => .str ⟨#[c]⟩ else none
  | _, _ => none
theorem Reps.atI {K : PySem.W.Frag} {F : Hp} {vs : List V} {ts : List T} {i : Int} {t : T} (r : Reps K F vs ts) (h : L2.atI ts i = some t) : ∃ v, L2.atI vs i = some v ∧ Rep K F v t := by
  unfold L2.atI at h ⊢
  rw [r.length]
  cases e : ixN ts.length i with
  | none => rw [e] at h; cases h
  | some j =>
    rw [e] at h
    exact r.get h
theorem Reps.rep_at {K : PySem.W.Frag} {F : Hp} {vs : List V} {ts : List T} {i : Nat} {v : V} {t : T} (r : Reps K F vs ts) (h1 : vs[i]? = some v) (h2 : ts[i]? = some t) : Rep K F v t := by
  obtain ⟨u, e, q⟩ := r.get h2
  rw [h1] at e; cases e; exact q
theorem ixG : OpG X G (rIx X.K) ixT := by
  intro ρ w σ H F x y t u z Q S hx hy hz k
  unfold ixT at hz
  split at hz
  · obtain ⟨a, vs, rfl, hH, r1⟩ := hx.lst S
    obtain ⟨v, h1, h2⟩ := r1.atI hz
    exact .inl ⟨a, vs, _, v, rfl, hy.int, .of hH, h1, k v H F S .refl h2⟩
  · obtain ⟨a, vs, rfl, hF, hH, r1⟩ := hx.tup S
    obtain ⟨v, h1, h2⟩ := r1.atI hz
    exact .inr (.inl ⟨a, vs, _, v, rfl, hy.int, hH, h1, k v H F S .refl h2⟩)
  · split at hz
    · rename_i hl
      simp only [Option.map_eq_some_iff] at hz
      obtain ⟨c, h1, rfl⟩ := hz
      exact .inr (.inr ⟨_, _, c, hx.str, hy.int, hl, h1, k _ H F S .refl (.str _)⟩)
    · cases hz
  · cases hz
theorem pv_ix (ha : PVs X G E a fa) (hb : PVs X G E b fb) (hs : PlainIx b := by intro _ _; rfl) : PV X G E (.Subscript a b pos) (f2 ixT fa fb) := ⟨(pe_ix ix_seq ha.run hb.run hs).imp (tOp.of ixG)⟩
/-- a dict's value -/
def dgetT : T → T → Option T
  | .dct ks ts, .str x => (ks.zip ts |>.find? fun kv => decide (kv.1 = Sum.inr x)).map (·.2)
  | .dct ks ts, .int x => (ks.zip ts |>.find? fun kv => decide (kv.1 = Sum.inl x)).map (·.2)
  | _, _ => none
theorem Reps.valV {K : PySem.W.Frag} {F : Hp} {k : Key} : ∀ {ks : List Key} {vs : List V} {ts : List T}, Reps K F vs ts → ks.length = vs.length →
    ((((ks.zip ts).find? fun kv => decide (kv.1 = k)).map (·.2) = none ∧ L2.valV (ks.zip vs) k = none) ∨ ∃ v t, ((ks.zip ts).find? fun kv => decide (kv.1 = k)).map (·.2) = some t ∧ L2.valV (ks.zip vs) k = some v ∧ Rep K F v t)
  | [], _, _, _, _ => .inl ⟨rfl, rfl⟩
  | _ :: _, _, _, .nil, e => by cases e
  | k' :: ks, _, _, .cons (v := v) (t := t) (vs := vs) (ts := ts) h r, e => by
    unfold L2.valV
    simp only [List.zip_cons_cons, List.find?_cons]
    by_cases hk : k' = k
    · simp only [hk, decide_true]
      exact .inr ⟨v, t, rfl, rfl, h⟩
    · simp only [hk, decide_false]
      have := Reps.valV (k := k) (ks := ks) r (by simpa using e)
      unfold L2.valV at this
      exact this
theorem pv_dget (hu : X.A.units + 1 < cLine) (ha : PVs X G E a fa) (hb : PVs X G E b fb) (hs : NoSl b := by intro _ _; rfl) : PV X G E (.Subscript a b pos) (f2 dgetT fa fb) := ⟨(pe_dget hu ha.run hb.run hs).imp fun σ H Q => by
  rintro ⟨ρ, w, F, q, w', S, hf, acc⟩
  refine tVs.bind (X := X) S hf acc.er fun t w1 x H1 F1 S1 s1 r1 hk => ?_
  refine tVs.bind (X := X) S1 hk (acc.mono s1 S1.dH).er fun u w2 y H2 F2 S2 s2 r2 hk2 => ?_
  obtain ⟨z, hz, rfl, rfl⟩ := lift_inv hk2
  have r1' := r1.mono s2.same
  unfold dgetT at hz
  split at hz
  · rename_i ks ts z'
    obtain ⟨d, vs, rfl, hH, hl, rr⟩ := r1'.dct S2
    obtain rfl := r2.str
    rcases rr.valV (k := Sum.inr z') hl with ⟨e1, e2⟩ | ⟨v, t', e1, e2, rv⟩
    · rw [e1] at hz; cases hz
    · rw [e1] at hz; cases hz
      exact ⟨d, v, rfl, by have : DGet H2 d (kV (Sum.inr z')) (L2.valV (ks.zip vs) (Sum.inr z')) := .inl ⟨_, _, hH, rfl, rfl⟩; rw [e2] at this; exact this, acc v H2 F2 S2 (s1.trans s2 S1.dH) rv⟩
  · rename_i ks ts z'
    obtain ⟨d, vs, rfl, hH, hl, rr⟩ := r1'.dct S2
    obtain rfl := r2.int
    rcases rr.valV (k := Sum.inl z') hl with ⟨e1, e2⟩ | ⟨v, t', e1, e2, rv⟩
    · rw [e1] at hz; cases hz
    · rw [e1] at hz; cases hz
      exact ⟨d, v, rfl, by have : DGet H2 d (kV (Sum.inl z')) (L2.valV (ks.zip vs) (Sum.inl z')) := .inl ⟨_, _, hH, rfl, rfl⟩; rw [e2] at this; exact this, acc v H2 F2 S2 (s1.trans s2 S1.dH) rv⟩
  · cases hz⟩
/-- a part of a slice -/
structure PP (X : Cx) (G : Gm W) (E : XK) (e : Option Expr) (f : Rho → M W (Option Int)) : Prop where
  run : PO X e fun σ H Q => ∃ ρ w F r w', Sd X.K G ρ w σ H F ∧ f ρ w = some (r, w') ∧ match r with
    | .ok o => ∀ H' F', Sd X.K G ρ w' σ H' F' → Gr G H F H' F' → Q o H'
    | .er e => AccE X.K G E F e w'
def fNoPart : Rho → M W (Option Int) := fun _ => ret none
def intM (t : T) : M W Int := match t with
  | .int i => ret i
  | _ => stuck
theorem intM_inv {t : T} {w w' : W} {r : R Int} (h : intM t w = some (r, w')) : ∃ b, t = .int b ∧ r = .ok b ∧ w' = w := by
  cases t <;> first | (cases h; done) | skip
  obtain ⟨rfl, rfl⟩ := ret_inv h
  exact ⟨_, rfl, rfl, rfl⟩
def fPart (f : Rho → M W T) : Rho → M W (Option Int) := fun ρ => bnd (f ρ) fun t => bnd (intM t) fun i => ret (some i)
theorem _root_.L2.PO.imp {e : Option Expr} {t t' : TO} (h : PO X e t) (i : ∀ σ H Q, t' σ H Q → t σ H Q) : PO X e t' := ⟨fun pins s σ H Q I q => h.run pins s σ H Q I (i σ H Q q)⟩
theorem pp_none : PP X G E none fNoPart := ⟨po_none.imp fun σ H Q => by
  rintro ⟨ρ, w, F, r, w', S, hf, acc⟩
  obtain ⟨rfl, rfl⟩ := ret_inv hf
  exact acc H F S .refl⟩
theorem pp_some (ha : PV X G E a fa) : PP X G E (some a) (fPart fa) := ⟨(po_some ha.run).imp fun σ H Q => by
  rintro ⟨ρ, w, F, r, w', S, hf, acc⟩
  refine tV.bind (X := X) S hf (fun e q => by subst q; exact acc) fun t w1 x H1 F1 S1 s1 r1 hk => ?_
  rcases bnd_inv hk with ⟨i, w2, h1, h2⟩ | ⟨e, h1, _⟩
  · obtain ⟨j, rfl, h3, rfl⟩ := intM_inv h1
    cases h3
    obtain ⟨rfl, rfl⟩ := ret_inv h2
    exact ⟨i, r1.int_inv, acc H1 F1 S1 s1⟩
  · obtain ⟨_, _, h3, _⟩ := intM_inv h1
    cases h3⟩
def cutA {α : Type} (xs : List α) (lo hi : Option Int) : List α := (xs.drop (HT.sIx xs.length 0 lo)).take (HT.sIx xs.length xs.length hi - HT.sIx xs.length 0 lo)
def sliceT (lo hi : Option Int) : T → Option T
  | .lst ts => some (.lst (cutA ts lo hi))
  | .tup ts => some (.tup (cutA ts lo hi))
  | .str z => if z.length ≤ sizeLine then some (.str (cutS z lo hi)) else none
  | _ => none
def fSlice (fa : Rho → M W T) (l h : Rho → M W (Option Int)) : Rho → M W T := fun ρ => bnd (fa ρ) fun t => bnd (l ρ) fun lo => bnd (h ρ) fun hi => lift (sliceT lo hi t)
theorem Reps.cut {K : PySem.W.Frag} {F : Hp} {vs : List V} {ts : List T} (r : Reps K F vs ts) (lo hi : Option Int) : Reps K F (cutV vs lo hi) (cutA ts lo hi) := by
  unfold cutV cutA
  rw [r.length]
  exact (r.drop _).take _
theorem cut_whole {α : Type} {xs : List α} {lo hi : Option Int} (h : HT.sIx xs.length 0 lo = 0 ∧ HT.sIx xs.length xs.length hi = xs.length) : cutA xs lo hi = xs := by
  unfold cutA
  rw [h.1, h.2]
  simp
theorem pv_slice {l h : Option Expr} {p2 : Pos} {fl fh : Rho → M W (Option Int)} (ha : PVs X G E a fa) (hl : PP X G E l fl) (hh : PP X G E h fh) : PV X G E (.Subscript a (.Slice l h none p2) pos) (fSlice fa fl fh) :=
  ⟨(pe_slice (SlR.or sl_list (SlR.or sl_tupA sl_str)) ha.run hl.run hh.run).imp fun σ H Q => by
  rintro ⟨ρ, w, F, r, w', S, hf, acc⟩
  refine tVs.bind (X := X) S hf acc.er fun t w1 x H1 F1 S1 s1 r1 hk => ?_
  rcases bnd_inv hk with ⟨lo, w2, h1, hk⟩ | ⟨e, h1, rfl⟩
  case inr => exact ⟨ρ, w1, F1, .er e, w', S1, h1, AccE.mono (X := X) acc s1.same⟩
  refine ⟨ρ, w1, F1, .ok lo, w2, S1, h1, fun H2 F2 S2 s2 => ?_⟩
  rcases bnd_inv hk with ⟨hi, w3, h1, hk⟩ | ⟨e, h1, rfl⟩
  case inr => exact ⟨ρ, w2, F2, .er e, w', S2, h1, AccE.mono (X := X) acc (s1.same.trans s2.same)⟩
  refine ⟨ρ, w2, F2, .ok hi, w3, S2, h1, fun H3 F3 S3 s3 => ?_⟩
  obtain ⟨z, hz, rfl, rfl⟩ := lift_inv hk
  have rr := (r1.mono s2.same).mono s3.same
  have sF := (s1.trans s2 S1.dH).trans s3 S2.dH
  unfold sliceT at hz
  split at hz
  · cases hz
    obtain ⟨d, vs, rfl, hH, rv⟩ := rr.lst S3
    exact .inl ⟨d, vs, rfl, .of hH, fun p hp => acc _ _ _ (S3.laidF hp) (sF.trans (.laidF S3 hp) S3.dH) (.lst upd_same ((rv.cut lo hi).mono (Same.updN (S3.sub.free hp))))⟩
  · cases hz
    obtain ⟨d, vs, rfl, hF, hH, rv⟩ := rr.tup S3
    refine .inr (.inl ⟨d, vs, rfl, hH, fun e => ?_, fun _ p hp => acc _ _ _ (S3.laidF hp) (sF.trans (.laidF S3 hp) S3.dH) (.tup (.of upd_same) ((rv.cut lo hi).mono (Same.updN (S3.sub.free hp))))⟩)
    rw [rv.length] at e
    rw [cut_whole e] at acc
    exact acc _ H3 F3 S3 sF (.tup hF rv)
  · split at hz
    · rename_i hl
      cases hz
      exact .inr (.inr ⟨_, rr.str, hl, acc _ H3 F3 S3 sF (.str _)⟩)
    · cases hz
  · cases hz⟩

/-! ### arguments, displays -/
def aNil : Rho → M W (List T) := fun _ => ret []
def aCons (fa : Rho → M W T) (fr : Rho → M W (List T)) : Rho → M W (List T) := fun ρ => bnd (fa ρ) fun t => bnd (fr ρ) fun ts => ret (t :: ts)
variable {es : List Expr} {fr : Rho → M W (List T)}
theorem pas_nil : PAs X G E [] aNil := ⟨pa_nil.imp fun σ H Q => by
  rintro ⟨ρ, w, F, r, w', S, hf, acc⟩
  obtain ⟨rfl, rfl⟩ := ret_inv hf
  exact acc [] H F S .refl .nil⟩
theorem pas_cons (ha : PV X G E a fa) (hr : PAs X G E es fr) (hs : starEach (a :: es) X.env = (false, eval a X.env) :: starEach es X.env := by rfl) : PAs X G E (a :: es) (aCons fa fr) := ⟨(pa_cons ha.run hr.run hs).imp fun σ H Q => by
  rintro ⟨ρ, w, F, r, w', S, hf, acc⟩
  refine tV.bind (X := X) S hf acc.er fun t w1 x H1 F1 S1 s1 r1 hk => ?_
  refine tA.bind (X := X) S1 hk (acc.mono s1 S1.dH).er fun ts w2 vs H2 F2 S2 s2 r2 hk => ?_
  obtain ⟨rfl, rfl⟩ := ret_inv hk
  exact acc (x :: vs) H2 F2 S2 (s1.trans s2 S1.dH) (.cons (r1.mono s2.same) r2)⟩
def fTup (f : Rho → M W (List T)) : Rho → M W T := fun ρ => bnd (f ρ) fun ts => if ts.length ≤ sizeLine then ret (.tup ts) else stuck
def fLst (f : Rho → M W (List T)) : Rho → M W (List T) := fun ρ => bnd (f ρ) fun ts => if ts.length ≤ sizeLine then ret ts else stuck
theorem pv_tup {x1} (h : PAs X G E es fr) : PV X G E (.Tuple es x1 pos) (fTup fr) := ⟨(pe_tup h.run).imp fun σ H Q => by
  rintro ⟨ρ, w, F, r, w', S, hf, acc⟩
  refine tA.bind (X := X) S hf acc.er fun ts w1 vs H1 F1 S1 s1 r1 hk => ?_
  split at hk
  · rename_i hl
    obtain ⟨rfl, rfl⟩ := ret_inv hk
    exact ⟨by rw [r1.length]; exact hl, fun p hp => acc _ _ _ (S1.laidF hp) (s1.trans (.laidF S1 hp) S1.dH) (.tup (.of upd_same) (r1.mono (Same.updN (S1.sub.free hp))))⟩
  · cases hk⟩
/-- a new list in no slot -/
theorem Sd.noSlot {K : PySem.W.Frag} {ρ : Rho} {w : W} {σ : L2.St} {H F : Hp} {p : Addr} (S : Sd K G ρ w σ H F) (hp : H p = none) : ∀ (i : Nat) (s : Sl), ρ[i]? = some s → s.owns = true → σ[i]? ≠ some (some (V.ref p)) := by
  intro i s hs ho e
  have q := S.slots i s hs
  cases s with
  | un => cases ho
  | fz t => cases ho
  | ow ts => obtain ⟨p', vs, e', h1, _⟩ := q; rw [e] at e'; cases e'; rw [hp] at h1; cases h1
  | od ks ts => obtain ⟨p', vs, e', h1, _⟩ := q; rw [e] at e'; cases e'; rw [hp] at h1; cases h1
theorem pf_lst (h : PAs X G E es fr) : PF X G E (.List es pos) (fLst fr) := ⟨(pe_lst h.run).imp fun σ H Q => by
  rintro ⟨ρ, w, F, r, w', S, hf, acc⟩
  refine tA.bind (X := X) S hf acc.er fun ts w1 vs H1 F1 S1 s1 r1 hk => ?_
  split at hk
  · rename_i hl
    obtain ⟨rfl, rfl⟩ := ret_inv hk
    exact ⟨by rw [r1.length]; exact hl, fun p hp => acc p vs _ F1 (S1.laid hp) (s1.trans (.laid hp) S1.dH) (s1.free0 S1.dH hp) upd_same (S1.sub.free hp) (S1.fresh hp).2.1 (S1.noSlot hp) r1⟩
  · cases hk⟩
end
end PL

/-! PLe: what a def promises, its call; statements; loops. -/
namespace PL
open PySem PySem.Spec PyProof.Rows L2
section
variable {W : Type}

/-! ### a def's promise -/
/-- how a call's result is taken -/
structure Out (O : Wd W) (H F : Hp) (w' : W) (H' F' : Hp) : Prop where
  sub : Same F' H'
  same : Same F F'
  nof : ∀ b, H b ≠ none → F' b = F b
  keep : ∀ b o, H b = some o → ¬ O.D b → H' b = some o
  wok : O.ok H' w'
  dF : ∀ b, O.D b → F' b = none
def AccC (K : PySem.W.Frag) (O : Wd W) (E : XK) (H F : Hp) (Q : VK) (r : R T) (w' : W) : Prop := match r with
  | .ok t => ∀ v H' F', Out O H F w' H' F' → Rep K F' v t → Q v H'
  | .er e => ∀ d H' F', Out O H F w' H' F' → ErAt K H' F' e d → E (.ref e.C) d H'
def spF (K : PySem.W.Frag) (n : Nat) (Fn : List T → M W T) : Sp := fun vs H Q E => ∃ (O : Wd W) (F : Hp) (ts : List T) (w : W) (r : R T) (w' : W), vs.length = n ∧ Same F H ∧ O.ok H w ∧ (∀ b, O.D b → F b = none) ∧ Reps K F vs ts ∧ Fn ts w = some (r, w') ∧ AccC K O E H F Q r w'
theorem spF.len {K : PySem.W.Frag} {n : Nat} {Fn : List T → M W T} : ∀ vs H Q E, spF K n Fn vs H Q E → vs.length = n := fun _ _ _ _ ⟨_, _, _, _, _, _, h, _⟩ => h

/-- as FnOk, where no repr is under way -/
structure FnG (P : Program) (w : World) (K : PySem.W.Frag) (mg : Str → Option Value) (base : Heap) (CX : CXT) (k : Nat) (f : Addr) (fd : FuncData) (ps : List Str) (sp : Sp) : Prop where
  len : ∀ vs H Q E, sp vs H Q E → vs.length = ps.length
  run : ∀ (A : Around) (outer : List PySem.Env) (s : Shared) (H : Hp) (args : Args) (us : List Value) (vs : List V) (Q : VK) (E : XK), Room k A → A.guards = some [] → Env0 P w K mg base A outer s H → BindsTo s fd args (ps.zip us) → Vals vs us → sp vs H Q E →
    codeAny (model P w) A (.call (.ref f) args) (CR CX outer P w H s Q E) s
theorem FnG.of {P : Program} {w : World} {K : PySem.W.Frag} {mg : Str → Option Value} {base : Heap} {CX : CXT} {k : Nat} {f : Addr} {fd : FuncData} {ps : List Str} {sp : Sp} (F : FnOk P w K mg base CX k f fd ps sp) : FnG P w K mg base CX k f fd ps sp :=
  ⟨F.len, fun A outer s H args us vs Q E hr _ => F.run A outer s H args us vs Q E hr⟩
theorem FnG.mono {P : Program} {w : World} {K : PySem.W.Frag} {mg : Str → Option Value} {base : Heap} {CX : CXT} {j k : Nat} {f : Addr} {fd : FuncData} {ps : List Str} {sp : Sp} (F : FnG P w K mg base CX j f fd ps sp) (h : j ≤ k) : FnG P w K mg base CX k f fd ps sp :=
  ⟨F.len, fun A outer s H args us vs Q E hr => F.run A outer s H args us vs Q E (hr.mono h)⟩
/-- a def of the module, by name -/
structure DefOk (CX : CXT) (P : Program) (w : World) (K : PySem.W.Frag) (mg : Str → Option Value) (base : Heap) (k : Nat) (x : Str) (n : Nat) (Fn : List T → M W T) : Prop where
  ex : ∃ f fd ps, FnG P w K mg base CX k f fd ps (spF K n Fn) ∧ mg x = some (.ref f) ∧ PySem.W.keepIn K (.ref f) = true ∧ Binds K fd ps []
/-- behind a call's code -/
theorem FnG.out {X : Cx} {CX : CXT} {pins : List (Addr × Obj)} {σ : L2.St} {H : Hp} {s : Shared} {Q : VK} {E : XK} {A : Around} {c : Code} (hx : Passes CX X E) (I : Inv X pins σ H s) (h : codeAny (model X.prog X.w) A c (CR CX X.stack X.prog X.w H s Q E) s) :
    codeAny (model X.prog X.w) A c (wants (EP X pins σ Q) X.xe) s := codeAny_mono h fun r s' hq => by
  cases r with
  | error e => exact hx pins σ H s e s' I hq
  | ok fl =>
    cases fl with
    | ret u => exact I.after hq
    | next => exact False.elim hq
    | brk => exact False.elim hq
    | cont => exact False.elim hq
theorem run_fnG {X : Cx} {CX : CXT} {k : Nat} {f : Addr} {fd : FuncData} {ps : List Str} {sp : Sp} {E : XK} {pins : List (Addr × Obj)} {σ : L2.St} {H : Hp} {s : Shared} {Q : VK} {us : List Value} {vs : List V} {A : Around} (F : FnG X.prog X.w X.K X.mg X.base CX k f fd ps sp) (hr : Room k A) (hgd : A.guards = some []) (hf : A.frames = X.A.frames)
    (hb : Binds X.K fd ps []) (hx : Passes CX X E) (I : Inv X pins σ H s) (r : Vals vs us) (h : sp vs H Q E) : wpAny (model X.prog X.w) A (call (.ref f) us) (EP X pins σ Q) X.xe s := by
  have hl : us.length = ps.length := by rw [← r.length]; exact F.len _ _ _ _ h
  have hb' := hb s us I.kIn (by simpa using hl)
  rw [List.append_nil] at hb'
  have e := I.env0
  exact wpAny_call (FnG.out hx I (F.run A X.stack s H ⟨us, []⟩ us vs Q E hr hgd ⟨by rw [hf]; exact e.frames, e.mod, e.bs, e.bsz, e.funs, e.frf, e.hok, e.bare⟩ hb' r h))
theorem pe_callG {X : Cx} {CX : CXT} {k : Nat} {f : Addr} {fd : FuncData} {ps : List Str} {sp : Sp} {E : XK} {x : Str} {p pos : Pos} {e : Expr} {es : List Expr} {t : TA} (F : FnG X.prog X.w X.K X.mg X.base CX k f fd ps sp) (hr : Room k X.A) (hgd : X.A.guards = some []) (hg : Gl X x) (hm : X.mg x = some (.ref f)) (hk : PySem.W.keepIn X.K (.ref f) = true) (hb : Binds X.K fd ps []) (hx : Passes CX X E)
    (ha : PA X (e :: es) t) (hdb : (x == ("__debug__" : Str)) = false := by decide) (he : starEach (e :: es) X.env = (false, eval e X.env) :: starEach es X.env := by rfl) (hpl : (backTo pos (starEach es X.env)).any (·.1) = false := by rfl) :
    PE X (.Call (.Name x p) (e :: es) [] pos) (tCall sp [] E t) := by
  refine ⟨fun pins s σ H Q I h => ?_⟩
  refine wpAny_Call_Name_kw (ld_glob I hg hm ?_ hdb)
  refine PySem.W.callWith_K (h₀ := X.base) I.ok.mod.kin hk (thn (ha.run pos pins s σ H _ I h) fun us s1 ⟨vs, H1, I1, r, q⟩ => ⟨I1.kIn, ?_⟩) he hpl
  exact run_fnG F hr hgd rfl hb hx I1 r (by simpa using q)
theorem pe_callG0 {X : Cx} {CX : CXT} {k : Nat} {f : Addr} {fd : FuncData} {ps : List Str} {sp : Sp} {E : XK} {x : Str} {p pos : Pos} (F : FnG X.prog X.w X.K X.mg X.base CX k f fd ps sp) (hr : Room k X.A) (hgd : X.A.guards = some []) (hg : Gl X x) (hm : X.mg x = some (.ref f)) (hk : PySem.W.keepIn X.K (.ref f) = true) (hb : Binds X.K fd ps []) (hx : Passes CX X E)
    (hdb : (x == ("__debug__" : Str)) = false := by decide) : PE X (.Call (.Name x p) [] [] pos) (tCall sp [] E tNil) := by
  refine ⟨fun pins s σ H Q I h => ?_⟩
  refine wpAny_Call_Name_kw (ld_glob I hg hm ?_ hdb)
  exact PySem.W.callWith_K0 I.kIn hk (run_fnG (us := []) F hr hgd rfl hb hx I .nil h)

variable {X : Cx} {G : Gm W} {E : XK} {CX : CXT} {ρ : Rho} {w w' : W} {σ : L2.St} {H F : Hp}
/-- behind a call -/
theorem Out.gr {H' F' : Hp} (o : Out G.O H F w' H' F') : Gr G H F H' F' := ⟨o.same, o.keep, o.nof⟩
theorem Out.sd {H' F' : Hp} (S : Sd X.K G ρ w σ H F) (o : Out G.O H F w' H' F') : Sd X.K G ρ w' σ H' F' := S.grown o.gr o.sub o.wok o.dF
theorem spF.of {n : Nat} {Fn : List T → M W T} {vs : List V} {ts : List T} {r : R T} {Q : VK} (S : Sd X.K G ρ w σ H F) (rs : Reps X.K F vs ts) (hn : ts.length = n) (e : Fn ts w = some (r, w'))
    (ok : ∀ t, r = .ok t → ∀ v H' F', Sd X.K G ρ w' σ H' F' → Gr G H F H' F' → Rep X.K F' v t → Q v H') (er : ∀ e, r = .er e → AccE X.K G E F e w') : spF X.K n Fn vs H Q E := by
  refine ⟨G.O, F, ts, w, r, w', by rw [rs.length]; exact hn, S.sub, S.wok, S.dF, rs, e, ?_⟩
  cases r with
  | ok t => exact fun v H' F' o rv => ok t rfl v H' F' (o.sd S) o.gr rv
  | er e' => exact fun d H' F' o ea => er e' rfl d H' F' ρ σ (o.sd S) o.same ea
def fCall (n : Nat) (fa : Rho → M W (List T)) (Fn : List T → M W T) : Rho → M W T := fun ρ => bnd (fa ρ) fun ts => if ts.length = n then Fn ts else stuck
section
variable {k j n : Nat} {x : Str} {e : Expr} {es : List Expr} {fa : Rho → M W (List T)} {Fn : List T → M W T} {p pos : Pos}
theorem pv_call (D : DefOk CX X.prog X.w X.K X.mg X.base k x n Fn) (hr : Room j X.A) (hgd : X.A.guards = some []) (hk : k ≤ j) (hg : Gl X x) (hx : Passes CX X E) (ha : PAs X G E (e :: es) fa)
    (hdb : (x == ("__debug__" : Str)) = false := by decide) (he : starEach (e :: es) X.env = (false, eval e X.env) :: starEach es X.env := by rfl) (hpl : (backTo pos (starEach es X.env)).any (·.1) = false := by rfl) :
    PV X G E (.Call (.Name x p) (e :: es) [] pos) (fCall n fa Fn) := by
  obtain ⟨f, fd, ps, hF, hm, hkp, hb⟩ := D.ex
  refine ⟨(pe_callG hF (hr.mono hk) hgd hg hm hkp hb hx ha.run hdb he hpl).imp fun σ H Q => ?_⟩
  rintro ⟨ρ, w, F, r, w', S, hf, acc⟩
  refine tA.bind (X := X) S hf acc.er fun ts w1 vs H1 F1 S1 s1 r1 hk => ?_
  split at hk
  · rename_i hl
    rw [List.append_nil]
    exact spF.of S1 r1 hl hk (fun t ht v H' F' S' s' rv => by subst ht; exact acc v H' F' S' (s1.trans s' S1.dH) rv) (acc.mono s1 S1.dH).er
  · cases hk
theorem pv_call0 (D : DefOk CX X.prog X.w X.K X.mg X.base k x 0 Fn) (hr : Room j X.A) (hgd : X.A.guards = some []) (hk : k ≤ j) (hg : Gl X x) (hx : Passes CX X E) (hdb : (x == ("__debug__" : Str)) = false := by decide) :
    PV X G E (.Call (.Name x p) [] [] pos) (fCall 0 aNil Fn) := by
  obtain ⟨f, fd, ps, hF, hm, hkp, hb⟩ := D.ex
  refine ⟨(pe_callG0 hF (hr.mono hk) hgd hg hm hkp hb hx hdb).imp fun σ H Q => ?_⟩
  rintro ⟨ρ, w, F, r, w', S, hf, acc⟩
  exact spF.of S .nil rfl hf (fun t ht v H' F' S' s' rv => by subst ht; exact acc v H' F' S' s' rv) acc.er
end

/-! ### a body -/
/-- what a body gives for its arguments; m: how many names it has besides -/
def run (m : Nat) (g : Rho → M W Fl) : List T → M W T := fun ts => bnd (g (ts.map Sl.fz ++ List.replicate m Sl.un)) fun fl => match fl with
  | .nx _ => ret .non
  | .rt t => ret t
  | _ => stuck
theorem Sd.start {K : PySem.W.Frag} {O : Wd W} {vs : List V} {ts : List T} {N : List Str} (sub : Same F H) (wok : O.ok H w) (dF : ∀ b, O.D b → F b = none) (r : Reps K F vs ts) (hN : ts.length ≤ N.length) :
    Sd K ⟨O, H, F⟩ (ts.map Sl.fz ++ List.replicate (N.length - ts.length) Sl.un) w (L2.start N vs) H F := by
  have slot : ∀ (i : Nat) (s : Sl), (ts.map Sl.fz ++ List.replicate (N.length - ts.length) Sl.un)[i]? = some s → (∃ t, s = .fz t ∧ ts[i]? = some t) ∨ s = .un := by
    intro i s hs
    by_cases hi : i < ts.length
    · rw [List.getElem?_append_left (by simpa using hi), List.getElem?_map] at hs
      cases e : ts[i]? with
      | none => rw [e] at hs; cases hs
      | some t => rw [e] at hs; cases hs; exact .inl ⟨t, rfl, rfl⟩
    · rw [List.getElem?_append_right (by simpa using hi), List.getElem?_replicate] at hs
      split at hs
      · cases hs; exact .inr rfl
      · cases hs
  refine ⟨sub, wok, dF, fun b d => O.live wok d, fun b o e _ => e, Same.refl F, fun _ _ => rfl, fun i s hs => ?_, fun i j s t hs _ ho => ?_, ?_⟩
  · rcases slot i s hs with ⟨t, rfl, ht⟩ | rfl
    · obtain ⟨v, hv, rv⟩ := r.get ht
      refine ⟨v, ?_, rv⟩
      unfold L2.start
      have hi : i < vs.length := (List.getElem?_eq_some_iff.mp hv).1
      rw [List.getElem?_append_left (by simpa using hi), List.getElem?_map, hv]
      rfl
    · trivial
  · rcases slot i s hs with ⟨t, rfl, _⟩ | rfl <;> cases ho
  · unfold L2.start
    simp only [List.length_append, List.length_map, List.length_replicate]
    have := r.length
    omega
/-- the def's body read at its entry -/
theorem spF.body {n m : Nat} {N : List Str} {g : Rho → M W Fl} {vs : List V} {Q : VK} (h : spF X.K n (run m g) vs H Q E) (hN : N.length = n + m) :
    ∃ (G : Gm W), tS X.K G E g { nx := fun _ H' => Q .non H', rt := Q } (L2.start N vs) H := by
  obtain ⟨O, F, ts, w, r, w', hl, sub, wok, dF, rs, e, acc⟩ := h
  have hts : ts.length = n := by rw [← rs.length]; exact hl
  have S := Sd.start (K := X.K) (N := N) sub wok dF rs (by omega)
  have hm : N.length - ts.length = m := by omega
  rw [hm] at S
  refine ⟨⟨O, H, F⟩, ts.map Sl.fz ++ List.replicate m Sl.un, w, F, ?_⟩
  have out : ∀ {ρ' : Rho} {σ' : L2.St} {H' F' : Hp} {w' : W}, Sd X.K ⟨O, H, F⟩ ρ' w' σ' H' F' → Same F F' → Out O H F w' H' F' := fun S' s' => ⟨S'.sub, s', S'.old, S'.keep, S'.wok, S'.dF⟩
  rcases bnd_inv e with ⟨fl, w1, h1, h2⟩ | ⟨er, h1, rfl⟩
  · refine ⟨.ok fl, w1, S, h1, ?_⟩
    cases fl with
    | nx ρ' =>
      obtain ⟨rfl, rfl⟩ := ret_inv h2
      exact fun σ' H' F' S' s' => acc _ H' F' (out S' s') .non
    | rt t =>
      obtain ⟨rfl, rfl⟩ := ret_inv h2
      exact fun v ρ' σ' H' F' S' s' rv => acc v H' F' (out S' s') rv
    | bk ρ' => cases h2
    | ct ρ' => cases h2
  · exact ⟨.er er, w', S, h1, fun d H' F' ρ' σ' S' s' ea => acc d H' F' (out S' s') ea⟩

/-! ### statements -/
def seqD (g h : Rho → M W Fl) : Rho → M W Fl := fun ρ => bnd (g ρ) fun fl => match fl with
  | .nx ρ' => h ρ'
  | o => ret o
variable {st : Stmt} {sts : List Stmt} {g h : Rho → M W Fl} {pos : Pos}
theorem pds_nil : PDs X G E [] fun ρ => ret (.nx ρ) := ⟨pss_nil.imp fun D σ H => by
  rintro ⟨ρ, w, F, r, w', S, hf, acc⟩
  obtain ⟨rfl, rfl⟩ := ret_inv hf
  exact acc σ H F S (Same.refl F)⟩
theorem pds_one (h1 : PD X G E st g) : PDs X G E [st] g := ⟨pss_one h1.run⟩
theorem tS.seq {D : Ends} : tS X.K G E (seqD g h) D σ H → tS X.K G E g { D with nx := tS X.K G E h D } σ H := by
  rintro ⟨ρ, w, F, r, w', S, hf, acc⟩
  rcases bnd_inv hf with ⟨fl, w1, h1, h2⟩ | ⟨er, h1, rfl⟩
  · refine ⟨ρ, w, F, .ok fl, w1, S, h1, ?_⟩
    cases fl with
    | nx ρ' => exact fun σ' H' F' S' s' => ⟨ρ', w1, F', r, w', S', h2, AccD.mono (X := X) acc s'⟩
    | rt t => obtain ⟨rfl, rfl⟩ := ret_inv h2; exact acc
    | bk ρ' => obtain ⟨rfl, rfl⟩ := ret_inv h2; exact acc
    | ct ρ' => obtain ⟨rfl, rfl⟩ := ret_inv h2; exact acc
  · exact ⟨ρ, w, F, .er er, w', S, h1, acc⟩
theorem pds_cons (h1 : PD X G E st g) (h2 : PDs X G E sts h) : PDs X G E (st :: sts) (seqD g h) := ⟨(pss_cons h1.run h2.run).imp fun D σ H q => tS.seq q⟩
/-- code that is not come to -/
theorem pd_never : PD X G E st fun _ => stuck := ⟨ps_never.imp fun D σ H => by
  rintro ⟨ρ, w, F, r, w', S, hf, acc⟩
  cases hf⟩
theorem pds_never : PDs X G E sts fun _ => stuck := ⟨pss_never.imp fun D σ H => by
  rintro ⟨ρ, w, F, r, w', S, hf, acc⟩
  cases hf⟩
theorem pd_pass : PD X G E (.Pass pos) fun ρ => ret (.nx ρ) := ⟨ps_pass.imp fun D σ H => by
  rintro ⟨ρ, w, F, r, w', S, hf, acc⟩
  obtain ⟨rfl, rfl⟩ := ret_inv hf
  exact acc σ H F S (Same.refl F)⟩
theorem pd_break : PD X G E (.Break pos) fun ρ => ret (.bk ρ) := ⟨ps_break.imp fun D σ H => by
  rintro ⟨ρ, w, F, r, w', S, hf, acc⟩
  obtain ⟨rfl, rfl⟩ := ret_inv hf
  exact acc σ H F S (Same.refl F)⟩
theorem pd_continue : PD X G E (.Continue pos) fun ρ => ret (.ct ρ) := ⟨ps_continue.imp fun D σ H => by
  rintro ⟨ρ, w, F, r, w', S, hf, acc⟩
  obtain ⟨rfl, rfl⟩ := ret_inv hf
  exact acc σ H F S (Same.refl F)⟩
section
variable {e c : Expr} {fa : Rho → M W T} {gc : Rho → M W Bool} {sa sb : List Stmt}
def dRet (fa : Rho → M W T) : Rho → M W Fl := fun ρ => bnd (fa ρ) fun t => ret (.rt t)
theorem pd_ret (ha : PV X G E e fa) : PD X G E (.Return (some e) pos) (dRet fa) := ⟨(ps_ret ha.run).imp fun D σ H => by
  rintro ⟨ρ, w, F, r, w', S, hf, acc⟩
  refine tV.bind (X := X) S hf acc.er fun t w1 x H1 F1 S1 s1 r1 hk => ?_
  obtain ⟨rfl, rfl⟩ := ret_inv hk
  exact acc x ρ σ H1 F1 S1 s1.same r1⟩
theorem pd_retN : PD X G E (.Return none pos) fun _ => ret (.rt .non) := ⟨ps_retN.imp fun D σ H => by
  rintro ⟨ρ, w, F, r, w', S, hf, acc⟩
  obtain ⟨rfl, rfl⟩ := ret_inv hf
  exact acc .non ρ σ H F S (Same.refl F) .non⟩
def dExpr (fa : Rho → M W T) : Rho → M W Fl := fun ρ => bnd (fa ρ) fun _ => ret (.nx ρ)
theorem pd_expr (ha : PV X G E e fa) (hs : swapsWith e none pos.line X.env = pure false := by rfl) : PD X G E (.Expr e pos) (dExpr fa) := ⟨(ps_expr ha.run hs).imp fun D σ H => by
  rintro ⟨ρ, w, F, r, w', S, hf, acc⟩
  refine tV.bind (X := X) S hf acc.er fun t w1 x H1 F1 S1 s1 r1 hk => ?_
  obtain ⟨rfl, rfl⟩ := ret_inv hk
  exact acc σ H1 F1 S1 s1.same⟩
def dIf (gc : Rho → M W Bool) (g h : Rho → M W Fl) : Rho → M W Fl := fun ρ => bnd (gc ρ) fun b => if b = true then g ρ else h ρ
theorem pd_if (hc : PB X G E c gc) (ha : PDs X G E sa g) (hb : PDs X G E sb h) : PD X G E (.If c sa sb pos) (dIf gc g h) := ⟨(ps_if hc.run ha.run hb.run).imp fun D σ H => by
  rintro ⟨ρ, w, F, r, w', S, hf, acc⟩
  refine tT.bind (X := X) S hf acc.er fun b w1 H1 F1 S1 s1 hk => ?_
  cases b with
  | true => exact ⟨ρ, w1, F1, r, w', S1, hk, AccD.mono (X := X) acc s1.same⟩
  | false => exact ⟨ρ, w1, F1, r, w', S1, hk, AccD.mono (X := X) acc s1.same⟩⟩
end
end
end PL

/-! PLf: stores, lists of the body's own, loops, comprehensions. -/
namespace PL
open PySem PySem.Spec PyProof.Rows L2
section
variable {W : Type} {X : Cx} {G : Gm W} {E : XK} {ρ : Rho} {w w' : W} {σ : L2.St} {H F : Hp}

/-- what can be stored in a slot -/
def Rdy (K : PySem.W.Frag) (G : Gm W) (ρ : Rho) (σ : L2.St) (H F : Hp) (v : V) : Sl → Prop
  | .un => False
  | .fz t => Rep K F v t
  | .ow ts => ∃ p vs, v = .ref p ∧ H p = some (.lst vs) ∧ F p = none ∧ G.B p = none ∧ (∀ (i : Nat) (s : Sl), ρ[i]? = some s → s.owns = true → σ[i]? ≠ some (some (V.ref p))) ∧ Reps K F vs ts
  | .od ks ts => ∃ p vs, v = .ref p ∧ H p = some (.dK (ks.zip vs)) ∧ ks.length = vs.length ∧ F p = none ∧ G.B p = none ∧ (∀ (i : Nat) (s : Sl), ρ[i]? = some s → s.owns = true → σ[i]? ≠ some (some (V.ref p))) ∧ Reps K F vs ts
theorem Sd.ndB {K : PySem.W.Frag} (S : Sd K G ρ w σ H F) {p : Addr} (h : G.B p = none) : ¬ G.O.D p := fun d => S.dB p d h
theorem Rdy.later {K : PySem.W.Frag} {v : V} {s : Sl} {H' F' : Hp} (S : Sd K G ρ w σ H F) (g : Gr G H F H' F') (h : Rdy K G ρ σ H F v s) : Rdy K G ρ σ H' F' v s := by
  cases s with
  | un => exact h
  | fz t => exact Rep.mono g.same h
  | ow ts =>
    obtain ⟨p, vs, e, h1, h2, h3, h4, r⟩ := h
    exact ⟨p, vs, e, g.keep p _ h1 (S.ndB h3), by rw [g.nof p (by rw [h1]; simp)]; exact h2, h3, h4, r.mono g.same⟩
  | od ks ts =>
    obtain ⟨p, vs, e, h1, hl, h2, h3, h4, r⟩ := h
    exact ⟨p, vs, e, g.keep p _ h1 (S.ndB h3), hl, by rw [g.nof p (by rw [h1]; simp)]; exact h2, h3, h4, r.mono g.same⟩
theorem getElem?_set' {α : Type} {l : List α} {i j : Nat} {x y : α} (h : (l.set i x)[j]? = some y) : (i = j ∧ y = x) ∨ (i ≠ j ∧ l[j]? = some y) := by
  by_cases e : i = j
  · subst e
    by_cases hi : i < l.length
    · rw [List.getElem?_set_self hi] at h; cases h; exact .inl ⟨rfl, rfl⟩
    · rw [List.getElem?_eq_none (by simpa using hi)] at h; cases h
  · rw [List.getElem?_set_ne e] at h; exact .inr ⟨e, h⟩
theorem Sd.set {K : PySem.W.Frag} {v : V} {s : Sl} (S : Sd K G ρ w σ H F) (h : Rdy K G ρ σ H F v s) (i : Nat) : Sd K G (ρ.set i s) w (σ.set i (some v)) H F := by
  have own : ∀ (p : Addr), s.owns = true → v = .ref p → ∀ (j : Nat) (t : Sl), ρ[j]? = some t → t.owns = true → σ[j]? ≠ some (some (V.ref p)) := by
    intro p ho e j t hj hto
    cases s with
    | un => cases ho
    | fz t => cases ho
    | ow ts => obtain ⟨q, vs, e2, _, _, _, h4, _⟩ := h; rw [e] at e2; cases e2; exact h4 j t hj hto
    | od ks ts => obtain ⟨q, vs, e2, _, _, _, _, h4, _⟩ := h; rw [e] at e2; cases e2; exact h4 j t hj hto
  have isref : s.owns = true → ∃ p, v = .ref p := by
    intro ho
    cases s with
    | un => cases ho
    | fz t => cases ho
    | ow ts => obtain ⟨q, _, e2, _⟩ := h; exact ⟨q, e2⟩
    | od ks ts => obtain ⟨q, _, e2, _⟩ := h; exact ⟨q, e2⟩
  refine ⟨S.sub, S.wok, S.dF, S.dB, S.keep, S.grow, S.old, fun j t hj => ?_, fun j k t u hj hk ht hu e => ?_, by simp [S.len]⟩
  · rcases getElem?_set' hj with ⟨rfl, rfl⟩ | ⟨ne, hj⟩
    · have hi : i < σ.length := by
        rw [S.len]
        have := (List.getElem?_eq_some_iff.mp hj).1
        simpa using this
      have hs : (σ.set i (some v))[i]? = some (some v) := List.getElem?_set_self hi
      cases t with
      | un => trivial
      | fz t => exact ⟨v, hs, h⟩
      | ow ts => obtain ⟨p, vs, rfl, h1, h2, h3, _, r⟩ := h; exact ⟨p, vs, hs, h1, h2, h3, r⟩
      | od ks ts => obtain ⟨p, vs, rfl, h1, hl, h2, h3, _, r⟩ := h; exact ⟨p, vs, hs, h1, hl, h2, h3, r⟩
    · have q := S.slots j t hj
      have hs : (σ.set i (some v))[j]? = σ[j]? := List.getElem?_set_ne ne
      cases t with
      | un => trivial
      | fz t => obtain ⟨v', e, r⟩ := q; exact ⟨v', by rw [hs]; exact e, r⟩
      | ow ts => obtain ⟨p, vs, e, r⟩ := q; exact ⟨p, vs, by rw [hs]; exact e, r⟩
      | od ks ts => obtain ⟨p, vs, e, r⟩ := q; exact ⟨p, vs, by rw [hs]; exact e, r⟩
  · have hlen : ∀ {k : Nat} {u : Sl}, ρ[k]? = some u → k < σ.length := fun {k u} z => by rw [S.len]; exact (List.getElem?_eq_some_iff.mp z).1
    rcases getElem?_set' hj with ⟨rfl, rfl⟩ | ⟨nj, hj2⟩ <;> rcases getElem?_set' hk with ⟨rfl, rfl⟩ | ⟨nk, hk2⟩
    · rfl
    · exfalso
      have hi : i < σ.length := by
        rw [S.len]
        have := (List.getElem?_eq_some_iff.mp ‹(ρ.set i t)[i]? = some t›).1
        simpa using this
      rw [List.getElem?_set_self hi, List.getElem?_set_ne nk] at e
      obtain ⟨p, rfl⟩ := isref ht
      exact own p ht rfl k u hk2 hu e.symm
    · exfalso
      have hi : i < σ.length := by
        rw [S.len]
        have := (List.getElem?_eq_some_iff.mp ‹(ρ.set i u)[i]? = some u›).1
        simpa using this
      rw [List.getElem?_set_self hi, List.getElem?_set_ne nj] at e
      obtain ⟨p, rfl⟩ := isref hu
      exact own p hu rfl j t hj2 ht e
    · rw [List.getElem?_set_ne nj, List.getElem?_set_ne nk] at e
      exact S.apart j k t u hj2 hk2 ht hu e

/-! ### what is stored -/
def AccX (K : PySem.W.Frag) (G : Gm W) (E : XK) (ρ : Rho) (σ : L2.St) (H F : Hp) (Q : VK) (r : R Sl) (w' : W) : Prop := match r with
  | .ok s => ∀ v H' F', Sd K G ρ w' σ H' F' → Gr G H F H' F' → (∀ p, s.owns = true → v = .ref p → H p = none) → Rdy K G ρ σ H' F' v s → Q v H'
  | .er e => AccE K G E F e w'
def tX (K : PySem.W.Frag) (G : Gm W) (E : XK) (f : Rho → M W Sl) : TE := fun σ H Q => ∃ ρ w F r w', Sd K G ρ w σ H F ∧ f ρ w = some (r, w') ∧ AccX K G E ρ σ H F Q r w'
structure PX (X : Cx) (G : Gm W) (E : XK) (e : Expr) (f : Rho → M W Sl) : Prop where
  run : PE X e (tX X.K G E f)
theorem AccX.er {Q : VK} {r : R Sl} (h : AccX X.K G E ρ σ H F Q r w') : ∀ e, r = .er e → AccE X.K G E F e w' := fun e q => by subst q; exact h
theorem tX.bind {β : Type} {f : Rho → M W Sl} {k : Sl → M W β} {r : R β} {Q : VK} (S : Sd X.K G ρ w σ H F) (e : bnd (f ρ) k w = some (r, w'))
    (er : ∀ e, r = .er e → AccE X.K G E F e w')
    (kk : ∀ s w1 v H1 F1, Sd X.K G ρ w1 σ H1 F1 → Gr G H F H1 F1 → (∀ p, s.owns = true → v = .ref p → H p = none) → Rdy X.K G ρ σ H1 F1 v s → k s w1 = some (r, w') → Q v H1) : tX X.K G E f σ H Q := by
  rcases bnd_inv e with ⟨a, w1, h1, h2⟩ | ⟨e', h1, rfl⟩
  · exact ⟨ρ, w, F, .ok a, w1, S, h1, fun v H1 F1 S1 s1 r1 r2 => kk a w1 v H1 F1 S1 s1 r1 r2 h2⟩
  · exact ⟨ρ, w, F, .er e', w', S, h1, er e' rfl⟩
section
variable {e : Expr} {fa : Rho → M W T} {fl : Rho → M W (List T)} {fx fy fz' : Rho → M W Sl} {pos : Pos}
def xFz (fa : Rho → M W T) : Rho → M W Sl := fun ρ => bnd (fa ρ) fun t => ret (.fz t)
def xOw (fl : Rho → M W (List T)) : Rho → M W Sl := fun ρ => bnd (fl ρ) fun ts => ret (.ow ts)
def xOd : Rho → M W Sl := fun _ => ret (.od [] [])
theorem px_fz (h : PV X G E e fa) : PX X G E e (xFz fa) := ⟨h.run.imp fun σ H Q => by
  rintro ⟨ρ, w, F, r, w', S, hf, acc⟩
  refine tV.bind (X := X) S hf acc.er fun t w1 x H1 F1 S1 s1 r1 hk => ?_
  obtain ⟨rfl, rfl⟩ := ret_inv hk
  exact acc x H1 F1 S1 s1 (fun _ z => nomatch z) r1⟩
theorem px_ow (h : PF X G E e fl) : PX X G E e (xOw fl) := ⟨h.run.imp fun σ H Q => by
  rintro ⟨ρ, w, F, r, w', S, hf, acc⟩
  refine tF.bind (X := X) S hf acc.er fun ts w1 p vs H1 F1 S1 s1 h0 h1 h2 h3 h4 h5 hk => ?_
  obtain ⟨rfl, rfl⟩ := ret_inv hk
  exact acc (.ref p) H1 F1 S1 s1 (fun q _ z => by cases z; exact h0) ⟨p, vs, rfl, h1, h2, h3, h4, h5⟩⟩
theorem px_od : PX X G E (.Dict [] [] pos) xOd := ⟨pe_dnewK.imp fun σ H Q => by
  rintro ⟨ρ, w, F, r, w', S, hf, acc⟩
  obtain ⟨rfl, rfl⟩ := ret_inv hf
  intro p hp
  refine acc (.ref p) _ F (S.laid hp) (.laid hp) (fun q _ z => by cases z; exact hp) ⟨p, [], rfl, upd_same, rfl, S.sub.free hp, (S.fresh hp).2.1, S.noSlot hp, .nil⟩⟩
def dSet (i : Nat) (fx : Rho → M W Sl) : Rho → M W Fl := fun ρ => bnd (fx ρ) fun s => ret (.nx (ρ.set i s))
theorem pd_set (i : Nat) {x : Str} {pos' : Pos} (he : PX X G E e fx) (hN : X.N.Nodup) (hi : X.N[i]? = some x) (hx : Loc X.env.scope x) (hs : swapsWith e (some (.Name x pos')) pos.line X.env = pure false := by rfl)
    (hf : X.fn x = true ∨ X.env.scope.names.lookup x = some .local := by first | exact .inl rfl | exact .inr rfl | assumption) : PD X G E (.Assign [.Name x pos'] e pos) (dSet i fx) := ⟨(ps_set hN hi hx he.run hs hf).imp fun D σ H => by
  rintro ⟨ρ, w, F, r, w', S, hf, acc⟩
  refine tX.bind (X := X) S hf acc.er fun s w1 v H1 F1 S1 s1 r0 r1 hk => ?_
  obtain ⟨rfl, rfl⟩ := ret_inv hk
  exact acc _ H1 F1 (S1.set r1 i) s1.same⟩
/-- a, b = x, y -/
def dPar (i j : Nat) (fx fy : Rho → M W Sl) : Rho → M W Fl := fun ρ => bnd (fx ρ) fun s => bnd (fy ρ) fun t => ret (.nx ((ρ.set i s).set j t))
theorem Rdy.behind {K : PySem.W.Frag} {v u : V} {s t : Sl} {i : Nat} (S : Sd K G ρ w σ H F) (h : Rdy K G ρ σ H F u t) (apart : ∀ p, t.owns = true → s.owns = true → u = .ref p → v ≠ .ref p) : Rdy K G (ρ.set i s) (σ.set i (some v)) H F u t := by
  have key : ∀ p, t.owns = true → u = .ref p → (∀ (k : Nat) (z : Sl), ρ[k]? = some z → z.owns = true → σ[k]? ≠ some (some (V.ref p))) → ∀ (k : Nat) (z : Sl), (ρ.set i s)[k]? = some z → z.owns = true → (σ.set i (some v))[k]? ≠ some (some (V.ref p)) := by
    intro p ht hu old k z hk hz e
    rcases getElem?_set' hk with ⟨rfl, rfl⟩ | ⟨ne, hk⟩
    · have hi : i < σ.length := by
        rw [S.len]
        have := (List.getElem?_eq_some_iff.mp hk).1
        simpa using this
      rw [List.getElem?_set_self hi] at e
      cases e
      exact apart p ht hz hu rfl
    · rw [List.getElem?_set_ne ne] at e
      exact old k z hk hz e
  cases t with
  | un => exact h
  | fz t => exact h
  | ow ts =>
    obtain ⟨p, vs, e, h1, h2, h3, h4, r⟩ := h
    exact ⟨p, vs, e, h1, h2, h3, key p rfl e h4, r⟩
  | od ks ts =>
    obtain ⟨p, vs, e, h1, hl, h2, h3, h4, r⟩ := h
    exact ⟨p, vs, e, h1, hl, h2, h3, key p rfl e h4, r⟩
theorem Rdy.there {K : PySem.W.Frag} {v : V} {s : Sl} {p : Addr} (h : Rdy K G ρ σ H F v s) (ho : s.owns = true) (e : v = .ref p) : H p ≠ none := by
  cases s with
  | un => cases ho
  | fz t => cases ho
  | ow ts => obtain ⟨q, vs, e2, h1, _⟩ := h; rw [e] at e2; cases e2; rw [h1]; simp
  | od ks ts => obtain ⟨q, vs, e2, h1, _⟩ := h; rw [e] at e2; cases e2; rw [h1]; simp
theorem pd_par (i j : Nat) {x y : Str} {a b : Expr} {px py pt : Pos} {kt k2 pt2} (ha : PX X G E a fx) (hb : PX X G E b fy) (hc : X.calm = true) (hN : X.N.Nodup) (hi : X.N[i]? = some x) (hj : X.N[j]? = some y) (hij : i ≠ j)
    (hx : X.env.scope.names.lookup x = some .local) (hy : X.env.scope.names.lookup y = some .local)
    (hw : swappedStores [.Tuple [.Name x px, .Name y py] kt pt] (.Tuple [a, b] k2 pt2) X.env = pure (some [x, y]))
    (hs : swapsWithSole [.Tuple [.Name x px, .Name y py] kt pt] (.Tuple [a, b] k2 pt2) pos.line X.env = pure false := by rfl)
    (h1 : starEach [a, b] X.env = (false, eval a X.env) :: starEach [b] X.env := by rfl) (h2 : starEach [b] X.env = (false, eval b X.env) :: starEach [] X.env := by rfl) :
    PD X G E (.Assign [.Tuple [.Name x px, .Name y py] kt pt] (.Tuple [a, b] k2 pt2) pos) (dPar i j fx fy) := ⟨(ps_par hc hN hi hj hij hx hy (pa_cons ha.run (pa_cons hb.run pa_nil h2) h1) hw hs).imp fun D σ H => by
  rintro ⟨ρ, w, F, r, w', S, hf, acc⟩
  refine tX.bind (X := X) S hf acc.er fun s w1 v H1 F1 S1 s1 n1 r1 hk => ?_
  refine tX.bind (X := X) S1 hk (AccD.mono (X := X) acc s1.same).er fun t w2 u H2 F2 S2 s2 n2 r2 hk2 => ?_
  obtain ⟨rfl, rfl⟩ := ret_inv hk2
  refine ⟨v, u, rfl, acc _ H2 F2 ?_ (s1.same.trans s2.same)⟩
  have r1' := r1.later S1 s2
  refine (S2.set r1' i).set (Rdy.behind S2 r2 fun p ht hso hu hv => ?_) j
  exact r1.there hso hv (n2 p ht hu)⟩
end

/-! ### a list of the body's own, changed -/
theorem Sd.putL {K : PySem.W.Frag} {i : Nat} {ts us : List T} {p : Addr} {vs zs : List V} (S : Sd K G ρ w σ H F) (hi : ρ[i]? = some (.ow ts)) (hv : σ[i]? = some (some (.ref p))) (hp : H p = some (.lst vs)) (r : Reps K F zs us) :
    Sd K G (ρ.set i (.ow us)) w σ (upd H p (.lst zs)) F := by
  obtain ⟨p', vs', e', h1, h2, h3, _⟩ := S.slots i _ hi
  rw [hv] at e'; cases e'
  have nd := S.ndB h3
  have ne : ∀ b o, F b = some o → b ≠ p := fun b o e z => by subst z; rw [h2] at e; cases e
  have hil : i < ρ.length := (List.getElem?_eq_some_iff.mp hi).1
  refine ⟨fun b o e => by rw [upd_ne (ne b o e)]; exact S.sub b o e, G.O.stay S.wok (fun b db => upd_ne (neq_of nd db)) (fun b f e => upd_ne fun z => by rw [z, hp] at e; cases e), S.dF, S.dB, fun b o e d => ?_, S.grow, S.old, fun j s hj => ?_, fun j k s t hj hk hs ht e => ?_, by simp [S.len]⟩
  · rw [upd_ne (fun z => by subst z; rw [h3] at e; cases e)]; exact S.keep b o e d
  · rcases getElem?_set' hj with ⟨rfl, rfl⟩ | ⟨nj, hj⟩
    · exact ⟨p, zs, hv, upd_same, h2, h3, r⟩
    · have q := S.slots j s hj
      have np : ∀ p', s.owns = true → σ[j]? = some (some (.ref p')) → p' ≠ p := fun p' ho e z => by
        subst z
        exact nj (S.apart i j _ s hi hj rfl ho (by rw [hv, e]))
      cases s with
      | un => trivial
      | fz t => exact q
      | ow ts' =>
        obtain ⟨p', vs', e, q1, q2⟩ := q
        exact ⟨p', vs', e, by rw [upd_ne (np p' rfl e)]; exact q1, q2⟩
      | od ks' ts' =>
        obtain ⟨p', vs', e, q1, q2⟩ := q
        exact ⟨p', vs', e, by rw [upd_ne (np p' rfl e)]; exact q1, q2⟩
  · have old : ∀ {j : Nat} {s : Sl}, (ρ.set i (.ow us))[j]? = some s → s.owns = true → ∃ s', ρ[j]? = some s' ∧ s'.owns = true := fun {j s} hj hs => by
      rcases getElem?_set' hj with ⟨rfl, rfl⟩ | ⟨_, hj⟩
      · exact ⟨_, hi, rfl⟩
      · exact ⟨s, hj, hs⟩
    obtain ⟨s', a1, a2⟩ := old hj hs
    obtain ⟨t', b1, b2⟩ := old hk ht
    exact S.apart j k s' t' a1 b1 a2 b2 e
def owM {β : Type} (i : Nat) (ρ : Rho) (k : List T → M W β) : M W β := match ρ[i]? with
  | some (.ow ts) => k ts
  | _ => stuck
theorem owM_inv {β : Type} {i : Nat} {k : List T → M W β} {r : R β} (h : owM i ρ k w = some (r, w')) : ∃ ts, ρ[i]? = some (.ow ts) ∧ k ts w = some (r, w') := by
  unfold owM at h
  cases e : ρ[i]? with
  | none => rw [e] at h; cases h
  | some s =>
    rw [e] at h
    cases s with
    | ow ts => exact ⟨ts, rfl, h⟩
    | un => cases h
    | fz t => cases h
    | od ks ts => cases h
theorem Sd.own {K : PySem.W.Frag} {i : Nat} {ts : List T} (S : Sd K G ρ w σ H F) (h : ρ[i]? = some (.ow ts)) : ∃ p vs, σ[i]? = some (some (.ref p)) ∧ H p = some (.lst vs) ∧ F p = none ∧ G.B p = none ∧ Reps K F vs ts := S.slots i _ h
section
variable {e : Expr} {fa : Rho → M W T} {pos : Pos}
/-- x.append(e) -/
def dAppend (i : Nat) (fa : Rho → M W T) : Rho → M W Fl := fun ρ => owM i ρ fun ts => bnd (fa ρ) fun t => if ts.length < sizeLine then ret (.nx (ρ.set i (.ow (ts ++ [t])))) else stuck
theorem pd_append (i : Nat) {x : Str} {px ap cp : Pos} (ha : PV X G E e fa) (hN : X.N[i]? = some x) (hv : Vis X.env.scope x)
    (hs : swapsWith (.Call (.Attribute (.Name x px) "append" ap) [e] [] cp) none pos.line X.env = pure false := by rfl) (hst : starEach [e] X.env = (false, eval e X.env) :: starEach [] X.env := by rfl)
    (hpe : ∀ {te : TE}, PE X e te → PE X (.Call (.Attribute (.Name x px) "append" ap) [e] [] cp) (tBM X.K "list" rAppend (tVar i) (tCons te tNil))) :
    PD X G E (.Expr (.Call (.Attribute (.Name x px) "append" ap) [e] [] cp) pos) (dAppend i fa) := ⟨(ps_expr (hpe ha.run) hs).imp fun D σ H => by
  rintro ⟨ρ, w, F, r, w', S, hf, acc⟩
  obtain ⟨ts, hi, hf⟩ := owM_inv hf
  obtain ⟨p, vs, h0, h1, h2, h3, rv⟩ := S.own hi
  refine ⟨.ref p, h0, .inl ⟨rfl, vs, .of h1⟩, ?_⟩
  refine tV.bind (X := X) S hf acc.er fun t w1 y H1 F1 S1 s1 r1 hk => ?_
  split at hk
  · rename_i hl
    obtain ⟨rfl, rfl⟩ := ret_inv hk
    have h1' : H1 p = some (.lst vs) := s1.keep p _ h1 (S.ndB h3)
    exact ⟨p, vs, y, rfl, rfl, h1', by rw [rv.length]; exact hl, acc _ _ F1 (S1.putL hi h0 h1' ((rv.mono s1.same).append (.one r1))) s1.same⟩
  · cases hk⟩
/-- x.extend(e) -/
def lstM (t : T) : M W (List T) := match t with
  | .lst ts => ret ts
  | _ => stuck
theorem lstM_bnd {β : Type} {t : T} {k : List T → M W β} {r : R β} (h : bnd (lstM t) k w = some (r, w')) : ∃ ts, t = .lst ts ∧ k ts w = some (r, w') := by
  cases t with
  | lst ts => exact ⟨ts, rfl, h⟩
  | _ => cases h
def dExtend (i : Nat) (fa : Rho → M W T) : Rho → M W Fl := fun ρ => owM i ρ fun ts => bnd (fa ρ) fun t => bnd (lstM t) fun us => if ts.length + us.length ≤ sizeLine then ret (.nx (ρ.set i (.ow (ts ++ us)))) else stuck
theorem pd_extend (i : Nat) {x : Str} {px ap cp : Pos} (ha : PVs X G E e fa) (hN : X.N[i]? = some x) (hv : Vis X.env.scope x)
    (hs : swapsWith (.Call (.Attribute (.Name x px) "extend" ap) [e] [] cp) none pos.line X.env = pure false := by rfl) (hst : starEach [e] X.env = (false, eval e X.env) :: starEach [] X.env := by rfl)
    (hpe : ∀ {te : TE}, PE X e te → PE X (.Call (.Attribute (.Name x px) "extend" ap) [e] [] cp) (tBM X.K "list" rExtend (tVar i) (tCons te tNil))) :
    PD X G E (.Expr (.Call (.Attribute (.Name x px) "extend" ap) [e] [] cp) pos) (dExtend i fa) := ⟨(ps_expr (hpe ha.run) hs).imp fun D σ H => by
  rintro ⟨ρ, w, F, r, w', S, hf, acc⟩
  obtain ⟨ts, hi, hf⟩ := owM_inv hf
  obtain ⟨p, vs, h0, h1, h2, h3, rv⟩ := S.own hi
  refine ⟨.ref p, h0, .inl ⟨rfl, vs, .of h1⟩, ?_⟩
  refine tVs.bind (X := X) S hf acc.er fun t w1 y H1 F1 S1 s1 r1 hk => ?_
  obtain ⟨us, rfl, hk2⟩ := lstM_bnd hk
  clear hk
  split at hk2
  · rename_i hl
    obtain ⟨rfl, rfl⟩ := ret_inv hk2
    obtain ⟨b, zs, rfl, hb, rz⟩ := r1.lst S1
    have h1' : H1 p = some (.lst vs) := s1.keep p _ h1 (S.ndB h3)
    exact ⟨p, b, vs, zs, rfl, rfl, h1', hb, by rw [rv.length, rz.length]; exact hl, acc _ _ F1 (S1.putL hi h0 h1' ((rv.mono s1.same).append rz)) s1.same⟩
  · cases hk2⟩
end
end
end PL

/-! PLg: what is walked; targets; for, while; comprehensions. -/
namespace PL
open PySem PySem.Spec PyProof.Rows L2
section
variable {W : Type} {X : Cx} {G : Gm W} {E : XK} {ρ : Rho} {w w' : W} {σ : L2.St} {H F : Hp}

/-- the walk J yields what ts tells, whatever is laid meanwhile -/
structure Walks (K : PySem.W.Frag) (G : Gm W) (J : It) (F : Hp) (ts : List T) : Prop where
  go : ∀ (i : Nat) (ρ : Rho) (w : W) (σ : L2.St) (H F' : Hp), Same F F' → Sd K G ρ w σ H F' → ∀ t, ts[i]? = some t → J.go i H ∧ ∀ x H', J.yld i H x H' → ∃ F'', Gr G H F' H' F'' ∧ Sd K G ρ w σ H' F'' ∧ Rep K F'' x t
  stop : ∀ (i : Nat) (ρ : Rho) (w : W) (σ : L2.St) (H F' : Hp), Same F F' → Sd K G ρ w σ H F' → ts.length ≤ i → J.stop i H
theorem Walks.mono {K : PySem.W.Frag} {J : It} {F' : Hp} {ts : List T} (h : Walks K G J F ts) (s : Same F F') : Walks K G J F' ts :=
  ⟨fun i ρ w σ H F2 s2 S t ht => h.go i ρ w σ H F2 (s.trans s2) S t ht, fun i ρ w σ H F2 s2 S hl => h.stop i ρ w σ H F2 (s.trans s2) S hl⟩
def tW (K : PySem.W.Frag) (G : Gm W) (E : XK) (f : Rho → M W (List T)) : TI := fun σ H R => ∃ ρ w F r w', Sd K G ρ w σ H F ∧ f ρ w = some (r, w') ∧ match r with
  | .ok ts => ∀ J H' F', Sd K G ρ w' σ H' F' → Gr G H F H' F' → Walks K G J F' ts → R J H'
  | .er e => AccE K G E F e w'
structure PIt (X : Cx) (G : Gm W) (E : XK) (tg iter : Expr) (f : Rho → M W (List T)) : Prop where
  run : PI X tg iter (tW X.K G E f)
theorem _root_.L2.PI.imp {tg iter : Expr} {t t' : TI} (h : PI X tg iter t) (i : ∀ σ H Q, t' σ H Q → t σ H Q) : PI X tg iter t' := ⟨fun pins s σ H Q I q => h.run pins s σ H Q I (i σ H Q q)⟩
theorem _root_.L2.PI.or {tg iter : Expr} {t t' : TI} (h : PI X tg iter t) (h' : PI X tg iter t') : PI X tg iter (fun σ H Q => t σ H Q ∨ t' σ H Q) := ⟨fun pins s σ H Q I q => by
  rcases q with q | q
  · exact h.run pins s σ H Q I q
  · exact h'.run pins s σ H Q I q⟩
theorem walks_list {K : PySem.W.Frag} {a : Addr} {vs : List V} {ts : List T} (h : F a = some (.lst vs)) (r : Reps K F vs ts) : Walks K G (Itl K a) F ts := by
  refine ⟨fun i ρ w σ H F' s S t ht => ?_, fun i ρ w σ H F' s S hl => ?_⟩
  · obtain ⟨v, hv, rv⟩ := r.get ht
    have hH : SqL K H a vs := .of (S.sub _ _ (s _ _ h))
    refine ⟨⟨vs, v, hH, hv⟩, fun x H' hy => ?_⟩
    obtain ⟨rfl, hx⟩ := hy
    have := hx vs hH
    rw [hv] at this; cases this
    exact ⟨F', .refl, S, rv.mono s⟩
  · exact ⟨vs, .of (S.sub _ _ (s _ _ h)), by rw [r.length]; exact hl⟩
theorem walks_tup {K : PySem.W.Frag} {a : Addr} {vs : List V} {ts : List T} (h : SqT K F a vs) (r : Reps K F vs ts) : Walks K G (Itt K a) F ts := by
  refine ⟨fun i ρ w σ H F' s S t ht => ?_, fun i ρ w σ H F' s S hl => ?_⟩
  · obtain ⟨v, hv, rv⟩ := r.get ht
    have hH : SqT K H a vs := Same.seqT S.sub (Same.seqT s h)
    refine ⟨⟨vs, v, hH, hv⟩, fun x H' hy => ?_⟩
    obtain ⟨rfl, hx⟩ := hy
    have := hx vs hH
    rw [hv] at this; cases this
    exact ⟨F', .refl, S, rv.mono s⟩
  · exact ⟨vs, Same.seqT S.sub (Same.seqT s h), by rw [r.length]; exact hl⟩
def signs (z : Str) : List T := z.cps.toList.map fun c => .str ⟨#[c]⟩
theorem walks_str {K : PySem.W.Frag} {z : Str} : Walks K G (Its z) F (signs z) := by
  refine ⟨fun i ρ w σ H F' s S t ht => ?_, fun i ρ w σ H F' s S hl => ?_⟩
  · unfold signs at ht
    rw [List.getElem?_map] at ht
    cases e : z.cps.toList[i]? with
    | none => rw [e] at ht; cases ht
    | some c =>
      rw [e] at ht
      cases ht
      refine ⟨by have := (List.getElem?_eq_some_iff.mp e).1; show i < z.cps.size; simpa using this, fun x H' hy => ?_⟩
      obtain ⟨rfl, c', hc, rfl⟩ := hy
      have : c' = c := by
        rw [← Array.getElem?_toList] at hc
        rw [e] at hc; cases hc; rfl
      subst this
      exact ⟨F', .refl, S, .str _⟩
  · show z.cps.size ≤ i
    simpa [signs] using hl
def intsT (lo : Int) (n : Nat) : List T := (List.range n).map fun i => .int (lo + (i : Nat))
theorem walks_range {K : PySem.W.Frag} {lo : Int} {n : Nat} : Walks K G (Itr lo n) F (intsT lo n) := by
  refine ⟨fun i ρ w σ H F' s S t ht => ?_, fun i ρ w σ H F' s S hl => ?_⟩
  · unfold intsT at ht
    rw [List.getElem?_map] at ht
    by_cases hi : i < n
    · rw [List.getElem?_range hi] at ht
      cases ht
      refine ⟨hi, fun x H' hy => ?_⟩
      obtain ⟨rfl, rfl⟩ := hy
      exact ⟨F', .refl, S, .int _⟩
    · rw [List.getElem?_eq_none (by simpa using hi)] at ht; cases ht
  · show n ≤ i
    simpa [intsT] using hl
section
variable {tg l : Expr} {fa : Rho → M W T} {pos : Pos}
/-- the items of a list, of a tuple, the signs of a text -/
def seqM (t : T) : M W (List T) := match t with
  | .lst ts => ret ts
  | .tup ts => ret ts
  | .str z => ret (signs z)
  | _ => stuck
def fItems (fa : Rho → M W T) : Rho → M W (List T) := fun ρ => bnd (fa ρ) seqM
theorem tW.bind {f : Rho → M W T} {k : T → M W (List T)} {r : R (List T)} {Q : VK} (S : Sd X.K G ρ w σ H F) (e : bnd (f ρ) k w = some (r, w')) (er : ∀ e, r = .er e → AccE X.K G E F e w')
    (kk : ∀ t w1 v H1 F1, Sd X.K G ρ w1 σ H1 F1 → Gr G H F H1 F1 → Rep X.K F1 v t → k t w1 = some (r, w') → Q v H1) : tV X.K G E f σ H Q := tV.bind (X := X) S e er kk
theorem pit_seq (ha : PV X G E l fa) : PIt X G E tg l (fItems fa) := ⟨(PI.or (pi_list ha.run) (PI.or (pi_tup ha.run) (pi_str ha.run))).imp fun σ H R => by
  rintro ⟨ρ, w, F, r, w', S, hf, acc⟩
  have er : ∀ e, r = .er e → AccE X.K G E F e w' := fun e q => by subst q; exact acc
  rcases bnd_inv hf with ⟨t, w1, h1, h2⟩ | ⟨e, h1, rfl⟩
  · cases t with
    | lst ts =>
      obtain ⟨rfl, rfl⟩ := ret_inv h2
      refine .inl ⟨ρ, w, F, .ok _, w', S, h1, fun v H1 F1 S1 s1 rv => ?_⟩
      obtain ⟨a, vs, rfl, hF, rs⟩ := rv.lst_inv
      exact ⟨a, rfl, ⟨vs, .of (S1.sub _ _ hF)⟩, acc _ H1 F1 S1 s1 (walks_list hF rs)⟩
    | tup ts =>
      obtain ⟨rfl, rfl⟩ := ret_inv h2
      refine .inr (.inl ⟨ρ, w, F, .ok _, w', S, h1, fun v H1 F1 S1 s1 rv => ?_⟩)
      obtain ⟨a, vs, rfl, hF, rs⟩ := rv.tup_inv
      exact ⟨a, rfl, ⟨vs, Same.seqT S1.sub hF⟩, acc _ H1 F1 S1 s1 (walks_tup hF rs)⟩
    | str z =>
      obtain ⟨rfl, rfl⟩ := ret_inv h2
      refine .inr (.inr ⟨ρ, w, F, .ok _, w', S, h1, fun v H1 F1 S1 s1 rv => ?_⟩)
      exact ⟨z, rv.str_inv, acc _ H1 F1 S1 s1 walks_str⟩
    | _ => cases h2
  · exact .inl ⟨ρ, w, F, .er e, w', S, h1, er e rfl⟩⟩
def fRange1 (fa : Rho → M W T) : Rho → M W (List T) := fun ρ => bnd (fa ρ) fun t => bnd (intM t) fun j => if -(2 ^ 62) ≤ j ∧ j < 2 ^ 62 then ret (intsT 0 j.toNat) else stuck
theorem intM_bnd {β : Type} {t : T} {k : Int → M W β} {r : R β} (h : bnd (intM t) k w = some (r, w')) : ∃ i, t = .int i ∧ k i w = some (r, w') := by
  cases t with
  | int i => exact ⟨i, rfl, h⟩
  | _ => cases h
theorem pit_range1 {p : Pos} (hg : Gl X "range") (hm : X.mg "range" = none) (ha : PV X G E l fa) (hs : starEach [l] X.env = [(false, eval l X.env)] := by rfl) (hs1 : starEach [l] X.env = (false, eval l X.env) :: starEach [] X.env := by rfl) :
    PIt X G E tg (.Call (.Name "range" p) [l] [] pos) (fRange1 fa) := ⟨(pi_range1 hg hm (pa_cons ha.run pa_nil hs1) hs).imp fun σ H R => by
  rintro ⟨ρ, w, F, r, w', S, hf, acc⟩
  have er : ∀ e, r = .er e → AccE X.K G E F e w' := fun e q => by subst q; exact acc
  refine tV.bind (X := X) S hf er fun t w1 v H1 F1 S1 s1 r1 hk => ?_
  obtain ⟨j, rfl, hk2⟩ := intM_bnd hk
  clear hk
  split at hk2
  · rename_i hl
    obtain ⟨rfl, rfl⟩ := ret_inv hk2
    obtain rfl := r1.int_inv
    exact ⟨j, rfl, hl.1, hl.2, acc _ H1 F1 S1 s1 walks_range⟩
  · cases hk2⟩
end

/-! ### targets -/
/-- a target's store, told by a function; is: the slots that it fills -/
def tG (K : PySem.W.Frag) (G : Gm W) (is : List Nat) (h : T → Rho → Option Rho) : TG := fun v σ H Q => ∃ ρ w F t ρ', Sd K G ρ w σ H F ∧ Rep K F v t ∧ h t ρ = some ρ' ∧ ∀ σ', Sd K G ρ' w σ' H F → (∀ j, j ∉ is → σ'[j]? = σ[j]?) → σ'.length = σ.length → Q σ' H
structure PGt (X : Cx) (G : Gm W) (tg : Expr) (is : List Nat) (h : T → Rho → Option Rho) : Prop where
  run : PG X tg (tG X.K G is h)
theorem _root_.L2.PG.imp {tg : Expr} {t t' : TG} (h : PG X tg t) (i : ∀ v σ H Q, t' v σ H Q → t v σ H Q) : PG X tg t' := ⟨fun pins s σ H v u Q I r q => h.run pins s σ H v u Q I r (i v σ H Q q)⟩
theorem Sd.setF {K : PySem.W.Frag} {v : V} {t : T} (S : Sd K G ρ w σ H F) (h : Rep K F v t) (i : Nat) : Sd K G (ρ.set i (.fz t)) w (σ.set i (some v)) H F := S.set (s := .fz t) h i
def gN (i : Nat) : T → Rho → Option Rho := fun t ρ => some (ρ.set i (.fz t))
theorem pgt_name (i : Nat) {x : Str} {pos : Pos} (hN : X.N.Nodup) (hi : X.N[i]? = some x) (hx : Loc X.env.scope x) (hf : X.fn x = true ∨ X.env.scope.names.lookup x = some .local := by first | exact .inl rfl | exact .inr rfl | assumption) : PGt X G (.Name x pos) [i] (gN i) :=
  ⟨(pg_name hN hi hx hf).imp fun v σ H Q => by
    rintro ⟨ρ, w, F, t, ρ', S, r, e, k⟩
    cases e
    exact k _ (S.setF r i) (fun j hj => List.getElem?_set_ne (by simpa using (fun z : i = j => hj (by simp [z])))) (by simp)⟩
def gT2 (i j : Nat) : T → Rho → Option Rho := fun t ρ => match t with
  | .tup [a, b] => some ((ρ.set i (.fz a)).set j (.fz b))
  | _ => none
theorem pgt_tup2 (i j : Nat) {x y : Str} {px py pos : Pos} {k : Nat} (hc : X.calm = true) (hN : X.N.Nodup) (hi : X.N[i]? = some x) (hj : X.N[j]? = some y) (hx : Loc X.env.scope x) (hy : Loc X.env.scope y)
    (hfx : X.fn x = true ∨ X.env.scope.names.lookup x = some .local := by first | exact .inl rfl | exact .inr rfl | assumption) (hfy : X.fn y = true ∨ X.env.scope.names.lookup y = some .local := by first | exact .inl rfl | exact .inr rfl | assumption)
    (hn : (assignEach [.Name x px, .Name y py] X.env).length = 2 := by rfl) (hst : (assignEach [.Name x px, .Name y py] X.env).findIdx? (·.1) = none := by rfl)
    (hs1 : (assignEach [.Name x px, .Name y py] X.env).map (·.2) = assign (.Name x px) X.env :: (assignEach [.Name y py] X.env).map (·.2) := by rfl) (hs2 : (assignEach [.Name y py] X.env).map (·.2) = assign (.Name y py) X.env :: (assignEach [] X.env).map (·.2) := by rfl) :
    PGt X G (.Tuple [.Name x px, .Name y py] k pos) [i, j] (gT2 i j) :=
  ⟨(pg_tup hc (pgs_cons (pg_name hN hi hx hfx) (pgs_cons (pg_name hN hj hy hfy) pgs_nil hs2) hs1) hn hst).imp fun v σ H Q => by
    rintro ⟨ρ, w, F, t, ρ', S, r, e, kk⟩
    unfold gT2 at e
    split at e
    · cases e
      obtain ⟨a, vs, rfl, hF, rs⟩ := r.tup_inv
      cases rs with
      | cons r1 rs =>
        cases rs with
        | cons r2 rs =>
          cases rs
          refine ⟨a, _, rfl, Same.seqT S.sub hF, rfl, _, _, rfl, _, _, rfl, rfl, ?_⟩
          refine kk _ ((S.setF r1 i).setF r2 j) (fun l hl => ?_) (by simp)
          rw [List.getElem?_set_ne (fun z => hl (by simp [z])), List.getElem?_set_ne (fun z => hl (by simp [z]))]
    · cases e⟩

/-! ### for, while -/
def loopD (h : T → Rho → Option Rho) (g : Rho → M W Fl) : List T → Rho → M W Fl
  | [], ρ => ret (.nx ρ)
  | t :: ts, ρ => bnd (lift (h t ρ)) fun ρ1 => bnd (g ρ1) fun fl => match fl with
    | .nx ρ2 => loopD h g ts ρ2
    | .ct ρ2 => loopD h g ts ρ2
    | .bk ρ2 => ret (.nx ρ2)
    | .rt t => ret (.rt t)
def dFor (fi : Rho → M W (List T)) (h : T → Rho → Option Rho) (g : Rho → M W Fl) : Rho → M W Fl := fun ρ => bnd (fi ρ) fun ts => loopD h g ts ρ
theorem lift_bnd {α β : Type} {o : Option α} {k : α → M W β} {r : R β} (h : bnd (lift o) k w = some (r, w')) : ∃ a, o = some a ∧ k a w = some (r, w') := by
  cases o with
  | none => cases h
  | some a => exact ⟨a, rfl, h⟩
theorem pd_for {tg iter : Expr} {body : List Stmt} {is : List Nat} {fi : Rho → M W (List T)} {h : T → Rho → Option Rho} {g : Rho → M W Fl} {pos : Pos} (hp : PassesOwn (model X.prog X.w) X.A X.env X.xe) (hc : X.calm = true) (hi : PIt X G E tg iter fi) (hg : PGt X G tg is h) (hb : PDs X G E body g)
    (hs : ∀ x, foldedSetIterable iter X.env x = pure x := by intro _; rfl) : PD X G E (.For tg iter body [] pos) (dFor fi h g) := ⟨(ps_for hp hc hi.run hg.run hb.run hs).imp fun D σ H => by
  rintro ⟨ρ, w, F, r, w', S, hf, acc⟩
  rcases bnd_inv hf with ⟨ts, w1, h1, h2⟩ | ⟨e, h1, rfl⟩
  case inr => exact ⟨ρ, w, F, .er e, w', S, h1, acc⟩
  refine ⟨ρ, w, F, .ok ts, w1, S, h1, fun J H1 F1 S1 s1 wk => ?_⟩
  refine ⟨fun i m σ H => m = ts.length - i ∧ i ≤ ts.length ∧ ∃ ρ w F, Sd X.K G ρ w σ H F ∧ Same F1 F ∧ loopD h g (ts.drop i) ρ w = some (r, w'), ⟨ts.length, by simp, Nat.zero_le _, ρ, w1, F1, S1, Same.refl _, by simpa using h2⟩, ?_⟩
  rintro i m σ2 H2 ⟨rfl, hil, ρ2, w2, F2, S2, s2, e2⟩
  by_cases hlt : i < ts.length
  · rw [List.drop_eq_getElem_cons hlt] at e2
    obtain ⟨go, yl⟩ := wk.go i ρ2 w2 σ2 H2 F2 s2 S2 ts[i] (List.getElem?_eq_getElem hlt)
    refine .inr ⟨go, fun σ' H' => ∃ ρ w F, Sd X.K G ρ w σ' H' F ∧ Same F1 F ∧ loopD h g (ts.drop (i + 1)) ρ w = some (r, w'), fun σ' H' q => ⟨ts.length - (i + 1), by omega, rfl, hlt, q⟩, fun x H3 hy => ?_⟩
    obtain ⟨F3, g3, S3, r3⟩ := yl x H3 hy
    obtain ⟨ρ3, hh, e3⟩ := lift_bnd e2
    refine ⟨ρ2, w2, F3, ts[i], ρ3, S3, r3, hh, fun σ4 S4 _ _ => ?_⟩
    rcases bnd_inv e3 with ⟨fl, w5, h5, h6⟩ | ⟨e, h5, rfl⟩
    · refine ⟨ρ3, w2, F3, .ok fl, w5, S4, h5, ?_⟩
      have sF : Same F1 F3 := s2.trans g3.same
      cases fl with
      | nx ρ5 => exact fun σ' H' F' S' s' => ⟨ρ5, w5, F', S', sF.trans s', h6⟩
      | ct ρ5 => exact fun σ' H' F' S' s' => ⟨ρ5, w5, F', S', sF.trans s', h6⟩
      | bk ρ5 =>
        obtain ⟨rfl, rfl⟩ := ret_inv h6
        exact fun σ' H' F' S' s' => acc σ' H' F' S' ((s1.same.trans sF).trans s')
      | rt t =>
        obtain ⟨rfl, rfl⟩ := ret_inv h6
        exact fun v ρ' σ' H' F' S' s' rv => acc v ρ' σ' H' F' S' ((s1.same.trans sF).trans s') rv
    · exact ⟨ρ3, w2, F3, .er e, w', S4, h5, AccE.mono (X := X) acc ((s1.same.trans s2).trans g3.same)⟩
  · have hi : i = ts.length := by omega
    subst hi
    rw [List.drop_length] at e2
    obtain ⟨rfl, rfl⟩ := ret_inv e2
    exact .inl ⟨wk.stop _ ρ2 _ σ2 H2 F2 s2 S2 (Nat.le_refl _), acc σ2 H2 F2 S2 (s1.same.trans s2)⟩⟩
def whileN (c : Rho → M W Bool) (b : Rho → M W Fl) : Nat → Rho → M W Fl
  | 0, _ => stuck
  | n + 1, ρ => bnd (c ρ) fun t => if t = true then bnd (b ρ) fun fl => match fl with
      | .nx ρ' => whileN c b n ρ'
      | .ct ρ' => whileN c b n ρ'
      | .bk ρ' => ret (.nx ρ')
      | .rt t => ret (.rt t)
    else ret (.nx ρ)
theorem bnd_mono {α β : Type} {m : M W α} {k k' : α → M W β} {r : R β} (h : bnd m k w = some (r, w')) (i : ∀ a w1, k a w1 = some (r, w') → k' a w1 = some (r, w')) : bnd m k' w = some (r, w') := by
  rcases bnd_inv h with ⟨a, w1, h1, h2⟩ | ⟨e, h1, rfl⟩
  · unfold bnd; rw [h1]; exact i a w1 h2
  · unfold bnd; rw [h1]
theorem whileN_succ {c : Rho → M W Bool} {b : Rho → M W Fl} : ∀ (n : Nat) (ρ : Rho) (w w' : W) (r : R Fl), whileN c b n ρ w = some (r, w') → whileN c b (n + 1) ρ w = some (r, w')
  | 0, _, _, _, _, h => by cases h
  | n + 1, ρ, w, w', r, h => by
    unfold whileN at h ⊢
    refine bnd_mono h fun t w1 h1 => ?_
    split
    · rw [if_pos ‹_›] at h1
      refine bnd_mono h1 fun fl w2 h2 => ?_
      cases fl with
      | nx ρ' => exact whileN_succ n ρ' w2 w' r h2
      | ct ρ' => exact whileN_succ n ρ' w2 w' r h2
      | bk ρ' => exact h2
      | rt t => exact h2
    · rw [if_neg ‹_›] at h1; exact h1
theorem whileN_le {c : Rho → M W Bool} {b : Rho → M W Fl} {n m : Nat} (h : n ≤ m) {r : R Fl} (e : whileN c b n ρ w = some (r, w')) : whileN c b m ρ w = some (r, w') := by
  induction h with
  | refl => exact e
  | step _ ih => exact whileN_succ _ _ _ _ _ ih
open Classical in
noncomputable def dWhile (c : Rho → M W Bool) (b : Rho → M W Fl) : Rho → M W Fl := fun ρ w => if h : ∃ n, (whileN c b n ρ w).isSome = true then whileN c b h.choose ρ w else none
theorem dWhile_iff {c : Rho → M W Bool} {b : Rho → M W Fl} {r : R Fl} : dWhile c b ρ w = some (r, w') ↔ ∃ n, whileN c b n ρ w = some (r, w') := by
  constructor
  · intro h
    unfold dWhile at h
    split at h
    · exact ⟨_, h⟩
    · cases h
  · rintro ⟨n, h⟩
    have ex : ∃ n, (whileN c b n ρ w).isSome = true := ⟨n, by rw [h]; rfl⟩
    unfold dWhile
    rw [dif_pos ex]
    have hs := ex.choose_spec
    cases e : whileN c b ex.choose ρ w with
    | none => rw [e] at hs; cases hs
    | some p =>
      obtain ⟨r2, w2⟩ := p
      have h1 := whileN_le (Nat.le_max_left n ex.choose) h
      have h2 := whileN_le (Nat.le_max_right n ex.choose) e
      rw [h1] at h2
      exact h2.symm
/-- one turn -/
theorem dWhile_eq (c : Rho → M W Bool) (b : Rho → M W Fl) (ρ : Rho) : dWhile c b ρ = bnd (c ρ) fun t => if t = true then bnd (b ρ) fun fl => match fl with
      | .nx ρ' => dWhile c b ρ'
      | .ct ρ' => dWhile c b ρ'
      | .bk ρ' => ret (.nx ρ')
      | .rt t => ret (.rt t)
    else ret (.nx ρ) := by
  have half : ∀ w r w', (bnd (c ρ) fun t => if t = true then bnd (b ρ) fun fl => match fl with
      | .nx ρ' => dWhile c b ρ'
      | .ct ρ' => dWhile c b ρ'
      | .bk ρ' => ret (.nx ρ')
      | .rt t => ret (.rt t)
    else ret (.nx ρ)) w = some (r, w') → dWhile c b ρ w = some (r, w') := by
    intro w r w' h
    rw [dWhile_iff]
    rcases bnd_inv h with ⟨t, w1, h1, h2⟩ | ⟨e, h1, rfl⟩
    · by_cases ht : t = true
      · simp only [if_pos ht] at h2
        rcases bnd_inv h2 with ⟨fl, w2, h3, h4⟩ | ⟨e, h3, rfl⟩
        · cases fl with
          | nx ρ' =>
            obtain ⟨n, hn⟩ := dWhile_iff.mp h4
            exact ⟨n + 1, by unfold whileN bnd; rw [h1]; simp only [if_pos ht]; rw [h3]; exact hn⟩
          | ct ρ' =>
            obtain ⟨n, hn⟩ := dWhile_iff.mp h4
            exact ⟨n + 1, by unfold whileN bnd; rw [h1]; simp only [if_pos ht]; rw [h3]; exact hn⟩
          | bk ρ' => exact ⟨1, by unfold whileN bnd; rw [h1]; simp only [if_pos ht]; rw [h3]; exact h4⟩
          | rt t => exact ⟨1, by unfold whileN bnd; rw [h1]; simp only [if_pos ht]; rw [h3]; exact h4⟩
        · exact ⟨1, by unfold whileN bnd; rw [h1]; simp only [if_pos ht]; rw [h3]⟩
      · simp only [if_neg ht] at h2
        exact ⟨1, by unfold whileN bnd; rw [h1]; simp only [if_neg ht]; exact h2⟩
    · exact ⟨1, by unfold whileN bnd; rw [h1]⟩
  have other : ∀ w r w', dWhile c b ρ w = some (r, w') → (bnd (c ρ) fun t => if t = true then bnd (b ρ) fun fl => match fl with
      | .nx ρ' => dWhile c b ρ'
      | .ct ρ' => dWhile c b ρ'
      | .bk ρ' => ret (.nx ρ')
      | .rt t => ret (.rt t)
    else ret (.nx ρ)) w = some (r, w') := by
    intro w r w' h
    obtain ⟨n, hn⟩ := dWhile_iff.mp h
    cases n with
    | zero => cases hn
    | succ n =>
      unfold whileN at hn
      refine bnd_mono hn fun t w1 h1 => ?_
      by_cases ht : t = true
      · simp only [if_pos ht] at h1 ⊢
        refine bnd_mono h1 fun fl w2 h2 => ?_
        cases fl with
        | nx ρ' => exact dWhile_iff.mpr ⟨n, h2⟩
        | ct ρ' => exact dWhile_iff.mpr ⟨n, h2⟩
        | bk ρ' => exact h2
        | rt t => exact h2
      · simp only [if_neg ht] at h1 ⊢
        exact h1
  funext w
  cases e : dWhile c b ρ w with
  | some p => obtain ⟨r, w'⟩ := p; exact (other w r w' e).symm
  | none =>
    cases e2 : (bnd (c ρ) fun t => if t = true then bnd (b ρ) fun fl => match fl with
      | .nx ρ' => dWhile c b ρ'
      | .ct ρ' => dWhile c b ρ'
      | .bk ρ' => ret (.nx ρ')
      | .rt t => ret (.rt t)
    else ret (.nx ρ)) w with
    | none => rfl
    | some p => obtain ⟨r, w'⟩ := p; rw [half w r w' e2] at e; cases e
theorem pd_while {c : Expr} {body : List Stmt} {gc : Rho → M W Bool} {g : Rho → M W Fl} {pos : Pos} (hp : PassesOwn (model X.prog X.w) X.A X.env X.xe) (hc : PB X G E c gc) (hb : PDs X G E body g) : PD X G E (.While c body [] pos) (dWhile gc g) := ⟨(ps_while hp hc.run hb.run).imp fun D σ H => by
  rintro ⟨ρ, w, F, r, w', S, hf, acc⟩
  obtain ⟨n, hn⟩ := dWhile_iff.mp hf
  refine ⟨fun m σ H => ∃ ρ w F', Sd X.K G ρ w σ H F' ∧ Same F F' ∧ whileN gc g m ρ w = some (r, w'), ⟨n, ρ, w, F, S, Same.refl _, hn⟩, ?_⟩
  rintro m σ1 H1 ⟨ρ1, w1, F1, S1, s1, e1⟩
  cases m with
  | zero => cases e1
  | succ m =>
    unfold whileN at e1
    refine tT.bind (X := X) S1 e1 (AccD.mono (X := X) acc s1).er fun t w2 H2 F2 S2 s2 hk => ?_
    by_cases ht : t = true
    · subst ht
      rw [if_pos rfl] at hk ⊢
      refine ⟨fun σ' H' => ∃ ρ w F', Sd X.K G ρ w σ' H' F' ∧ Same F F' ∧ whileN gc g m ρ w = some (r, w'), fun σ' H' q => ⟨m, Nat.lt_succ_self m, q⟩, ?_⟩
      have sF := s1.trans s2.same
      rcases bnd_inv hk with ⟨fl, w3, h3, h4⟩ | ⟨e, h3, rfl⟩
      · refine ⟨ρ1, w2, F2, .ok fl, w3, S2, h3, ?_⟩
        cases fl with
        | nx ρ5 => exact fun σ' H' F' S' s' => ⟨ρ5, w3, F', S', sF.trans s', h4⟩
        | ct ρ5 => exact fun σ' H' F' S' s' => ⟨ρ5, w3, F', S', sF.trans s', h4⟩
        | bk ρ5 =>
          obtain ⟨rfl, rfl⟩ := ret_inv h4
          exact fun σ' H' F' S' s' => acc σ' H' F' S' (sF.trans s')
        | rt t =>
          obtain ⟨rfl, rfl⟩ := ret_inv h4
          exact fun v ρ' σ' H' F' S' s' rv => acc v ρ' σ' H' F' S' (sF.trans s') rv
      · exact ⟨ρ1, w2, F2, .er e, w', S2, h3, AccE.mono (X := X) acc sF⟩
    · rw [if_neg ht] at hk ⊢
      obtain ⟨rfl, rfl⟩ := ret_inv hk
      exact acc σ1 H2 F2 S2 (s1.trans s2.same)⟩
end
end PL

/-! PLh: list comprehensions. -/
namespace PL
open PySem PySem.Spec PyProof.Rows L2
section
variable {W : Type} {X : Cx} {G : Gm W} {E : XK} {ρ : Rho} {w w' : W} {σ : L2.St} {H F : Hp}

def wipeR (ρ : Rho) : List Nat → Rho
  | [] => ρ
  | v :: vs => (wipeR ρ vs).set v .un
theorem wipeR_length (ρ : Rho) : ∀ vs : List Nat, (wipeR ρ vs).length = ρ.length
  | [] => rfl
  | v :: vs => by unfold wipeR; rw [List.length_set, wipeR_length ρ vs]
theorem wipe_get (σ : L2.St) : ∀ (vs : List Nat) (j : Nat), (wipe σ vs)[j]? = if j ∈ vs then (if j < σ.length then some none else none) else σ[j]?
  | [], j => by simp [wipe]
  | v :: vs, j => by
    unfold wipe
    by_cases h : v = j
    · subst h
      by_cases hl : v < σ.length
      · rw [List.getElem?_set_self (by rw [wipe_length]; exact hl)]; simp [hl]
      · rw [List.getElem?_eq_none (by rw [List.length_set, wipe_length]; omega)]; simp [hl]
    · rw [List.getElem?_set_ne h, wipe_get σ vs j]
      have : (j ∈ v :: vs) ↔ j ∈ vs := by simp [Ne.symm h]
      simp [this]
theorem wipe_same {σ τ : L2.St} {vs : List Nat} (h : ∀ j, j ∉ vs → τ[j]? = σ[j]?) (hl : τ.length = σ.length) : wipe τ vs = wipe σ vs := by
  apply List.ext_getElem?
  intro j
  rw [wipe_get, wipe_get, hl]
  split
  · rfl
  · exact h j ‹_›
theorem Sd.un {K : PySem.W.Frag} (S : Sd K G ρ w σ H F) (i : Nat) : Sd K G (ρ.set i .un) w (σ.set i none) H F := by
  refine ⟨S.sub, S.wok, S.dF, S.dB, S.keep, S.grow, S.old, fun j s hj => ?_, fun j k s t hj hk hs ht e => ?_, by simp [S.len]⟩
  · rcases getElem?_set' hj with ⟨rfl, rfl⟩ | ⟨nj, hj⟩
    · trivial
    · have q := S.slots j s hj
      have es : (σ.set i none)[j]? = σ[j]? := List.getElem?_set_ne nj
      cases s with
      | un => trivial
      | fz t => obtain ⟨v', e, r⟩ := q; exact ⟨v', by rw [es]; exact e, r⟩
      | ow ts => obtain ⟨p, vs, e, r⟩ := q; exact ⟨p, vs, by rw [es]; exact e, r⟩
      | od ks ts => obtain ⟨p, vs, e, r⟩ := q; exact ⟨p, vs, by rw [es]; exact e, r⟩
  · rcases getElem?_set' hj with ⟨rfl, rfl⟩ | ⟨nj, hj⟩
    · cases hs
    · rcases getElem?_set' hk with ⟨rfl, rfl⟩ | ⟨nk, hk⟩
      · cases ht
      · rw [List.getElem?_set_ne nj, List.getElem?_set_ne nk] at e
        exact S.apart j k s t hj hk hs ht e
theorem Sd.wipe {K : PySem.W.Frag} (S : Sd K G ρ w σ H F) : ∀ vs : List Nat, Sd K G (wipeR ρ vs) w (L2.wipe σ vs) H F
  | [] => S
  | v :: vs => (Sd.wipe S vs).un v
/-- an object that nothing knows is written -/
theorem Sd.write {K : PySem.W.Frag} {p : Addr} {o o' : HO} (S : Sd K G ρ w σ H F) (hp : H p = some o) (hf : F p = none) (hB : G.B p = none) (hs : ∀ (i : Nat) (s : Sl), ρ[i]? = some s → s.owns = true → σ[i]? ≠ some (some (V.ref p))) (hx : ∀ f, o ≠ .ext f := by intro f z; cases z) : Sd K G ρ w σ (upd H p o') F := by
  have nd := S.ndB hB
  refine ⟨fun b o e => by rw [upd_ne (fun z => by subst z; rw [hf] at e; cases e)]; exact S.sub b o e, G.O.stay S.wok (fun b db => upd_ne (neq_of nd db)) (fun b f e => upd_ne fun z => by rw [z, hp] at e; exact hx f (Option.some.inj e)), S.dF, S.dB, fun b o e d => by rw [upd_ne (fun z => by subst z; rw [hB] at e; cases e)]; exact S.keep b o e d, S.grow, S.old, fun j s hj => ?_, S.apart, S.len⟩
  have q := S.slots j s hj
  cases s with
  | un => trivial
  | fz t => exact q
  | ow ts => obtain ⟨p', vs, e, q1, q2⟩ := q; exact ⟨p', vs, e, by rw [upd_ne (fun (z : p' = p) => hs j _ hj rfl (by rw [e, z]))]; exact q1, q2⟩
  | od ks ts => obtain ⟨p', vs, e, q1, q2⟩ := q; exact ⟨p', vs, e, by rw [upd_ne (fun (z : p' = p) => hs j _ hj rfl (by rw [e, z]))]; exact q1, q2⟩
theorem Gr.upd {H' F' : Hp} (g : Gr G H F H' F') {p : Addr} {o : HO} (hp : H p = none) : Gr G H F (L2.upd H' p o) F' :=
  ⟨g.same, fun b u e d => by rw [upd_ne (ne_of_none e hp)]; exact g.keep b u e d, g.nof⟩

/-- no exception here -/
def noEr {α : Type} (m : M W α) : M W α := fun w => match m w with
  | some (.ok a, w') => some (.ok a, w')
  | _ => none
theorem noEr_inv {α : Type} {m : M W α} {r : R α} (h : noEr m w = some (r, w')) : ∃ a, r = .ok a ∧ m w = some (.ok a, w') := by
  unfold noEr at h
  split at h
  · cases h; exact ⟨_, rfl, ‹_›⟩
  · cases h
theorem noEr_bnd {α β : Type} {m : M W α} {k : α → M W β} {r : R β} (h : bnd (noEr m) k w = some (r, w')) : ∃ a w1, m w = some (.ok a, w1) ∧ k a w1 = some (r, w') := by
  rcases bnd_inv h with ⟨a, w1, h1, h2⟩ | ⟨e, h1, rfl⟩
  · obtain ⟨a', e, h3⟩ := noEr_inv h1
    cases e
    exact ⟨a, w1, h3, h2⟩
  · obtain ⟨_, e, _⟩ := noEr_inv h1
    cases e
def compD (vs : List Nat) (h : T → Rho → Option Rho) (gt : Rho → M W Bool) (ge : Rho → M W T) (ρ : Rho) : List T → M W (List T)
  | [] => ret []
  | t :: ts => bnd (lift (h t (wipeR ρ vs))) fun ρ1 => bnd (noEr (gt ρ1)) fun b =>
    if b = true then bnd (noEr (ge ρ1)) fun u => bnd (compD vs h gt ge ρ ts) fun us => ret (u :: us) else compD vs h gt ge ρ ts
def fLc (fi : Rho → M W (List T)) (vs : List Nat) (h : T → Rho → Option Rho) (gt : Rho → M W Bool) (ge : Rho → M W T) : Rho → M W (List T) :=
  fun ρ => bnd (fi ρ) fun ts => if ts.length ≤ sizeLine then compD vs h gt ge ρ ts else stuck
theorem compD_ok {vs : List Nat} {h : T → Rho → Option Rho} {gt : Rho → M W Bool} {ge : Rho → M W T} : ∀ {ts : List T} {w w' : W} {r : R (List T)}, compD vs h gt ge ρ ts w = some (r, w') → ∃ us, r = .ok us
  | [], w, w', r, e => ⟨[], (ret_inv e).1⟩
  | t :: ts, w, w', r, e => by
    unfold compD at e
    obtain ⟨ρ1, _, e⟩ := lift_bnd e
    obtain ⟨b, w1, _, e⟩ := noEr_bnd e
    by_cases hb : b = true
    · rw [if_pos hb] at e
      obtain ⟨u, w2, _, e⟩ := noEr_bnd e
      rcases bnd_inv e with ⟨us, w3, h3, h4⟩ | ⟨er, h3, rfl⟩
      · exact ⟨_, (ret_inv h4).1⟩
      · obtain ⟨us, z⟩ := compD_ok h3
        cases z
    · rw [if_neg hb] at e
      exact compD_ok e
section
variable {fi : Rho → M W (List T)} {vs is : List Nat} {h : T → Rho → Option Rho} {gt : Rho → M W Bool} {ge : Rho → M W T}
theorem tLc.of (his : ∀ i ∈ is, i ∈ vs) : ∀ σ H Q, tF X.K G E (fLc fi vs h gt ge) σ H Q → tLc (tW X.K G E fi) (tG X.K G is h) (tT X.K G E0 gt) (tV X.K G E0 ge) vs σ H Q := fun σ H Q => by
  rintro ⟨ρ, w, F, r, w', S, hf, acc⟩
  rcases bnd_inv hf with ⟨ts, w1, h1, h2⟩ | ⟨e, h1, rfl⟩
  case inr => exact ⟨ρ, w, F, .er e, w', S, h1, acc⟩
  split at h2
  case isFalse => cases h2
  rename_i hsz
  obtain ⟨us, rfl⟩ := compD_ok h2
  refine ⟨ρ, w, F, .ok ts, w1, S, h1, fun J H1 F1 S1 s1 wk D hD => ?_⟩
  have hD0 : H D = none := s1.free0 S1.dH hD
  have hDF := (S1.fresh hD).2.2
  have hDB := (S1.fresh hD).2.1
  have hDs := S1.noSlot hD
  refine ⟨fun i m Hc => m = ts.length - i ∧ i ≤ ts.length ∧ ∃ wi Fi acc accT rest, Sd X.K G ρ wi σ Hc Fi ∧ Gr G H1 F1 Hc Fi ∧ Hc D = some (.lst acc) ∧ Fi D = none ∧ Reps X.K Fi acc accT ∧ acc.length ≤ i ∧
    compD vs h gt ge ρ (ts.drop i) wi = some (.ok rest, w') ∧ accT ++ rest = us, ⟨ts.length, by simp, Nat.zero_le _, w1, F1, [], [], us, S1.laid hD, .laid hD, upd_same, hDF, .nil, Nat.zero_le _, by simpa using h2, rfl⟩, ?_⟩
  rintro i m H2 ⟨rfl, hil, w2, F2, acc2, accT, rest, S2, g2, hD2, hF2, r2, hl2, e2, hu⟩
  by_cases hlt : i < ts.length
  · rw [List.drop_eq_getElem_cons hlt] at e2
    obtain ⟨go, yl⟩ := wk.go i ρ w2 σ H2 F2 g2.same S2 ts[i] (List.getElem?_eq_getElem hlt)
    refine .inr ⟨go, fun H' => ∃ wi Fi acc accT rest, Sd X.K G ρ wi σ H' Fi ∧ Gr G H1 F1 H' Fi ∧ H' D = some (.lst acc) ∧ Fi D = none ∧ Reps X.K Fi acc accT ∧ acc.length ≤ i + 1 ∧
      compD vs h gt ge ρ (ts.drop (i + 1)) wi = some (.ok rest, w') ∧ accT ++ rest = us, fun H' q => ⟨ts.length - (i + 1), by omega, rfl, hlt, q⟩, fun x H3 hy => ?_⟩
    obtain ⟨F3, g3, S3, r3⟩ := yl x H3 hy
    unfold compD at e2
    obtain ⟨ρ1, hh, e3⟩ := lift_bnd e2
    obtain ⟨b, w4, hb, e4⟩ := noEr_bnd e3
    refine ⟨wipeR ρ vs, w2, F3, ts[i], ρ1, S3.wipe vs, r3, hh, fun σ4 S4 ag hlen => ⟨wipe_same (fun j hj => ?_) (by rw [hlen, wipe_length]), ?_⟩⟩
    · rw [ag j fun z => hj (his j z), wipe_get, if_neg hj]
    refine ⟨ρ1, w2, F3, .ok b, w4, S4, hb, fun H5 F5 S5 g5 => ?_⟩
    have nd := S2.ndB hDB
    have ne : ∀ {Ha : Hp}, Ha D = some (.lst acc2) → Ha D ≠ none := fun e z => by rw [e] at z; cases z
    have g23 : Gr G H2 F2 H5 F5 := g3.trans g5 S4.dH
    have hD5 : H5 D = some (.lst acc2) := g23.keep D _ hD2 nd
    have hF5 : F5 D = none := by rw [g23.nof D (ne hD2)]; exact hF2
    by_cases hbt : b = true
    · simp only [if_pos hbt] at e4 ⊢
      obtain ⟨u, w6, hu6, e6⟩ := noEr_bnd e4
      rcases bnd_inv e6 with ⟨us7, w7, h7, h8⟩ | ⟨er, h7, z⟩
      case inr => cases z
      obtain ⟨q8, rfl⟩ := ret_inv h8
      cases q8
      refine ⟨ρ1, w4, F5, .ok u, w6, S5, hu6, fun y H6 F6 S6 g6 r6 => ⟨acc2, ?_, by omega, ?_⟩⟩
      · exact g6.keep D _ hD5 nd
      have g26 : Gr G H2 F2 H6 F6 := g23.trans g6 S5.dH
      have S6' : Sd X.K G ρ w6 σ H6 F6 := S2.grown g26 S6.sub S6.wok S6.dF
      have hD6 : H6 D = some (.lst acc2) := g26.keep D _ hD2 nd
      have hF6 : F6 D = none := by rw [g26.nof D (ne hD2)]; exact hF2
      exact ⟨w6, F6, acc2 ++ [y], accT ++ [u], us7, S6'.write hD6 hF6 hDB hDs, (g2.trans g26 S2.dH).upd hD, upd_same, hF6, (r2.mono g26.same).append (.one r6), by simp; omega, h7, by rw [List.append_assoc]; exact hu⟩
    · simp only [if_neg hbt] at e4 ⊢
      have S5' : Sd X.K G ρ w4 σ H5 F5 := S2.grown g23 S5.sub S5.wok S5.dF
      exact ⟨w4, F5, acc2, accT, rest, S5', g2.trans g23 S2.dH, hD5, hF5, r2.mono g23.same, by omega, e4, hu⟩
  · have hi : i = ts.length := by omega
    subst hi
    rw [List.drop_length] at e2
    obtain ⟨q, rfl⟩ := ret_inv e2
    cases q
    rw [List.append_nil] at hu
    subst hu
    exact .inl ⟨wk.stop _ ρ _ σ H2 F2 g2.same S2 (Nat.le_refl _), acc D acc2 H2 F2 S2 (s1.trans g2 S1.dH) hD0 hD2 hF2 hDB hDs r2⟩
/-- one clause -/
structure Blk (X : Cx) (G : Gm W) (scope : Scope) (tg : Expr) (ifs : List Expr) (elt : Expr) (is : List Nat) (h : T → Rho → Option Rho) (gt : Rho → M W Bool) (ge : Rho → M W T) : Prop where
  tg : ∀ (s : Shared) (H : Hp) (C : Addr) (cl : List (Str × Addr)) (fp : List Addr), PGt (X.blk s H scope (compEnvC scope cl C X.env) fp) G tg is h
  ts : ∀ (s : Shared) (H : Hp) (C : Addr) (cl : List (Str × Addr)) (fp : List Addr), PTs (X.blk s H scope (compEnvC scope cl C X.env) fp) ifs (tT X.K G E0 gt)
  el : ∀ (s : Shared) (H : Hp) (C : Addr) (cl : List (Str × Addr)) (fp : List Addr), PV (X.blk s H scope (compEnvC scope cl C X.env) fp) G E0 elt ge
variable {elt tg iter : Expr} {ifs : List Expr} {scope : Scope} {own : List (Str × Nat)} {pos : Pos}
theorem pf_lc (hc : X.calm = true) (hN : X.N.Nodup) (hi : PIt X G E tg iter fi) (ok : BlkOk X.N X.env.scope scope own) (B : Blk X G scope tg ifs elt is h gt ge) (his : ∀ i ∈ is, i ∈ own.map (·.2)) (hs : ∀ x, foldedSetIterable iter X.env x = pure x := by intro _; rfl) :
    PF X G E (.ListComp elt [⟨tg, iter, ifs, 0⟩] scope pos) (fLc fi (own.map (·.2)) h gt ge) :=
  ⟨(pe_lc hc hN hi.run ok (fun s H C cl fp => (B.tg s H C cl fp).run) B.ts (fun s H C cl fp => (B.el s H C cl fp).run) hs).imp (tLc.of his)⟩
def tYesM : Rho → M W Bool := fun _ => ret true
theorem pts_nilM {Y : Cx} : PTs Y [] (tT Y.K G E0 (tYesM (W := W))) := ⟨fun pins s σ H Q I q => by
  obtain ⟨ρ, w, F, r, w', S, hf, acc⟩ := q
  obtain ⟨rfl, rfl⟩ := ret_inv hf
  exact pts_nil.run pins s σ H Q I (acc H F S .refl)⟩
theorem pts_oneM {Y : Cx} {c : Expr} (hc : PB Y G E0 c gt) : PTs Y [c] (tT Y.K G E0 gt) := pts_one hc.run
/-- name = [..] on one line -/
theorem pd_setLc {i : Nat} {y : Str} {py spos : Pos} (hc : X.calm = true) (hN : X.N.Nodup) (hy : X.N[i]? = some y) (hyl : X.env.scope.names.lookup y = some .local) (hsw : swapsWith (.ListComp elt [⟨tg, iter, ifs, 0⟩] scope pos) (some (.Name y py)) spos.line X.env = pure true)
    (hi : PIt X G E tg iter fi) (ok : BlkOk X.N X.env.scope scope own) (B : Blk X G scope tg ifs elt is h gt ge) (his : ∀ i ∈ is, i ∈ own.map (·.2)) (hs : ∀ x, foldedSetIterable iter X.env x = pure x := by intro _; rfl) :
    PD X G E (.Assign [.Name y py] (.ListComp elt [⟨tg, iter, ifs, 0⟩] scope pos) spos) (dSet i (xOw (fLc fi (own.map (·.2)) h gt ge))) :=
  ⟨(ps_setLc hc hN hy hyl hsw hi.run ok (fun s H C cl fp => (B.tg s H C cl fp).run) B.ts (fun s H C cl fp => (B.el s H C cl fp).run) hs).imp fun D σ H => by
    rintro ⟨ρ, w, F, r, w', S, hf, acc⟩
    refine tLc.of (E := E) (h := h) (gt := gt) (ge := ge) his σ H _ ?_
    rcases bnd_inv hf with ⟨s, w1, h1, h2⟩ | ⟨e, h1, rfl⟩
    · rcases bnd_inv h1 with ⟨ts, w2, h3, h4⟩ | ⟨e, h3, z⟩
      · obtain ⟨q, rfl⟩ := ret_inv h4
        cases q
        obtain ⟨rfl, rfl⟩ := ret_inv h2
        exact ⟨ρ, w, F, .ok ts, _, S, h3, fun p vs H' F' S' g' h0 h1 h2 h3 h4 h5 => acc _ H' F' (S'.set (s := .ow ts) ⟨p, vs, rfl, h1, h2, h3, h4, h5⟩ i) g'.same⟩
      · cases z
    · rcases bnd_inv h1 with ⟨ts, w2, h3, h4⟩ | ⟨e', h3, z⟩
      · obtain ⟨q, _⟩ := ret_inv h4
        cases q
      · cases z
        exact ⟨ρ, w, F, .er e, w', S, h3, acc⟩⟩
/-- .. as a frozen value -/
theorem pd_setLcF {i : Nat} {y : Str} {py spos : Pos} (hc : X.calm = true) (hN : X.N.Nodup) (hy : X.N[i]? = some y) (hyl : X.env.scope.names.lookup y = some .local) (hsw : swapsWith (.ListComp elt [⟨tg, iter, ifs, 0⟩] scope pos) (some (.Name y py)) spos.line X.env = pure true)
    (hi : PIt X G E tg iter fi) (ok : BlkOk X.N X.env.scope scope own) (B : Blk X G scope tg ifs elt is h gt ge) (his : ∀ i ∈ is, i ∈ own.map (·.2)) (hs : ∀ x, foldedSetIterable iter X.env x = pure x := by intro _; rfl) :
    PD X G E (.Assign [.Name y py] (.ListComp elt [⟨tg, iter, ifs, 0⟩] scope pos) spos) (dSet i (xFz (asL (fLc fi (own.map (·.2)) h gt ge)))) :=
  ⟨(ps_setLc hc hN hy hyl hsw hi.run ok (fun s H C cl fp => (B.tg s H C cl fp).run) B.ts (fun s H C cl fp => (B.el s H C cl fp).run) hs).imp fun D σ H => by
    rintro ⟨ρ, w, F, r, w', S, hf, acc⟩
    refine tLc.of (E := E) (h := h) (gt := gt) (ge := ge) his σ H _ ?_
    rcases bnd_inv hf with ⟨s, w1, h1, h2⟩ | ⟨e, h1, rfl⟩
    · rcases bnd_inv h1 with ⟨t, w2, h3, h4⟩ | ⟨e, h3, z⟩
      · obtain ⟨q, rfl⟩ := ret_inv h4
        cases q
        obtain ⟨rfl, rfl⟩ := ret_inv h2
        rcases bnd_inv h3 with ⟨ts, w5, h5, h6⟩ | ⟨e, h5, z⟩
        · obtain ⟨q, rfl⟩ := ret_inv h6
          cases q
          exact ⟨ρ, w, F, .ok ts, _, S, h5, fun p vs H' F' S' g' h0 h1 h2 h3 h4 h5 => acc _ H' _ ((S'.freeze h1 h2 h3 h4).setF (.lst upd_same (h5.mono (Same.updN h2))) i) (g'.same.trans (Same.updN h2))⟩
        · cases z
      · cases z
    · rcases bnd_inv h1 with ⟨t, w2, h3, h4⟩ | ⟨e', h3, z⟩
      · obtain ⟨q, _⟩ := ret_inv h4
        cases q
      · cases z
        rcases bnd_inv h3 with ⟨ts, w5, h5, h6⟩ | ⟨e', h5, z⟩
        · obtain ⟨q, _⟩ := ret_inv h6
          cases q
        · cases z
          exact ⟨ρ, w, F, .er e, w', S, h5, acc⟩⟩
end
end
end PL

/-! PLi: built-in functions and methods. -/
namespace PL
open PySem PySem.Spec PyProof.Rows L2
section
variable {W : Type} {X : Cx} {G : Gm W} {E : XK} {ρ : Rho} {w w' : W} {σ : L2.St} {H F : Hp}

/-- a built-in of one argument, by values -/
def CallG (X : Cx) (G : Gm W) (r : List V → Hp → VK → Prop) (g : T → Option T) : Prop :=
  ∀ (ρ : Rho) (w : W) (σ : L2.St) (H F : Hp) (x : V) (t z : T) (Q : VK), Sd X.K G ρ w σ H F → ShR X.K ρ σ F x t → g t = some z → (∀ v H' F', Sd X.K G ρ w σ H' F' → Gr G H F H' F' → Rep X.K F' v z → Q v H') → r [x] H Q
def f1 (g : T → Option T) (fa : Rho → M W T) : Rho → M W T := fun ρ => bnd (fa ρ) fun t => lift (g t)
theorem tCB.of {r : List V → Hp → VK → Prop} {g : T → Option T} {fa : Rho → M W T} (hg : CallG X G r g) : ∀ σ H Q, tV X.K G E (f1 g fa) σ H Q → tCB r (tCons (tVs X.K G E fa) tNil) σ H Q := fun σ H Q => by
  rintro ⟨ρ, w, F, q, w', S, hf, acc⟩
  refine tVs.bind (X := X) S hf acc.er fun t w1 x H1 F1 S1 s1 r1 hk => ?_
  obtain ⟨z, hz, rfl, rfl⟩ := lift_inv hk
  exact hg ρ _ σ H1 F1 x t z Q S1 r1 hz fun v H' F' S' s' rv => acc v H' F' S' (s1.trans s' S1.dH) rv
/-- .. that makes a new list -/
def CallF (X : Cx) (G : Gm W) (r : List V → Hp → VK → Prop) (g : T → Option (List T)) : Prop :=
  ∀ (ρ : Rho) (w : W) (σ : L2.St) (H F : Hp) (x : V) (t : T) (z : List T) (Q : VK), Sd X.K G ρ w σ H F → ShR X.K ρ σ F x t → g t = some z → (∀ p vs, H p = none → Reps X.K F vs z → Q (.ref p) (upd H p (.lst vs))) → r [x] H Q
def f1l (g : T → Option (List T)) (fa : Rho → M W T) : Rho → M W (List T) := fun ρ => bnd (fa ρ) fun t => lift (g t)
theorem tCB.ofF {r : List V → Hp → VK → Prop} {g : T → Option (List T)} {fa : Rho → M W T} (hg : CallF X G r g) : ∀ σ H Q, tF X.K G E (f1l g fa) σ H Q → tCB r (tCons (tVs X.K G E fa) tNil) σ H Q := fun σ H Q => by
  rintro ⟨ρ, w, F, q, w', S, hf, acc⟩
  refine tVs.bind (X := X) S hf acc.er fun t w1 x H1 F1 S1 s1 r1 hk => ?_
  obtain ⟨z, hz, rfl, rfl⟩ := lift_inv hk
  exact hg ρ _ σ H1 F1 x t z Q S1 r1 hz fun p vs hp rs => acc p vs _ F1 (S1.laid hp) (s1.trans (.laid hp) S1.dH) (s1.free0 S1.dH hp) upd_same (S1.sub.free hp) (S1.fresh hp).2.1 (S1.noSlot hp) rs
section
variable {x : Str} {id Ty : String} {r : List V → Hp → VK → Prop} {g : T → Option T} {gl : T → Option (List T)} {e : Expr} {fa : Rho → M W T} {p pos : Pos}
theorem pv_b1 (hc : CallR X (.builtin id) r) (hr : CallG X G r g) (hg : Gl X x) (hm : X.mg x = none) (hv : bootBuiltins x = some (.builtin id)) (ha : PVs X G E e fa) (hn : x ≠ "__name__" := by decide) (hdb : (x == ("__debug__" : Str)) = false := by decide)
    (he : starEach [e] X.env = (false, eval e X.env) :: starEach [] X.env := by rfl) (hpl : (backTo pos (starEach [] X.env)).any (·.1) = false := by rfl) : PV X G E (.Call (.Name x p) [e] [] pos) (f1 g fa) :=
  ⟨(pe_callB hc hg hm hv (pa_cons ha.run pa_nil he) hn hdb he hpl).imp (tCB.of hr)⟩
theorem pv_t1 (hc : CallR X (.type Ty) r) (hr : CallG X G r g) (hg : Gl X x) (hm : X.mg x = none) (hv : bootBuiltins x = some (.type Ty)) (ha : PVs X G E e fa) (hn : x ≠ "__name__" := by decide) (hdb : (x == ("__debug__" : Str)) = false := by decide)
    (he : starEach [e] X.env = (false, eval e X.env) :: starEach [] X.env := by rfl) (hpl : (backTo pos (starEach [] X.env)).any (·.1) = false := by rfl) : PV X G E (.Call (.Name x p) [e] [] pos) (f1 g fa) :=
  ⟨(pe_callTy hc hg hm hv (pa_cons ha.run pa_nil he) hn hdb he hpl).imp (tCB.of hr)⟩
theorem pf_b1 (hc : CallR X (.builtin id) r) (hr : CallF X G r gl) (hg : Gl X x) (hm : X.mg x = none) (hv : bootBuiltins x = some (.builtin id)) (ha : PVs X G E e fa) (hn : x ≠ "__name__" := by decide) (hdb : (x == ("__debug__" : Str)) = false := by decide)
    (he : starEach [e] X.env = (false, eval e X.env) :: starEach [] X.env := by rfl) (hpl : (backTo pos (starEach [] X.env)).any (·.1) = false := by rfl) : PF X G E (.Call (.Name x p) [e] [] pos) (f1l gl fa) :=
  ⟨(pe_callB hc hg hm hv (pa_cons ha.run pa_nil he) hn hdb he hpl).imp (tCB.ofF hr)⟩
theorem pf_t1 (hc : CallR X (.type Ty) r) (hr : CallF X G r gl) (hg : Gl X x) (hm : X.mg x = none) (hv : bootBuiltins x = some (.type Ty)) (ha : PVs X G E e fa) (hn : x ≠ "__name__" := by decide) (hdb : (x == ("__debug__" : Str)) = false := by decide)
    (he : starEach [e] X.env = (false, eval e X.env) :: starEach [] X.env := by rfl) (hpl : (backTo pos (starEach [] X.env)).any (·.1) = false := by rfl) : PF X G E (.Call (.Name x p) [e] [] pos) (f1l gl fa) :=
  ⟨(pe_callTy hc hg hm hv (pa_cons ha.run pa_nil he) hn hdb he hpl).imp (tCB.ofF hr)⟩
end

/-! ### len -/
def lenT : T → Option T
  | .str y => if y.length ≤ sizeLine then some (.int (y.length : Nat)) else none
  | .lst ts => some (.int (ts.length : Nat))
  | .tup ts => some (.int (ts.length : Nat))
  | .dct ks _ => some (.int (ks.length : Nat))
  | _ => none
def rLenA (K : PySem.W.Frag) : List V → Hp → VK → Prop := fun xs H Q => (∃ x n, xs = [x] ∧ LenV K x H n ∧ Q (.int n) H) ∨ ∃ a kvs, xs = [V.ref a] ∧ Rd H a (.dK kvs) ∧ Q (.int kvs.length) H
theorem lenG : CallG X G (rLenA X.K) lenT := by
  intro ρ w σ H F x t z Q S hx hz k
  unfold lenT at hz
  split at hz
  · split at hz
    · rename_i hl
      cases hz
      obtain rfl := hx.str
      exact .inl ⟨_, _, rfl, ⟨hl, rfl⟩, k _ H F S .refl (.int _)⟩
    · cases hz
  · cases hz
    obtain ⟨a, vs, rfl, hH, r⟩ := hx.lst S
    exact .inl ⟨_, vs.length, rfl, .inl ⟨vs, .of hH, rfl⟩, by rw [r.length]; exact k _ H F S .refl (.int _)⟩
  · cases hz
    obtain ⟨a, vs, rfl, _, hH, r⟩ := hx.tup S
    exact .inl ⟨_, vs.length, rfl, .inr ⟨vs, hH, rfl⟩, by rw [r.length]; exact k _ H F S .refl (.int _)⟩
  · rename_i ks ts
    cases hz
    obtain ⟨a, vs, rfl, hH, hl, r⟩ := hx.dct S
    have e : (ks.zip vs).length = ks.length := by rw [List.length_zip]; omega
    exact .inr ⟨_, _, rfl, hH, by rw [e]; exact k _ H F S .refl (.int _)⟩
  · cases hz
theorem call_lenRd : CallR X (.builtin "len") (fun xs H Q => ∃ a kvs, xs = [V.ref a] ∧ Rd H a (.dK kvs) ∧ Q (.int kvs.length) H) := by
  intro pins s σ H xs us Q I r h
  obtain ⟨a, kvs, rfl, ha, q⟩ := h
  obtain ⟨u, rfl, ru⟩ := vals1 r
  cases ru
  exact d_len I ha fun t s' I' => ⟨.int kvs.length, H, I', ⟨t, rfl⟩, q⟩
theorem call_lenA : CallR X (.builtin "len") (rLenA X.K) := CallR.or call_len call_lenRd
/-! ### tuple, list, int, abs -/
def tupT : T → Option T
  | .lst ts => some (.tup ts)
  | .tup ts => some (.tup ts)
  | _ => none
theorem tupG : CallG X G (fun xs H Q => ∃ p ys, xs = [.ref p] ∧ ((SqL X.K H p ys ∧ ∀ l, H l = none → Q (.ref l) (upd H l (.tup ys))) ∨ (SqT X.K H p ys ∧ Q (.ref p) H))) tupT := by
  intro ρ w σ H F x t z Q S hx hz k
  unfold tupT at hz
  split at hz
  · cases hz
    obtain ⟨a, vs, rfl, hH, r⟩ := hx.lst S
    exact ⟨a, vs, rfl, .inl ⟨.of hH, fun p hp => k _ _ _ (S.laidF hp) (.laidF S hp) (.tup (.of upd_same) (r.mono (Same.updN (S.sub.free hp))))⟩⟩
  · cases hz
    obtain ⟨a, vs, rfl, hF, hH, r⟩ := hx.tup S
    exact ⟨a, vs, rfl, .inr ⟨hH, k _ H F S .refl (.tup hF r)⟩⟩
  · cases hz
def itemsT : T → Option (List T)
  | .lst ts => some ts
  | .tup ts => some ts
  | _ => none
theorem lstG : CallF X G (fun xs H Q => ∃ p ys, xs = [.ref p] ∧ (SqL X.K H p ys ∨ SqT X.K H p ys) ∧ ∀ l, H l = none → Q (.ref l) (upd H l (.lst ys))) itemsT := by
  intro ρ w σ H F x t z Q S hx hz k
  unfold itemsT at hz
  split at hz
  · cases hz
    obtain ⟨a, vs, rfl, hH, r⟩ := hx.lst S
    exact ⟨a, vs, rfl, .inl (.of hH), fun p hp => k p vs hp r⟩
  · cases hz
    obtain ⟨a, vs, rfl, hF, hH, r⟩ := hx.tup S
    exact ⟨a, vs, rfl, .inr hH, fun p hp => k p vs hp r⟩
  · cases hz
def toInt : T → Option T
  | .int i => some (.int i)
  | .bl b => some (.int (if b then 1 else 0))
  | _ => none
theorem intCG : CallG X G (fun xs H Q => (∃ i, xs = [.int i] ∧ Q (.int i) H) ∨ ∃ k, xs = [.bl k] ∧ Q (.int (if k then 1 else 0)) H) toInt := by
  intro ρ w σ H F x t z Q S hx hz k
  unfold toInt at hz
  split at hz
  · cases hz
    exact .inl ⟨_, by rw [hx.int], k _ H F S .refl (.int _)⟩
  · cases hz
    exact .inr ⟨_, by rw [hx.bl], k _ H F S .refl (.int _)⟩
  · cases hz
def absT : T → Option T
  | .int i => some (.int (if i < 0 then -i else i))
  | _ => none
theorem absG : CallG X G (fun xs H Q => ∃ i, xs = [.int i] ∧ Q (.int (if i < 0 then -i else i)) H) absT := by
  intro ρ w σ H F x t z Q S hx hz k
  unfold absT at hz
  split at hz
  · cases hz
    exact ⟨_, by rw [hx.int], k _ H F S .refl (.int _)⟩
  · cases hz
/-! ### all, any of lists of bools -/
def boolsT : List T → Option (List Bool)
  | [] => some []
  | .bl b :: ts => (boolsT ts).map (b :: ·)
  | _ :: _ => none
theorem Reps.bools {K : PySem.W.Frag} : ∀ {vs : List V} {ts : List T} {bs : List Bool}, Reps K F vs ts → boolsT ts = some bs → vs = bs.map V.bl
  | _, _, _, .nil, e => by cases e; rfl
  | _, _, _, .cons (t := t) h r, e => by
    cases t with
    | bl b =>
      simp only [boolsT, Option.map_eq_some_iff] at e
      obtain ⟨bs, h1, rfl⟩ := e
      rw [h.bl_inv, r.bools h1]
      rfl
    | _ => cases e
def allT : T → Option T
  | .lst ts => (boolsT ts).map fun bs => .bl (bs.all id)
  | _ => none
def anyT : T → Option T
  | .lst ts => (boolsT ts).map fun bs => .bl (bs.any id)
  | _ => none
theorem allG : CallG X G (rAll X.K) allT := by
  intro ρ w σ H F x t z Q S hx hz k
  unfold allT at hz
  split at hz
  · simp only [Option.map_eq_some_iff] at hz
    obtain ⟨bs, h1, rfl⟩ := hz
    obtain ⟨a, vs, rfl, hH, r⟩ := hx.lst S
    have := r.bools h1
    subst this
    exact ⟨a, bs, rfl, .of hH, k _ H F S .refl (.bl _)⟩
  · cases hz
theorem anyG : CallG X G (rAny X.K) anyT := by
  intro ρ w σ H F x t z Q S hx hz k
  unfold anyT at hz
  split at hz
  · simp only [Option.map_eq_some_iff] at hz
    obtain ⟨bs, h1, rfl⟩ := hz
    obtain ⟨a, vs, rfl, hH, r⟩ := hx.lst S
    have := r.bools h1
    subst this
    exact ⟨a, bs, rfl, .of hH, k _ H F S .refl (.bl _)⟩
  · cases hz

/-! ### sorted, min of data -/
def dat (t : T) : PyData := (dataT t).getD .none
theorem dataTs_map : ∀ {ts : List T} {ds : List PyData}, dataTs ts = some ds → ds = ts.map dat
  | [], _, e => by cases e; rfl
  | t :: ts, ds, e => by
    simp only [dataTs, Option.bind_eq_some_iff, Option.map_eq_some_iff] at e
    obtain ⟨d, h1, es, h2, rfl⟩ := e
    simp [dat, h1, dataTs_map h2]
/-- strings alone, or tuples with an item that are all of one kind, or ints -/
def sortableB (ds : List PyData) : Bool := (ds.all fun d => ds.all fun e => PySem.W.alike d e) && ((ds.all fun d => match d with | .tuple (_ :: _) => true | _ => false) || (ds.all fun d => match d with | .none => false | .tuple _ => false | _ => true)) && ds.all fun d => decide (d.depth ≤ 100)
def lstOf : T → Option (List T)
  | .lst ts => some ts
  | _ => none
def sortT (t : T) : Option (List T) := (lstOf t).bind fun ts => (dataTs ts).bind fun ds => if sortableB ds = true ∧ ts.length ≤ sizeLine then some (ts.mergeSort (PySem.W.dataLe false dat)) else none
theorem eachIs_of {K : PySem.W.Frag} : ∀ {vs : List V} {ts : List T} {us : List Value}, Reps K F vs ts → Vals vs us → PySem.W.EachIs (fun u t => ∃ v, RelV v u ∧ Rep K F v t) us ts
  | _, _, _, .nil, .nil => .nil
  | _, _, _, .cons h r, .cons q s => .cons ⟨_, q, h⟩ (eachIs_of r s)
theorem of_eachIs {K : PySem.W.Frag} : ∀ {us : List Value} {ts : List T}, PySem.W.EachIs (fun u t => ∃ v, RelV v u ∧ Rep K F v t) us ts → ∃ vs, Vals vs us ∧ Reps K F vs ts
  | _, _, .nil => ⟨[], .nil, .nil⟩
  | _, _, .cons ⟨v, q, h⟩ t => by
    obtain ⟨vs, h1, h2⟩ := of_eachIs t
    exact ⟨v :: vs, .cons q h1, .cons h h2⟩
def rSortA (K : PySem.W.Frag) : List V → Hp → VK → Prop := fun xs H Q => ∃ a vs ts ds F, xs = [V.ref a] ∧ SqL K H a vs ∧ Same F H ∧ Reps K F vs ts ∧ dataTs ts = some ds ∧ sortableB ds = true ∧ ts.length ≤ sizeLine ∧
  ∀ p ys, H p = none → Reps K F ys (ts.mergeSort (PySem.W.dataLe false dat)) → Q (.ref p) (upd H p (.lst ys))
theorem call_sortA (hu : X.A.units + 200 < cLine) : CallR X (.builtin "sorted") (rSortA X.K) := by
  intro pins s σ H xs us Q I r h
  obtain ⟨a, vs, ts, ds, F, rfl, hs, sub, rs, hd, hb, hl, q⟩ := h
  obtain ⟨its, rv, pl, _⟩ := I.list hs
  rw [Vals.ref1 r]
  have hds := dataTs_map hd
  subst hds
  unfold sortableB at hb
  simp only [Bool.and_eq_true, List.all_eq_true, decide_eq_true_eq, Bool.or_eq_true] at hb
  obtain ⟨⟨hal, hk⟩, hdp⟩ := hb
  have eR := eachIs_of rs rv
  have hreads : ∀ t ∈ ts, ∃ d, dataT t = some d := by
    have : ∀ (ts : List T) (ds : List PyData), dataTs ts = some ds → ∀ t ∈ ts, ∃ d, dataT t = some d := by
      intro ts
      induction ts with
      | nil => intro _ _ _ z; cases z
      | cons t ts ih =>
        intro ds e t' ht
        simp only [dataTs, Option.bind_eq_some_iff, Option.map_eq_some_iff] at e
        obtain ⟨d, h1, es, h2, rfl⟩ := e
        rcases List.mem_cons.mp ht with rfl | ht
        · exact ⟨d, h1⟩
        · exact ih es h2 t' ht
    exact this ts _ hd
  have eReads : PySem.W.EachIs (fun v b => ∃ as, Reads s.heap v (dat b) as) its ts := by
    have : ∀ {us : List Value} {ts : List T}, PySem.W.EachIs (fun u t => ∃ v, RelV v u ∧ Rep X.K F v t) us ts → (∀ t ∈ ts, ∃ d, dataT t = some d) → PySem.W.EachIs (fun v b => ∃ as, Reads s.heap v (dat b) as) us ts := by
      intro us ts e
      induction e with
      | nil => intro _; exact .nil
      | @cons u t us ts h _ ih =>
        intro hh
        obtain ⟨v, q1, q2⟩ := h
        refine .cons ?_ (ih fun t' ht => hh t' (List.mem_cons_of_mem _ ht))
        obtain ⟨d, hd⟩ := hh t List.mem_cons_self
        have e : dat t = d := by unfold dat; rw [hd]; rfl
        rw [e]
        exact Dp.reads I d v _ (Rep.dp sub _ _ _ q2 hd) q1
    exact this eR hreads
  refine PySem.W.sorted_data (enc := dat) pl.isList eR eReads (fun d hd' e he => hal d hd' e he) ?_ (by omega) (fun b hb => ?_) fun out ho eo => ?_
  · rcases hk with hk | hk
    · refine .inl fun d hd' => ?_
      have := hk d hd'
      split at this
      · exact ⟨_, _, rfl⟩
      · cases this
    · refine .inr fun d hd' => ?_
      have := hk d hd'
      refine ⟨fun z => ?_, fun xs z => ?_⟩ <;> (subst z; cases this)
  · have := hdp (dat b) (List.mem_map_of_mem hb)
    omega
  · obtain ⟨ys, hv, hr⟩ := of_eachIs eo
    obtain ⟨ep, he'⟩ := PyProof.Rows.sortedAll_at s.heap its (List.toArray out)
    have hlen : ys.length ≤ sizeLine := by rw [hv.length, ho]; exact hl
    exact ⟨.ref _, upd H (s.heap.objs.size + 1) (.lst ys), I.laid (t' := s.toks) (fun _ _ => PyProof.Rows.sortedAll_old) (Nat.le_succ _) ⟨hlen, out, ep, hv, by simpa [PyProof.Rows.seqObj] using he'⟩, rfl, q _ ys (I.hok.fresh (Nat.le_succ _)) hr⟩
theorem sortG : CallF X G (rSortA X.K) sortT := by
  intro ρ w σ H F x t z Q S hx hz k
  simp only [sortT, Option.bind_eq_some_iff] at hz
  obtain ⟨ts, h1, ds, h2, h3⟩ := hz
  split at h3
  · rename_i hl
    cases h3
    cases t with
    | lst us =>
      cases h1
      obtain ⟨a, vs, rfl, hH, r⟩ := hx.lst S
      exact ⟨a, vs, _, ds, F, rfl, .of hH, S.sub, r, h2, hl.1, hl.2, fun p ys hp rs => k p ys hp rs⟩
    | _ => cases h1
  · cases h3
end
end PL

/-! PLj: min; join, split; isinstance; pop. -/
namespace PL
open PySem PySem.Spec PyProof.Rows L2
section
variable {W : Type} {X : Cx} {G : Gm W} {E : XK} {ρ : Rho} {w w' : W} {σ : L2.St} {H F : Hp}

/-! ### min, max of a list of data -/
def bestT (lt : PyData → PyData → Bool) : List T → Option T
  | [] => none
  | t :: ts => some (ts.foldl (fun a y => if lt (dat y) (dat a) then y else a) t)
def alikeB (ds : List PyData) : Bool := (ds.all fun d => ds.all fun e => PySem.W.alike d e) && (ds.all fun d => match d with | .none => false | _ => true) && decide (PyData.depthAll ds ≤ 100)
def minT (t : T) : Option T := (lstOf t).bind fun ts => (dataTs ts).bind fun ds => if alikeB ds = true then bestT PySem.W.dataLt ts else none
mutual
theorem dataT_inj : ∀ (t u : T) (d : PyData), dataT t = some d → dataT u = some d → t = u
  | .non, u, d, h, k => by
    cases h
    cases u <;> simp [dataT] at k
    rfl
  | .bl b, u, d, h, k => by
    cases h
    cases u <;> simp [dataT] at k
    rw [k]
  | .int b, u, d, h, k => by
    cases h
    cases u <;> simp [dataT] at k
    rw [k]
  | .str b, u, d, h, k => by
    cases h
    cases u <;> simp [dataT] at k
    rw [k]
  | .tup ts, u, d, h, k => by
    simp only [dataT, Option.map_eq_some_iff] at h
    obtain ⟨ds, h1, rfl⟩ := h
    cases u <;> simp [dataT] at k
    rw [dataTs_inj ts _ ds h1 k]
  | .lst ts, u, d, h, k => by
    simp only [dataT, Option.map_eq_some_iff] at h
    obtain ⟨ds, h1, rfl⟩ := h
    cases u <;> simp [dataT] at k
    rw [dataTs_inj ts _ ds h1 k]
  | .dct _ _, _, _, h, _ => by cases h
  | .ins _ _ _, _, _, h, _ => by cases h
  | .raw _, _, _, h, _ => by cases h
theorem dataTs_inj : ∀ (ts us : List T) (ds : List PyData), dataTs ts = some ds → dataTs us = some ds → ts = us
  | [], us, ds, h, k => by
    cases h
    cases us with
    | nil => rfl
    | cons u us =>
      simp only [dataTs, Option.bind_eq_some_iff, Option.map_eq_some_iff] at k
      obtain ⟨_, _, _, _, z⟩ := k
      cases z
  | t :: ts, us, ds, h, k => by
    simp only [dataTs, Option.bind_eq_some_iff, Option.map_eq_some_iff] at h
    obtain ⟨d, h1, es, h2, rfl⟩ := h
    cases us with
    | nil => simp [dataTs] at k
    | cons u us =>
      simp only [dataTs, Option.bind_eq_some_iff, Option.map_eq_some_iff, List.cons.injEq] at k
      obtain ⟨d', k1, es', k2, rfl, rfl⟩ := k
      rw [dataT_inj t u _ h1 k1, dataTs_inj ts us _ h2 k2]
end
theorem dataTs_mem : ∀ {ts : List T} {ds : List PyData}, dataTs ts = some ds → ∀ t ∈ ts, dataT t = some (dat t)
  | [], _, _, _, z => by cases z
  | t :: ts, ds, e, t', ht => by
    simp only [dataTs, Option.bind_eq_some_iff, Option.map_eq_some_iff] at e
    obtain ⟨d, h1, es, h2, rfl⟩ := e
    rcases List.mem_cons.mp ht with rfl | ht
    · simp [dat, h1]
    · exact dataTs_mem h2 t' ht
theorem fold_mem (lt : PyData → PyData → Bool) : ∀ (ts : List T) (t : T), (ts.foldl (fun a y => if lt (dat y) (dat a) then y else a) t) ∈ t :: ts
  | [], t => by simp
  | u :: ts, t => by
    simp only [List.foldl_cons]
    have := fold_mem lt ts (if lt (dat u) (dat t) then u else t)
    rcases List.mem_cons.mp this with h | h
    · rw [h]; split <;> simp
    · exact List.mem_cons_of_mem _ (List.mem_cons_of_mem _ h)
theorem fold_dat (lt : PyData → PyData → Bool) : ∀ (ts : List T) (t : T), dat (ts.foldl (fun a y => if lt (dat y) (dat a) then y else a) t) = (ts.map dat).foldl (fun a y => if lt y a then y else a) (dat t)
  | [], t => rfl
  | u :: ts, t => by
    simp only [List.foldl_cons, List.map_cons]
    rw [fold_dat lt ts]
    congr 1
    split <;> rfl
theorem call_minA (hc : X.calm = true) (hu : X.A.units + 200 < cLine) : CallR X (.builtin "min") (fun xs H Q => ∃ a vs d ds, xs = [V.ref a] ∧ SqL X.K H a vs ∧ DpAll X.K H vs (d :: ds) ∧ PyData.plainAll (d :: ds) = true ∧ alikeB (d :: ds) = true ∧
    ∀ (i : Nat) v, vs[i]? = some v → (d :: ds)[i]? = some (PySem.W.minD d ds) → Q v H) := by
  intro pins s σ H xs us Q I r h
  obtain ⟨a, vs, d, ds, rfl, hs, hd, hpl, hb, q⟩ := h
  obtain ⟨its, rv, pl, _⟩ := I.list hs
  rw [Vals.ref1 r]
  obtain ⟨as, hr⟩ := Dp.readsAll I (d :: ds) vs its hd rv
  unfold alikeB at hb
  simp only [Bool.and_eq_true, List.all_eq_true, decide_eq_true_eq] at hb
  obtain ⟨⟨h1, h2⟩, h3⟩ := hb
  refine PySem.W.min_list_data (I.ok.hd hc) pl.isList (by simpa using hr) ⟨fun x hx y hy => h1 x hx y hy, fun x hx z => ?_⟩ (by omega) fun i v h' tk bs hv hrd hk => ?_
  · have := h2 x hx
    subst z
    cases this
  · have hi : its[i]? = some v := by simpa using hv
    have hil : i < its.length := (List.getElem?_eq_some_iff.mp hi).1
    have hvl : i < vs.length := by rw [rv.length]; exact hil
    obtain ⟨u, hu1, ru⟩ := rv.get (List.getElem?_eq_getElem hvl)
    rw [hi] at hu1; cases hu1
    refine ⟨vs[i], H, I.kept hk, ru, q i _ (List.getElem?_eq_getElem hvl) ?_⟩
    obtain ⟨bs2, hr2, hlt, _, _⟩ := PySem.W.readsAll_at hr i v hi
    have hd2 : (d :: ds)[i]? = some ((d :: ds).getD i .none) := by rw [List.getD_eq_getElem?_getD, List.getElem?_eq_getElem hlt]; rfl
    have hp2 : ((d :: ds).getD i .none).plain = true := by
      have : ∀ (xs : List PyData), PyData.plainAll xs = true → ∀ x ∈ xs, x.plain = true := by
        intro xs
        induction xs with
        | nil => intro _ x hx; cases hx
        | cons y ys ih =>
          intro hxs x hx
          simp only [PyData.plainAll, Bool.and_eq_true] at hxs
          rcases List.mem_cons.mp hx with rfl | hx
          · exact hxs.1
          · exact ih hxs.2 x hx
      exact this _ hpl _ (List.mem_of_getElem? hd2)
    have hr3 : Reads h' v ((d :: ds).getD i .none) bs2 := PySem.W.reads_keeps hk hr2
    have := SeqAt.plain_unique _ _ _ _ _ hp2 hr3 hrd
    rw [hd2, this]
theorem minG : CallG X G (fun xs H Q => ∃ a vs d ds, xs = [V.ref a] ∧ SqL X.K H a vs ∧ DpAll X.K H vs (d :: ds) ∧ PyData.plainAll (d :: ds) = true ∧ alikeB (d :: ds) = true ∧
    ∀ (i : Nat) v, vs[i]? = some v → (d :: ds)[i]? = some (PySem.W.minD d ds) → Q v H) minT := by
  intro ρ w σ H F x t z Q S hx hz k
  simp only [minT, Option.bind_eq_some_iff] at hz
  obtain ⟨ts, h1, ds, h2, h3⟩ := hz
  cases t with
  | lst us =>
    cases h1
    split at h3
    · rename_i hb
      obtain ⟨a, vs, rfl, hH, r⟩ := hx.lst S
      have key : ∀ (ts : List T) (ds : List PyData), dataTs ts = some ds → bestT PySem.W.dataLt ts = some z → Reps X.K F vs ts → alikeB ds = true →
          ∃ d es, ds = d :: es ∧ DpAll X.K H vs (d :: es) ∧ PyData.plainAll (d :: es) = true ∧ ∀ (i : Nat) v, vs[i]? = some v → (d :: es)[i]? = some (PySem.W.minD d es) → Rep X.K F v z := by
        intro ts ds h2 h3 r hb
        cases ts with
        | nil => cases h3
        | cons t ts =>
          have hm := dataTs_map h2
          subst hm
          cases h3
          refine ⟨dat t, ts.map dat, rfl, Reps.dp S.sub _ _ _ r h2, dataTs_plain _ _ h2, fun i v hv hi => ?_⟩
          obtain ⟨u, hu, ru⟩ := r.getV hv
          have hmem := dataTs_mem h2
          have e1 : (List.map dat (t :: ts))[i]? = some (dat u) := by rw [List.getElem?_map, hu]; rfl
          have e1' : (dat t :: ts.map dat)[i]? = some (dat u) := e1
          rw [hi] at e1'
          have e2 : dat u = dat (ts.foldl (fun a y => if PySem.W.dataLt (dat y) (dat a) then y else a) t) := by
            rw [fold_dat]; exact (Option.some.inj e1').symm
          have e3 := hmem u (List.mem_of_getElem? hu)
          have e4 := hmem _ (fold_mem PySem.W.dataLt ts t)
          rw [← e2] at e4
          rw [← dataT_inj _ _ _ e3 e4]
          exact ru
      obtain ⟨d, es, rfl, q1, q2, q3⟩ := key _ _ h2 h3 r hb
      exact ⟨a, vs, d, es, rfl, .of hH, q1, q2, hb, fun i v hv hi => k v H F S .refl (q3 i v hv hi)⟩
    · cases h3
  | _ => cases h1

/-! ### join, split -/
def strsT : List T → Option (List Str)
  | [] => some []
  | .str x :: ts => (strsT ts).map (x :: ·)
  | _ :: _ => none
theorem Reps.strs {K : PySem.W.Frag} : ∀ {vs : List V} {ts : List T} {xs : List Str}, Reps K F vs ts → strsT ts = some xs → vs = xs.map V.str
  | _, _, _, .nil, e => by cases e; rfl
  | _, _, _, .cons (t := t) h r, e => by
    cases t with
    | str b =>
      simp only [strsT, Option.map_eq_some_iff] at e
      obtain ⟨bs, h1, rfl⟩ := e
      rw [h.str_inv, r.strs h1]
      rfl
    | _ => cases e
def strM (t : T) : M W Str := match t with
  | .str a => ret a
  | _ => stuck
theorem strM_bnd {β : Type} {t : T} {k : Str → M W β} {r : R β} (h : bnd (strM t) k w = some (r, w')) : ∃ a, t = .str a ∧ k a w = some (r, w') := by
  cases t with
  | str a => exact ⟨a, rfl, h⟩
  | _ => cases h
/-- a method of a text with one argument -/
def fM1 (g : Str → T → Option T) (fa fb : Rho → M W T) : Rho → M W T := fun ρ => bnd (fa ρ) fun t => bnd (strM t) fun a => bnd (fb ρ) fun u => lift (g a u)
def fM1l (g : Str → T → Option (List T)) (fa fb : Rho → M W T) : Rho → M W (List T) := fun ρ => bnd (fa ρ) fun t => bnd (strM t) fun a => bnd (fb ρ) fun u => lift (g a u)
def joinT (a : Str) (t : T) : Option T := (itemsT t).bind fun ts => (strsT ts).bind fun ys => if (ys.map (·.length)).sum + ys.length * a.length ≤ 16777216 then some (.str (Txt.join a ys)) else none
def splitT (a : Str) (t : T) : Option (List T) := match t with
  | .str b => if (b.length == 0) = false ∧ a.length + 2 ≤ sizeLine then some ((Txt.split a b).map .str) else none
  | _ => none
theorem Reps.ofStrs {K : PySem.W.Frag} : ∀ (ys : List Str), Reps K F (ys.map V.str) (ys.map T.str)
  | [] => .nil
  | y :: ys => .cons (.str y) (Reps.ofStrs ys)
section
variable {o e : Expr} {fa fb : Rho → M W T} {apos pos : Pos}
theorem pv_join (ha : PVs X G E o fa) (hb : PVs X G E e fb) (hs : starEach [e] X.env = [(false, eval e X.env)] := by rfl) (hbase : attributeBase o "join" X.env (eval o X.env) = eval o X.env := by rfl) (hline : (apos.endLine == pos.line) = true := by rfl) :
    PV X G E (.Call (.Attribute o "join" apos) [e] [] pos) (fM1 joinT fa fb) := ⟨(pe_join ha.run hb.run hs hbase hline).imp fun σ H Q => by
  rintro ⟨ρ, w, F, q, w', S, hf, acc⟩
  refine tVs.bind (X := X) S hf acc.er fun t w1 x H1 F1 S1 s1 r1 hk => ?_
  obtain ⟨a, rfl, hk2⟩ := strM_bnd hk
  clear hk
  refine ⟨⟨a, r1.str⟩, ?_⟩
  refine tVs.bind (X := X) S1 hk2 (acc.mono s1 S1.dH).er fun u w2 y H2 F2 S2 s2 r2 hk => ?_
  obtain ⟨z, hz, rfl, rfl⟩ := lift_inv hk
  simp only [joinT, Option.bind_eq_some_iff] at hz
  obtain ⟨ts, e1, ys, e2, e3⟩ := hz
  split at e3
  · rename_i hl
    cases e3
    have k := acc (.str (Txt.join a ys)) H2 F2 S2 (s1.trans s2 S1.dH) (.str _)
    cases u with
    | lst us =>
      cases e1
      obtain ⟨p, vs, rfl, hH, rs⟩ := r2.lst S2
      have := rs.strs e2
      subst this
      exact ⟨a, p, ys, r1.str, rfl, .inl (.of hH), hl, k⟩
    | tup us =>
      cases e1
      obtain ⟨p, vs, rfl, _, hH, rs⟩ := r2.tup S2
      have := rs.strs e2
      subst this
      exact ⟨a, p, ys, r1.str, rfl, .inr hH, hl, k⟩
    | _ => cases e1
  · cases e3⟩
theorem pf_split (ha : PVs X G E o fa) (hb : PVs X G E e fb) (hs : starEach [e] X.env = [(false, eval e X.env)] := by rfl) (hbase : attributeBase o "split" X.env (eval o X.env) = eval o X.env := by rfl) (hline : (apos.endLine == pos.line) = true := by rfl) :
    PF X G E (.Call (.Attribute o "split" apos) [e] [] pos) (fM1l splitT fa fb) := ⟨(pe_split ha.run hb.run hs hbase hline).imp fun σ H Q => by
  rintro ⟨ρ, w, F, q, w', S, hf, acc⟩
  refine tVs.bind (X := X) S hf acc.er fun t w1 x H1 F1 S1 s1 r1 hk => ?_
  obtain ⟨a, rfl, hk2⟩ := strM_bnd hk
  clear hk
  refine ⟨⟨a, r1.str⟩, ?_⟩
  refine tVs.bind (X := X) S1 hk2 (AccF.er (X := X) acc |> fun h e z => AccE.mono (X := X) (h e z) s1.same) fun u w2 y H2 F2 S2 s2 r2 hk => ?_
  obtain ⟨z, hz, rfl, rfl⟩ := lift_inv hk
  unfold splitT at hz
  split at hz
  · rename_i b
    split at hz
    · rename_i hl
      cases hz
      exact ⟨a, b, r1.str, by rw [r2.str], hl.1, hl.2, fun p hp => acc p _ _ F2 (S2.laid hp) ((s1.trans s2 S1.dH).trans (.laid hp) S2.dH) ((s1.trans s2 S1.dH).free0 S2.dH hp) upd_same (S2.sub.free hp) (S2.fresh hp).2.1 (S2.noSlot hp) (Reps.ofStrs _)⟩
    · cases hz
  · cases hz⟩
end

/-! ### isinstance -/
/-- the built-in type of a value -/
def tyT : T → Option String
  | .non => some "NoneType"
  | .bl _ => some "bool"
  | .int _ => some "int"
  | .str _ => some "str"
  | .tup _ => some "tuple"
  | .lst _ => some "list"
  | .dct _ _ => some "dict"
  | _ => none
def isaT (n : String) (t : T) : Option T := (tyT t).bind fun a => (kitB a n).map T.bl
theorem ShR.ty {K : PySem.W.Frag} {t : T} {v : V} {a : String} (S : Sd K G ρ w σ H F) (h : ShR K ρ σ F v t) (e : tyT t = some a) : TyX K H v (.type a) := by
  cases t with
  | non => cases e; rw [h.non]; exact .base .non
  | bl b => cases e; rw [h.bl]; exact .base (.bl b)
  | int b => cases e; rw [h.int]; exact .base (.int b)
  | str b => cases e; rw [h.str]; exact .base (.str b)
  | tup ts =>
    cases e
    obtain ⟨p, vs, rfl, _, hH, _⟩ := h.tup S
    rcases hH with (hH | ⟨o, hH⟩) | ⟨o, its, n, hk, hc, _⟩
    · exact .base (.tup hH)
    · exact .fTuple hH
    · exact .kTuple hk hc
  | lst ts =>
    cases e
    obtain ⟨p, vs, rfl, hH, _⟩ := h.lst S
    exact .base (.lst hH)
  | dct ks ts =>
    cases e
    obtain ⟨p, vs, rfl, hH, _⟩ := h.dct S
    rcases hH with hH | ⟨o, hH⟩
    · exact .base (.dK hH)
    · exact .fDict hH
  | ins _ _ _ => cases e
  | raw _ => cases e
section
variable {e : Expr} {fa : Rho → M W T} {n : String} {x y : Str} {p p2 pos : Pos}
theorem pv_isa (hg : Gl X "isinstance") (hm : X.mg "isinstance" = none) (hg2 : Gl X y) (hm2 : X.mg y = none) (hv2 : bootBuiltins y = some (.type n)) (ha : PVs X G E e fa) (hn2 : y ≠ "__name__" := by decide) (hd2 : (y == ("__debug__" : Str)) = false := by decide)
    (he : starEach [e, .Name y p2] X.env = (false, eval e X.env) :: starEach [.Name y p2] X.env := by rfl) (he2 : starEach [.Name y p2] X.env = (false, eval (.Name y p2) X.env) :: starEach [] X.env := by rfl) (hpl : (backTo pos (starEach [.Name y p2] X.env)).any (·.1) = false := by rfl) :
    PV X G E (.Call (.Name "isinstance" p) [e, .Name y p2] [] pos) (f1 (isaT n) fa) :=
  ⟨(pe_callB call_isi hg hm PyProof.Rows.boot_isinstance (pa_cons ha.run (pa_cons (pe_bltn (v := .ty n) hg2 hm2 hv2 rfl hn2 hd2) pa_nil he2) he) (by decide) (by decide) he hpl).imp fun σ H Q => by
    rintro ⟨ρ, w, F, q, w', S, hf, acc⟩
    refine tVs.bind (X := X) S hf acc.er fun t w1 x H1 F1 S1 s1 r1 hk => ?_
    obtain ⟨z, hz, rfl, rfl⟩ := lift_inv hk
    simp only [isaT, Option.bind_eq_some_iff, Option.map_eq_some_iff] at hz
    obtain ⟨a, e1, b, e2, rfl⟩ := hz
    exact ⟨x, .ty n, .type a, .type n, b, rfl, .ty n, r1.ty S1 e1, kit_ty e2, acc _ H1 F1 S1 s1 (.bl _)⟩⟩
end
end
end PL

/-! PLk: freezing; unpacking; pop; dicts of the body's own; a def by its body. -/
namespace PL
open PySem PySem.Spec PyProof.Rows L2
section
variable {W : Type} {X : Cx} {G : Gm W} {E : XK} {ρ : Rho} {w w' : W} {σ : L2.St} {H F : Hp}

/-! ### names, with what they ask by default -/
theorem pvv (i : Nat) {x : Str} {pos : Pos} (hN : X.N[i]? = some x := by rfl) (hv : Vis X.env.scope x := by first | exact Or.inl rfl | exact Or.inr (Or.inl rfl) | exact Or.inr (Or.inr rfl)) (hd : (x == ("__debug__" : Str)) = false := by decide)
    (hcd : (x == ("__classdict__" : Str)) = false := by decide) : PV X G E (.Name x pos) (fVar i) := pv_var i hN hv hd hcd
theorem pvvS (i : Nat) {x : Str} {pos : Pos} (hN : X.N[i]? = some x := by rfl) (hv : Vis X.env.scope x := by first | exact Or.inl rfl | exact Or.inr (Or.inl rfl) | exact Or.inr (Or.inr rfl)) (hd : (x == ("__debug__" : Str)) = false := by decide)
    (hcd : (x == ("__classdict__" : Str)) = false := by decide) : PVs X G E (.Name x pos) (fVarS i) := pv_varS i hN hv hd hcd

/-! ### freezing -/
def frz (s : Sl) : Sl := match s with
  | .ow ts => .fz (.lst ts)
  | .od ks ts => .fz (.dct ks ts)
  | s => s
def frzAt (i : Nat) (ρ : Rho) : Rho := match ρ[i]? with
  | some s => ρ.set i (frz s)
  | none => ρ
theorem Sd.frz {K : PySem.W.Frag} (S : Sd K G ρ w σ H F) (i : Nat) : ∃ F', Same F F' ∧ Sd K G (frzAt i ρ) w σ H F' := by
  unfold frzAt
  cases hs : ρ[i]? with
  | none => exact ⟨F, Same.refl F, S⟩
  | some s =>
    have same : ∀ s', s' = s → Sd K G (ρ.set i s') w σ H F := fun s' e => by
      subst e
      have : ρ.set i s' = ρ := by
        apply List.ext_getElem?
        intro j
        by_cases h : i = j
        · subst h
          rw [List.getElem?_set_self (List.getElem?_eq_some_iff.mp hs).1, hs]
        · rw [List.getElem?_set_ne h]
      rw [this]; exact S
    have main : ∀ (p : Addr) (o : HO) (t : T), s.owns = true → PL.frz s = .fz t → σ[i]? = some (some (.ref p)) → H p = some o → F p = none → G.B p = none → Rep K (upd F p o) (.ref p) t → ∃ F', Same F F' ∧ Sd K G (ρ.set i (PL.frz s)) w σ H F' := by
      intro p o t ho ht hv hp hf hB hr
      have gr : Same F (upd F p o) := Same.updN hf
      have nd := S.ndB hB
      refine ⟨upd F p o, gr, ⟨fun b u e => ?_, S.wok, fun b db => ?_, S.dB, S.keep, S.grow.trans gr, fun b hb => ?_, fun j z hj => ?_, fun j k a b hj hk ha hb e => ?_, by simp [S.len]⟩⟩
      · by_cases h : b = p
        · subst h; rw [upd_same] at e; rw [hp]; exact e
        · rw [upd_ne h] at e; exact S.sub b u e
      · rw [upd_ne (neq_of nd db)]; exact S.dF b db
      · rw [upd_ne (neq_of (P := fun b => G.B b ≠ none) (fun z => z hB) hb)]; exact S.old b hb
      · rcases getElem?_set' hj with ⟨rfl, rfl⟩ | ⟨nj, hj⟩
        · rw [ht]; exact ⟨_, hv, hr⟩
        · have q := S.slots j z hj
          have np : ∀ p', z.owns = true → σ[j]? = some (some (V.ref p')) → p' ≠ p := fun p' hz e h => by
            subst h
            exact nj (S.apart i j _ _ hs hj ho hz (by rw [hv, e]))
          cases z with
          | un => trivial
          | fz t' => obtain ⟨v, e, r⟩ := q; exact ⟨v, e, r.mono gr⟩
          | ow ts => obtain ⟨p', vs, e, h1, h2, h3, r⟩ := q; exact ⟨p', vs, e, h1, by rw [upd_ne (np p' rfl e)]; exact h2, h3, r.mono gr⟩
          | od ks ts => obtain ⟨p', vs, e, h1, hl, h2, h3, r⟩ := q; exact ⟨p', vs, e, h1, hl, by rw [upd_ne (np p' rfl e)]; exact h2, h3, r.mono gr⟩
      · rcases getElem?_set' hj with ⟨rfl, rfl⟩ | ⟨nj, hj⟩
        · rw [ht] at ha; cases ha
        · rcases getElem?_set' hk with ⟨rfl, rfl⟩ | ⟨nk, hk⟩
          · rw [ht] at hb; cases hb
          · exact S.apart j k a b hj hk ha hb e
    cases s with
    | un => exact ⟨F, Same.refl F, same _ rfl⟩
    | fz t => exact ⟨F, Same.refl F, same _ rfl⟩
    | ow ts =>
      obtain ⟨p, vs, hv, h1, h2, h3, r⟩ := S.slots i _ hs
      exact main p _ _ rfl rfl hv h1 h2 h3 (.lst upd_same (r.mono (Same.updN h2)))
    | od ks ts =>
      obtain ⟨p, vs, hv, h1, hl, h2, h3, r⟩ := S.slots i _ hs
      exact main p _ _ rfl rfl hv h1 h2 h3 (.dct (.inl upd_same) hl (r.mono (Same.updN h2)))
theorem pds_frz (i : Nat) {sts : List Stmt} {g : Rho → M W Fl} (h : PDs X G E sts g) : PDs X G E sts fun ρ => g (frzAt i ρ) := ⟨h.run.imp fun D σ H => by
  rintro ⟨ρ, w, F, r, w', S, hf, acc⟩
  obtain ⟨F', s, S'⟩ := S.frz i
  exact ⟨_, w, F', r, w', S', hf, AccD.mono (X := X) acc s⟩⟩
theorem pd_frz (i : Nat) {st : Stmt} {g : Rho → M W Fl} (h : PD X G E st g) : PD X G E st fun ρ => g (frzAt i ρ) := ⟨h.run.imp fun D σ H => by
  rintro ⟨ρ, w, F, r, w', S, hf, acc⟩
  obtain ⟨F', s, S'⟩ := S.frz i
  exact ⟨_, w, F', r, w', S', hf, AccD.mono (X := X) acc s⟩⟩

/-! ### a, b = e -/
section
variable {e tg : Expr} {fa : Rho → M W T} {is : List Nat} {h : T → Rho → Option Rho} {pos : Pos}
def dUnp (h : T → Rho → Option Rho) (fa : Rho → M W T) : Rho → M W Fl := fun ρ => bnd (fa ρ) fun t => bnd (lift (h t ρ)) fun ρ' => ret (.nx ρ')
theorem pd_unp (ha : PV X G E e fa) (hg : PGt X G tg is h) (hs : swapsWithSole [tg] e pos.line X.env = pure false := by rfl) (hw : swappedStores [tg] e X.env = pure none := by rfl)
    (h1 : (assignEach [tg] X.env).map (·.2) = [assign tg X.env] := by rfl) : PD X G E (.Assign [tg] e pos) (dUnp h fa) := ⟨(ps_asg ha.run hg.run hs hw h1).imp fun D σ H => by
  rintro ⟨ρ, w, F, r, w', S, hf, acc⟩
  refine tV.bind (X := X) S hf acc.er fun t w1 x H1 F1 S1 s1 r1 hk => ?_
  obtain ⟨ρ', hh, hk⟩ := lift_bnd hk
  obtain ⟨rfl, rfl⟩ := ret_inv hk
  exact ⟨ρ, _, F1, t, ρ', S1, r1, hh, fun σ' S' _ _ => acc σ' H1 F1 S' s1.same⟩⟩
end

/-! ### pop -/
/-- i's list loses its k-th item -/
def popAt {β : Type} (i : Nat) (ρ : Rho) (t : T) (k : Rho → T → M W β) : M W β := owM i ρ fun ts => bnd (intM t) fun n => match ixN ts.length n with
  | some j => match ts[j]? with
    | some u => if -(2 ^ 63) ≤ n ∧ n < 2 ^ 63 then k (ρ.set i (.ow (ts.eraseIdx j))) u else stuck
    | none => stuck
  | none => stuck
theorem popAt_inv {β : Type} {i : Nat} {t : T} {k : Rho → T → M W β} {r : R β} (h : popAt i ρ t k w = some (r, w')) :
    ∃ ts n j u, ρ[i]? = some (.ow ts) ∧ t = .int n ∧ ixN ts.length n = some j ∧ ts[j]? = some u ∧ -(2 ^ 63) ≤ n ∧ n < 2 ^ 63 ∧ k (ρ.set i (.ow (ts.eraseIdx j))) u w = some (r, w') := by
  obtain ⟨ts, h1, h2⟩ := owM_inv h
  obtain ⟨n, rfl, h3⟩ := intM_bnd h2
  cases e : ixN ts.length n with
  | none => rw [e] at h3; cases h3
  | some j =>
    rw [e] at h3
    cases e2 : ts[j]? with
    | none => simp only [e2] at h3; cases h3
    | some u =>
      simp only [e2] at h3
      split at h3
      · exact ⟨ts, n, j, u, h1, rfl, e, e2, by omega, by omega, h3⟩
      · cases h3
section
variable {e : Expr} {fa : Rho → M W T} {pos : Pos}
/-- y = x.pop(e) -/
def dPop (j i : Nat) (fa : Rho → M W T) : Rho → M W Fl := fun ρ => owM i ρ fun _ => bnd (fa ρ) fun t => popAt i ρ t fun ρ' u => ret (.nx (ρ'.set j (.fz u)))
theorem pop_core {te : TE} {i : Nat} {ts : List T} {p : Addr} {vs : List V} {n : Int} {j : Nat} {u : T} (S : Sd X.K G ρ w σ H F) (h0 : ρ[i]? = some (.ow ts)) (hv : σ[i]? = some (some (.ref p))) (h1 : H p = some (.lst vs)) (r : Reps X.K F vs ts)
    (e : ixN ts.length n = some j) (e2 : ts[j]? = some u) (b1 : -(2 ^ 63) ≤ n) (b2 : n < 2 ^ 63) (Q : VK) (k : ∀ v, Rep X.K F v u → Sd X.K G (ρ.set i (.ow (ts.eraseIdx j))) w σ (upd H p (.lst (vs.eraseIdx j))) F → Q v (upd H p (.lst (vs.eraseIdx j)))) :
    rPopAt (.ref p) [.int n] H Q := by
  obtain ⟨v, hv2, rv⟩ := r.get e2
  obtain ⟨q1, _⟩ := ixN_seq e
  exact ⟨p, vs, n, j, v, rfl, rfl, h1, b1, b2, by rw [r.length]; exact q1, hv2, k v rv (S.putL h0 hv h1 (r.eraseIdx j))⟩
theorem pd_pop (j i : Nat) {y x : Str} {py px ap cp : Pos} (ha : PV X G E e fa) (hN : X.N.Nodup) (hj : X.N[j]? = some y) (hy : Loc X.env.scope y)
    (hpe : ∀ {te : TE}, PE X e te → PE X (.Call (.Attribute (.Name x px) "pop" ap) [e] [] cp) (tBM X.K "list" rPopAt (tVar i) (tCons te tNil)))
    (hs : swapsWith (.Call (.Attribute (.Name x px) "pop" ap) [e] [] cp) (some (.Name y py)) pos.line X.env = pure false := by rfl)
    (hf : X.fn y = true ∨ X.env.scope.names.lookup y = some .local := by first | exact .inl rfl | exact .inr rfl | assumption) : PD X G E (.Assign [.Name y py] (.Call (.Attribute (.Name x px) "pop" ap) [e] [] cp) pos) (dPop j i fa) :=
  ⟨(ps_set hN hj hy (hpe ha.run) hs hf).imp fun D σ H => by
  rintro ⟨ρ, w, F, r, w', S, hf, acc⟩
  obtain ⟨ts, hi, hf⟩ := owM_inv hf
  obtain ⟨p, vs, h0, h1, h2, h3, rv⟩ := S.own hi
  refine ⟨.ref p, h0, .inl ⟨rfl, vs, .of h1⟩, ?_⟩
  refine tV.bind (X := X) S hf acc.er fun t w1 y H1 F1 S1 s1 r1 hk => ?_
  obtain ⟨ts', n, jj, u, k1, rfl, k3, k4, k5, k6, k7⟩ := popAt_inv hk
  rw [hi] at k1; cases k1
  obtain ⟨rfl, rfl⟩ := ret_inv k7
  obtain rfl := r1.int_inv
  have h1' : H1 p = some (.lst vs) := s1.keep p _ h1 (S.ndB h3)
  exact pop_core (te := fun _ _ _ => True) S1 hi h0 h1' (rv.mono s1.same) k3 k4 k5 k6 _ fun v rv' S' => acc _ _ F1 (S'.setF rv' j) s1.same⟩
/-- y.append(x.pop(e)) -/
def dAppPop (j i : Nat) (fa : Rho → M W T) : Rho → M W Fl := fun ρ => owM j ρ fun us => owM i ρ fun _ => bnd (fa ρ) fun t => popAt i ρ t fun ρ' u => if us.length < sizeLine ∧ i ≠ j then ret (.nx (ρ'.set j (.ow (us ++ [u])))) else stuck
theorem pd_appPop (j i : Nat) {y x : Str} {py px ap cp bp dp : Pos} (ha : PV X G E e fa)
    (hpe : ∀ {te : TE}, PE X e te → PE X (.Call (.Attribute (.Name y py) "append" bp) [.Call (.Attribute (.Name x px) "pop" ap) [e] [] cp] [] dp) (tBM X.K "list" rAppend (tVar j) (tCons (tBM X.K "list" rPopAt (tVar i) (tCons te tNil)) tNil)))
    (hs : swapsWith (.Call (.Attribute (.Name y py) "append" bp) [.Call (.Attribute (.Name x px) "pop" ap) [e] [] cp] [] dp) none pos.line X.env = pure false := by rfl) :
    PD X G E (.Expr (.Call (.Attribute (.Name y py) "append" bp) [.Call (.Attribute (.Name x px) "pop" ap) [e] [] cp] [] dp) pos) (dAppPop j i fa) :=
  ⟨(ps_expr (hpe ha.run) hs).imp fun D σ H => by
  rintro ⟨ρ, w, F, r, w', S, hf, acc⟩
  obtain ⟨us, hj, hf⟩ := owM_inv hf
  obtain ⟨ts, hi, hf⟩ := owM_inv hf
  obtain ⟨q, zs, g0, g1, g2, g3, rz⟩ := S.own hj
  obtain ⟨p, vs, h0, h1, h2, h3, rv⟩ := S.own hi
  refine ⟨.ref q, g0, .inl ⟨rfl, zs, .of g1⟩, .ref p, h0, .inl ⟨rfl, vs, .of h1⟩, ?_⟩
  refine tV.bind (X := X) S hf acc.er fun t w1 y H1 F1 S1 s1 r1 hk => ?_
  obtain ⟨ts', n, jj, u, k1, rfl, k3, k4, k5, k6, k7⟩ := popAt_inv hk
  rw [hi] at k1; cases k1
  split at k7
  · rename_i hl
    obtain ⟨rfl, rfl⟩ := ret_inv k7
    obtain rfl := r1.int_inv
    have h1' : H1 p = some (.lst vs) := s1.keep p _ h1 (S.ndB h3)
    have g1' : H1 q = some (.lst zs) := s1.keep q _ g1 (S.ndB g3)
    have nqp : q ≠ p := fun z => hl.2 (S.apart i j _ _ hi hj rfl rfl (by rw [h0, g0, z]))
    refine pop_core (te := fun _ _ _ => True) S1 hi h0 h1' (rv.mono s1.same) k3 k4 k5 k6 _ fun v rv' S' => ?_
    have hj' : (ρ.set i (.ow (ts.eraseIdx jj)))[j]? = some (.ow us) := by rw [List.getElem?_set_ne hl.2]; exact hj
    have g1'' : (upd H1 p (.lst (vs.eraseIdx jj))) q = some (.lst zs) := by rw [upd_ne nqp]; exact g1'
    exact ⟨q, zs, v, rfl, rfl, g1'', by rw [rz.length]; exact hl.1, acc _ _ F1 (S'.putL hj' g0 g1'' ((rz.mono s1.same).append (.one rv'))) s1.same⟩
  · cases k7⟩
end

/-! ### a dict of the body's own -/
def keyT : T → Option Key
  | .str x => some (.inr x)
  | .int i => some (.inl i)
  | _ => none
def hasK (ks : List Key) (k : Key) : Bool := ks.any fun k' => decide (k' = k)
def putD (ks : List Key) (ts : List T) (k : Key) (t : T) : List Key × List T := if hasK ks k = true then (ks, List.zipWith (fun k' t' => if k' = k then t else t') ks ts) else (ks ++ [k], ts ++ [t])
theorem putK_zip (k : Key) (v : V) : ∀ (ks : List Key) (vs : List V), ks.length = vs.length → putK (ks.zip vs) k v = if hasK ks k = true then ks.zip (List.zipWith (fun k' v' => if k' = k then v else v') ks vs) else (ks ++ [k]).zip (vs ++ [v]) := by
  have any : ∀ (ks : List Key) (vs : List V), ks.length = vs.length → ((ks.zip vs).any fun kv => decide (kv.1 = k)) = hasK ks k := by
    intro ks
    induction ks with
    | nil => intro vs _; rfl
    | cons k' ks ih =>
      intro vs h
      cases vs with
      | nil => cases h
      | cons v' vs =>
        unfold hasK at ih ⊢
        simp only [List.zip_cons_cons, List.any_cons, ih vs (by simpa using h)]
  intro ks vs h
  unfold putK
  rw [any ks vs h]
  by_cases hk : hasK ks k = true
  · rw [if_pos hk, if_pos hk]
    clear hk any
    induction ks generalizing vs with
    | nil => rfl
    | cons k' ks ih =>
      cases vs with
      | nil => cases h
      | cons v' vs =>
        simp only [List.zip_cons_cons, List.map_cons, List.zipWith_cons_cons, ih vs (by simpa using h)]
        by_cases hk : k' = k <;> simp [hk]
  · rw [if_neg hk, if_neg hk, List.zip_append h]
    rfl
theorem Reps.put {K : PySem.W.Frag} {k : Key} {v : V} {t : T} (hv : Rep K F v t) : ∀ {ks : List Key} {vs : List V} {ts : List T}, Reps K F vs ts → Reps K F (List.zipWith (fun k' v' => if k' = k then v else v') ks vs) (List.zipWith (fun k' t' => if k' = k then t else t') ks ts)
  | [], _, _, _ => by simpa using Reps.nil
  | _ :: _, _, _, .nil => by simpa using Reps.nil
  | k' :: ks, _, _, .cons h r => by
    simp only [List.zipWith_cons_cons]
    by_cases hk : k' = k
    · simp only [hk, if_true]; exact .cons hv (Reps.put hv r)
    · simp only [hk, if_false]; exact .cons h (Reps.put hv r)
theorem Sd.putO {K : PySem.W.Frag} {i : Nat} {ks ks' : List Key} {ts us : List T} {p : Addr} {vs zs : List V} (S : Sd K G ρ w σ H F) (hi : ρ[i]? = some (.od ks ts)) (hv : σ[i]? = some (some (.ref p))) (hp : H p = some (.dK (ks.zip vs))) (hl : ks'.length = zs.length) (r : Reps K F zs us) :
    Sd K G (ρ.set i (.od ks' us)) w σ (upd H p (.dK (ks'.zip zs))) F := by
  obtain ⟨p', vs', e', h1, hl', h2, h3, _⟩ := S.slots i _ hi
  rw [hv] at e'; cases e'
  have nd := S.ndB h3
  have ne : ∀ b o, F b = some o → b ≠ p := fun b o e z => by subst z; rw [h2] at e; cases e
  refine ⟨fun b o e => by rw [upd_ne (ne b o e)]; exact S.sub b o e, G.O.stay S.wok (fun b db => upd_ne (neq_of nd db)) (fun b f e => upd_ne fun z => by rw [z, hp] at e; cases e), S.dF, S.dB, fun b o e d => ?_, S.grow, S.old, fun j s hj => ?_, fun j k s t hj hk hs ht e => ?_, by simp [S.len]⟩
  · rw [upd_ne (fun z => by subst z; rw [h3] at e; cases e)]; exact S.keep b o e d
  · rcases getElem?_set' hj with ⟨rfl, rfl⟩ | ⟨nj, hj⟩
    · exact ⟨p, zs, hv, upd_same, hl, h2, h3, r⟩
    · have q := S.slots j s hj
      have np : ∀ p', s.owns = true → σ[j]? = some (some (.ref p')) → p' ≠ p := fun p' ho e z => by
        subst z
        exact nj (S.apart i j _ s hi hj rfl ho (by rw [hv, e]))
      cases s with
      | un => trivial
      | fz t => exact q
      | ow ts' =>
        obtain ⟨p', vs', e, q1, q2⟩ := q
        exact ⟨p', vs', e, by rw [upd_ne (np p' rfl e)]; exact q1, q2⟩
      | od ks' ts' =>
        obtain ⟨p', vs', e, q1, q2⟩ := q
        exact ⟨p', vs', e, by rw [upd_ne (np p' rfl e)]; exact q1, q2⟩
  · have old : ∀ {j : Nat} {s : Sl}, (ρ.set i (.od ks' us))[j]? = some s → s.owns = true → ∃ s', ρ[j]? = some s' ∧ s'.owns = true := fun {j s} hj hs => by
      rcases getElem?_set' hj with ⟨rfl, rfl⟩ | ⟨_, hj⟩
      · exact ⟨_, hi, rfl⟩
      · exact ⟨s, hj, hs⟩
    obtain ⟨s', a1, a2⟩ := old hj hs
    obtain ⟨t', b1, b2⟩ := old hk ht
    exact S.apart j k s' t' a1 b1 a2 b2 e
def odM {β : Type} (i : Nat) (ρ : Rho) (k : List Key → List T → M W β) : M W β := match ρ[i]? with
  | some (.od ks ts) => k ks ts
  | _ => stuck
theorem odM_inv {β : Type} {i : Nat} {k : List Key → List T → M W β} {r : R β} (h : odM i ρ k w = some (r, w')) : ∃ ks ts, ρ[i]? = some (.od ks ts) ∧ k ks ts w = some (r, w') := by
  unfold odM at h
  cases e : ρ[i]? with
  | none => rw [e] at h; cases h
  | some s =>
    rw [e] at h
    cases s with
    | od ks ts => exact ⟨ks, ts, rfl, h⟩
    | un => cases h
    | fz t => cases h
    | ow ts => cases h
section
variable {e v : Expr} {fe fv : Rho → M W T} {pos : Pos}
/-- x[e] = v, x the body's own dict -/
def dPut (i : Nat) (fe fv : Rho → M W T) : Rho → M W Fl := fun ρ => odM i ρ fun _ _ => bnd (fv ρ) fun t => bnd (fe ρ) fun u => bnd (lift (keyT u)) fun k => odM i ρ fun ks ts => if ks.length < sizeLine then ret (.nx (ρ.set i (.od (putD ks ts k t).1 (putD ks ts k t).2))) else stuck
theorem Sd.ownD {K : PySem.W.Frag} {i : Nat} {ks : List Key} {ts : List T} (S : Sd K G ρ w σ H F) (h : ρ[i]? = some (.od ks ts)) : ∃ p vs, σ[i]? = some (some (.ref p)) ∧ H p = some (.dK (ks.zip vs)) ∧ ks.length = vs.length ∧ F p = none ∧ G.B p = none ∧ Reps K F vs ts := S.slots i _ h
theorem pd_put (i : Nat) {x : Str} {px pos' : Pos} (hu : X.A.units + 1 < cLine) (hx : PE X (.Name x px) (tVar i)) (he : PV X G E e fe) (hv : PV X G E v fv) (hs : swapsWith v (some (.Subscript (.Name x px) e pos')) pos.line X.env = pure false := by rfl) :
    PD X G E (.Assign [.Subscript (.Name x px) e pos'] v pos) (dPut i fe fv) := ⟨(ps_dput hu hx he.run hv.run hs).imp fun D σ H => by
  rintro ⟨ρ, w, F, r, w', S, hf, acc⟩
  obtain ⟨ks, ts, hi, hf⟩ := odM_inv hf
  refine tV.bind (X := X) S hf acc.er fun t w1 y H1 F1 S1 s1 r1 hk => ?_
  obtain ⟨p, vs, h0, h1, hl, h2, h3, rv⟩ := S1.ownD hi
  refine ⟨.ref p, h0, ?_⟩
  refine tV.bind (X := X) S1 hk (AccD.mono (X := X) acc s1.same).er fun u w2 z H2 F2 S2 s2 r2 hk => ?_
  obtain ⟨k, hkey, hk⟩ := lift_bnd hk
  obtain ⟨ks', ts', hi', hk⟩ := odM_inv hk
  rw [hi] at hi'; cases hi'
  split at hk
  · rename_i hsz
    obtain ⟨rfl, rfl⟩ := ret_inv hk
    have h1' : H2 p = some (.dK (ks.zip vs)) := s2.keep p _ h1 (S1.ndB h3)
    have ez : z = kV k := by
      cases u with
      | str x => cases hkey; exact r2.str_inv
      | int x => cases hkey; exact r2.int_inv
      | _ => cases hkey
    have elen : (ks.zip vs).length < sizeLine := by rw [List.length_zip]; omega
    refine ⟨p, _, rfl, by rw [ez]; exact DPut.k h1' elen, ?_⟩
    rw [putK_zip k y ks vs hl]
    have ry := r1.mono s2.same
    have rr := rv.mono s2.same
    unfold putD at acc
    split
    · rename_i hh
      rw [if_pos hh] at acc
      exact acc _ _ F2 (S2.putO hi h0 h1' (by simp [hl]) (rr.put ry)) (s1.same.trans s2.same)
    · rename_i hh
      rw [if_neg hh] at acc
      exact acc _ _ F2 (S2.putO hi h0 h1' (by simp [hl]) (rr.append (.one ry))) (s1.same.trans s2.same)
  · cases hk⟩
/-- d.get(k, x) -/
def getT (d k x : T) : Option T := match d with
  | .dct ks ts => (keyT k).map fun k => (((ks.zip ts).find? fun kv => decide (kv.1 = k)).map (·.2)).getD x
  | _ => none
def f3 (g : T → T → T → Option T) (fa fb fc : Rho → M W T) : Rho → M W T := fun ρ => bnd (fa ρ) fun t => bnd (lift (match t with | .dct _ _ => some () | _ => none)) fun _ => bnd (fb ρ) fun u => bnd (fc ρ) fun v => lift (g t u v)
theorem pv_dget2 {o a b : Expr} {fo fa fb : Rho → M W T} {apos cpos : Pos} (hu : X.A.units + 1 < cLine) (ho : PVs X G E o fo) (ha : PV X G E a fa) (hb : PV X G E b fb) (m : M2 X o "get" apos a b cpos) :
    PV X G E (.Call (.Attribute o "get" apos) [a, b] [] cpos) (f3 getT fo fa fb) := ⟨(pe_dget2 hu ho.run ha.run hb.run m).imp fun σ H Q => by
  rintro ⟨ρ, w, F, r, w', S, hf, acc⟩
  refine tVs.bind (X := X) S hf acc.er fun t w1 x H1 F1 S1 s1 r1 hk => ?_
  obtain ⟨_, ht, hk2⟩ := lift_bnd hk
  clear hk
  cases t with
  | dct ks ts =>
    obtain ⟨p, vs, rfl, hp, _⟩ := r1.dct S1
    refine ⟨p, rfl, .inl ⟨_, hp⟩, ?_⟩
    refine tV.bind (X := X) S1 hk2 (acc.mono s1 S1.dH).er fun u w2 y H2 F2 S2 s2 r2 hk => ?_
    refine tV.bind (X := X) S2 hk (acc.mono (s1.trans s2 S1.dH) S2.dH).er fun v w3 z H3 F3 S3 s3 r3 hk => ?_
    obtain ⟨zz, hz, rfl, rfl⟩ := lift_inv hk
    simp only [getT, Option.map_eq_some_iff] at hz
    obtain ⟨k, hkey, rfl⟩ := hz
    obtain ⟨p', vs', e, hp3, hl3, rs⟩ := ((r1.mono s2.same).mono s3.same).dct S3
    cases e
    have ey : y = kV k := by
      cases u with
      | str x => cases hkey; exact r2.str_inv
      | int x => cases hkey; exact r2.int_inv
      | _ => cases hkey
    have g := (s1.trans s2 S1.dH).trans s3 S2.dH
    refine ⟨_, by rw [ey]; exact .inl ⟨_, _, hp3, rfl, rfl⟩, ?_⟩
    rcases rs.valV (k := k) hl3 with ⟨e1, e2⟩ | ⟨v', t', e1, e2, rv⟩
    · rw [e1] at acc; rw [e2]; exact acc z H3 F3 S3 g r3
    · rw [e1] at acc; rw [e2]; exact acc v' H3 F3 S3 g rv
  | _ => cases ht⟩
end
end
end PL

/-! PLl: a def by its body; the module's constants. -/
namespace PL
open PySem PySem.Spec PyProof.Rows L2
section
variable {W : Type} {P : Program} {w : World} {K : PySem.W.Frag} {mg : Str → Option Value} {base : Heap}
/-- a def of the module -/
structure DefAt (K : PySem.W.Frag) (mg : Str → Option Value) (x : Str) (st : Stmt) : Prop where
  ex : ∃ f fd, Fun K x x st f fd ∧ mg x = some (.ref f)
/-- a def or method by its body; no repr is under way around it -/
theorem body_ok {x qual : Str} {st : Stmt} {f : Addr} {fd : FuncData} {N ps : List Str} {n m k : Nat} {g : Rho → M W Fl} (F : Fun K x qual st f fd) (S : FnScope N ps (defScope st)) (hps : ps.length = n) (hN : N.length = n + m)
    (hbody : ∀ (cdv : Value) (A : Around) (outer : List PySem.Env) (s : Shared) (H : Hp) (E : XK) (G : Gm W), Room k (A.deeper (envOfC qual (defScope st) s.heap.objs.size f cdv)) → (A.deeper (envOfC qual (defScope st) s.heap.objs.size f cdv)).guards = some [] →
      PDs (cxOf (L2.CX P w) P w K mg base N qual (defScope st) f cdv A outer s H E) G E (defBody st) g) :
    FnG P w K mg base (L2.CX P w) (k + 1) f fd ps (spF K n (run m g)) := by
  obtain ⟨oc, od, kV, doc, pm, an, cdv, ct, osl, rfl, lk, hcd⟩ := F.ex
  have hlen : ∀ vs H Q E, spF K n (run m g) vs H Q E → vs.length = ps.length := fun vs H Q E h => by rw [spF.len _ _ _ _ h, hps]
  refine ⟨hlen, fun A outer s H args us vs Q E hr hgd e0 hb r hsp => ?_⟩
  have KX : K.In s.heap := e0.mod.kin.keeps fun b o e => (e0.bs b o e).1
  have hkind : ∀ y ∈ ps.zip us, (defScope st).names.lookup y.1 = some .local ∨ ((defScope st).names.lookup y.1 = some .cell ∧ ((cellsFrom (s.heap.objs.size + 1) (defScope st).names []).lookup y.1).isSome = true) := fun ⟨z, v⟩ hy =>
    (S.par z (List.of_mem_zip hy).1).imp id fun q => ⟨q, PySem.W.cellsFrom_some _ _ _ (.inl q)⟩
  refine codeAny_call_function hr.depth (KX _ _ lk) rfl S.co S.gen rfl (PySem.W.codeRec_of KX hcd) (hb _ _ _ _ (wpAny_newFunctionEnv_cells S.kind hkind fun env he s1 e1 => ?_))
  subst he
  obtain ⟨G, hG⟩ := spF.body (X := cxOf (L2.CX P w) P w K mg base N qual (defScope st) f cdv A outer s H E) (E := E) (N := N) hsp hN
  have I : Inv (cxOf (L2.CX P w) P w K mg base N qual (defScope st) f cdv A outer s H E) [] (start N vs) H s1 := inv_start S hr.hd e0 (hlen _ _ _ _ hsp) r e1
  refine ⟨(e0.mod.nolimit.keeps fun b o e => (e0.bs b o e).1).keeps e1.toInCall.keep, codeAny_func (wpAny_mono ((hbody cdv A outer s H E G (hr.deeper _) hgd).run.run [] s1 (start N vs) H _ I hG) (fun fl s' hs => ?_) fun e s' hs => hs)⟩
  cases fl with
  | ret u =>
    obtain ⟨v, σ', H', J, rv, q⟩ := hs
    exact ⟨v, H', J.os, J.bare, J.base, J.hok, rv, q⟩
  | next =>
    obtain ⟨σ', H', J, q⟩ := hs
    exact ⟨.non, H', J.os, J.bare, J.base, J.hok, rfl, q⟩
  | brk =>
    obtain ⟨_, _, _, q⟩ := hs
    exact q.elim
  | cont =>
    obtain ⟨_, _, _, q⟩ := hs
    exact q.elim
theorem def_ok {x : Str} {st : Stmt} {N ps : List Str} {n m k : Nat} {g : Rho → M W Fl} (D : DefAt K mg x st) (S : FnScope N ps (defScope st)) (hps : ps.length = n) (hN : N.length = n + m)
    (hb : ∀ (kV doc pm : Value) (an : Option Addr) (cdv ct : Value) (us : List Value), us.length = ps.length → bindArgs (PySem.W.fnOf x x (defArgs st) (defBody st) (defScope st) .none kV doc pm an cdv ct) ⟨us, []⟩ = pure (ps.zip us))
    (hbody : ∀ (f : Addr) (cdv : Value) (A : Around) (outer : List PySem.Env) (s : Shared) (H : Hp) (E : XK) (G : Gm W), Room k (A.deeper (envOfC x (defScope st) s.heap.objs.size f cdv)) → (A.deeper (envOfC x (defScope st) s.heap.objs.size f cdv)).guards = some [] →
      PDs (cxOf (L2.CX P w) P w K mg base N x (defScope st) f cdv A outer s H E) G E (defBody st) g) :
    DefOk (L2.CX P w) P w K mg base (k + 1) x n (run m g) := by
  obtain ⟨f, fd, F, hm⟩ := D.ex
  exact ⟨f, fd, ps, body_ok F S hps hN (hbody f), hm, F.kp, F.binds hb⟩
/-- a method -/
structure MethOk (P : Program) (w : World) (K : PySem.W.Frag) (mg : Str → Option Value) (base : Heap) (k : Nat) (g : Addr) (n : Nat) (Fn : List T → M W T) : Prop where
  ex : ∃ fd ps, FnG P w K mg base (L2.CX P w) k g fd ps (spF K n Fn) ∧ Binds K fd ps []
theorem meth_ok {x qual : Str} {st : Stmt} {f : Addr} {N ps : List Str} {n m k : Nat} {g : Rho → M W Fl} (D : ∃ fd, Fun K x qual st f fd) (S : FnScope N ps (defScope st)) (hps : ps.length = n) (hN : N.length = n + m)
    (hb : ∀ (kV doc pm : Value) (an : Option Addr) (cdv ct : Value) (us : List Value), us.length = ps.length → bindArgs (PySem.W.fnOf x qual (defArgs st) (defBody st) (defScope st) .none kV doc pm an cdv ct) ⟨us, []⟩ = pure (ps.zip us))
    (hbody : ∀ (cdv : Value) (A : Around) (outer : List PySem.Env) (s : Shared) (H : Hp) (E : XK) (G : Gm W), Room k (A.deeper (envOfC qual (defScope st) s.heap.objs.size f cdv)) → (A.deeper (envOfC qual (defScope st) s.heap.objs.size f cdv)).guards = some [] →
      PDs (cxOf (L2.CX P w) P w K mg base N qual (defScope st) f cdv A outer s H E) G E (defBody st) g) :
    MethOk P w K mg base (k + 1) f n (run m g) := by
  obtain ⟨fd, F⟩ := D
  exact ⟨fd, ps, body_ok F S hps hN hbody, F.binds hb⟩
/-- a def of which nothing is asked -/
theorem def_stuck {CX : CXT} {x : Str} {st : Stmt} {n k : Nat} {ps : List Str} (D : DefAt K mg x st) (hps : ps.length = n)
    (hb : ∀ (kV doc pm : Value) (an : Option Addr) (cdv ct : Value) (us : List Value), us.length = ps.length → bindArgs (PySem.W.fnOf x x (defArgs st) (defBody st) (defScope st) .none kV doc pm an cdv ct) ⟨us, []⟩ = pure (ps.zip us)) :
    DefOk CX P w K mg base k x n (fun _ => stuck (W := W)) := by
  obtain ⟨f, fd, F, hm⟩ := D.ex
  refine ⟨f, fd, ps, ⟨fun vs H Q E h => by rw [spF.len _ _ _ _ h, hps], fun A outer s H args us vs Q E hr _ he hb hv hs => ?_⟩, hm, F.kp, F.binds hb⟩
  obtain ⟨_, _, _, _, _, _, _, _, _, _, _, z, _⟩ := hs
  cases z
theorem DefOk.mono {CX : CXT} {x : Str} {n j k : Nat} {Fn : List T → M W T} (D : DefOk CX P w K mg base j x n Fn) (h : j ≤ k) : DefOk CX P w K mg base k x n Fn := by
  obtain ⟨f, fd, ps, F, r⟩ := D.ex
  exact ⟨f, fd, ps, F.mono h, r⟩
/-- a constant of the module -/
structure ConstAt (K : PySem.W.Frag) (mg : Str → Option Value) (x : Str) (t : T) : Prop where
  ex : ∃ v u, mg x = some u ∧ RelV v u ∧ ∀ F, Rep K F v t
theorem ConstAt.int {x : Str} {i : Int} {t : Tok} (h : mg x = some (.int i t)) : ConstAt K mg x (.int i) := ⟨.int i, _, h, ⟨t, rfl⟩, fun _ => .int i⟩
theorem ConstAt.str {x y : Str} {t : Tok} (h : mg x = some (.str y t)) : ConstAt K mg x (.str y) := ⟨.str y, _, h, ⟨t, rfl⟩, fun _ => .str y⟩
theorem Reps.strsV {F : Hp} : ∀ (ys : List Str), Reps K F (ys.map V.str) (ys.map T.str) := Reps.ofStrs
theorem ConstAt.strs {x : Str} {a : Addr} {dd : Option Addr} {vs : List Value} {ys : List Str} {n : Nat} {sl : Array (Option Value)} (h : mg x = some (.ref a)) (l : K.lookup a = some ⟨.type "tuple", dd, .seq vs.toArray n, sl⟩) (hv : Vals (ys.map V.str) vs) (hs : vs.length ≤ sizeLine) : ConstAt K mg x (.tup (ys.map T.str)) :=
  ⟨.ref a, _, h, rfl, fun F => .tup (.inr ⟨_, vs.toArray, n, l, rfl, rfl, by simpa using hs, by simpa using hv⟩) (Reps.ofStrs ys)⟩
variable {X : Cx} {G : Gm W} {E : XK}
theorem pv_gl {x : Str} {t : T} {pos : Pos} (h : ConstAt X.K X.mg x t) (hg : Gl X x := by rfl) (hd : (x == ("__debug__" : Str)) = false := by decide) : PV X G E (.Name x pos) (fC t) := by
  obtain ⟨v, u, h1, h2, h3⟩ := h.ex
  exact pv_glob hg h1 h2 h3 hd
theorem hu200 {A : Around} {k : Nat} (hr : Room k A) : A.units + 200 < cLine := by have := hr.un; omega
end
end PL

/-! PLm: comprehensions with two clauses; minus, reversed, a key in a dict, smaller displays and calls. -/
namespace PL
open PySem PySem.Spec PyProof.Rows L2
section
variable {W : Type} {X : Cx} {G : Gm W} {E : XK} {ρ : Rho} {w w' : W} {σ : L2.St} {H F : Hp}

def comp2D (vs : List Nat) (h : T → Rho → Option Rho) (fi1 : Rho → M W (List T)) (vs1 : List Nat) (h1 : T → Rho → Option Rho) (gt1 : Rho → M W Bool) (ge : Rho → M W T) (ρ : Rho) : List T → M W (List T)
  | [] => ret []
  | t :: ts => bnd (lift (h t (wipeR ρ vs))) fun ρ1 => bnd (noEr (fi1 ρ1)) fun ts1 => bnd (compD vs1 h1 gt1 ge ρ1 ts1) fun us => bnd (comp2D vs h fi1 vs1 h1 gt1 ge ρ ts) fun zs => ret (us ++ zs)
def fLc2 (fi : Rho → M W (List T)) (vs : List Nat) (h : T → Rho → Option Rho) (fi1 : Rho → M W (List T)) (vs1 : List Nat) (h1 : T → Rho → Option Rho) (gt1 : Rho → M W Bool) (ge : Rho → M W T) : Rho → M W (List T) :=
  fun ρ => bnd (fi ρ) fun ts => bnd (comp2D vs h fi1 vs1 h1 gt1 ge ρ ts) fun us => if us.length ≤ sizeLine then ret us else stuck
theorem comp2D_ok {vs : List Nat} {h : T → Rho → Option Rho} {fi1 : Rho → M W (List T)} {vs1 : List Nat} {h1 : T → Rho → Option Rho} {gt1 : Rho → M W Bool} {ge : Rho → M W T} : ∀ {ts : List T} {w w' : W} {r : R (List T)}, comp2D vs h fi1 vs1 h1 gt1 ge ρ ts w = some (r, w') → ∃ us, r = .ok us
  | [], w, w', r, e => ⟨[], (ret_inv e).1⟩
  | t :: ts, w, w', r, e => by
    unfold comp2D at e
    obtain ⟨ρ1, _, e⟩ := lift_bnd e
    obtain ⟨b, w1, _, e⟩ := noEr_bnd e
    rcases bnd_inv e with ⟨us, w3, h3, h4⟩ | ⟨er, h3, rfl⟩
    · rcases bnd_inv h4 with ⟨zs, w5, h5, h6⟩ | ⟨er, h5, rfl⟩
      · exact ⟨_, (ret_inv h6).1⟩
      · obtain ⟨us, z⟩ := comp2D_ok h5
        cases z
    · obtain ⟨us, z⟩ := compD_ok h3
      cases z
/-- a target owns nothing -/
def NoOwn (h : T → Rho → Option Rho) : Prop := ∀ t ρ ρ', h t ρ = some ρ' → ∀ (i : Nat) (s : Sl), ρ'[i]? = some s → s.owns = true → ρ[i]? = some s
theorem noOwn_gN {i : Nat} : NoOwn (gN i) := fun t ρ ρ' e j s hj ho => by
  cases e
  rcases getElem?_set' hj with ⟨_, rfl⟩ | ⟨_, h⟩
  · cases ho
  · exact h
theorem noOwn_gT2 {i j : Nat} : NoOwn (gT2 i j) := fun t ρ ρ' e k s hk ho => by
  unfold gT2 at e
  split at e
  · cases e
    rcases getElem?_set' hk with ⟨_, rfl⟩ | ⟨_, hk⟩
    · cases ho
    · rcases getElem?_set' hk with ⟨_, rfl⟩ | ⟨_, h⟩
      · cases ho
      · exact h
  · cases e
theorem wipeR_own {ρ : Rho} {i : Nat} {s : Sl} : ∀ {vs : List Nat}, (wipeR ρ vs)[i]? = some s → s.owns = true → i ∉ vs ∧ ρ[i]? = some s
  | [], h, _ => ⟨by simp, h⟩
  | v :: vs, h, ho => by
    unfold wipeR at h
    rcases getElem?_set' h with ⟨_, rfl⟩ | ⟨ne, h⟩
    · cases ho
    · obtain ⟨a, b⟩ := wipeR_own h ho
      exact ⟨by simp [Ne.symm ne, a], b⟩
section
variable {fi fi1 : Rho → M W (List T)} {vs is vs1 is1 : List Nat} {h h1 : T → Rho → Option Rho} {gt1 : Rho → M W Bool} {ge : Rho → M W T}
theorem tLc2.of (his : ∀ i ∈ is, i ∈ vs) (his1 : ∀ i ∈ is1, i ∈ vs1) (no : NoOwn h) : ∀ σ H Q, tF X.K G E (fLc2 fi vs h fi1 vs1 h1 gt1 ge) σ H Q →
    tLc2 (tW X.K G E fi) (tG X.K G is h) (tT X.K G E0 tYesM) (tW X.K G E0 fi1) (tG X.K G is1 h1) (tT X.K G E0 gt1) (tV X.K G E0 ge) vs vs1 σ H Q := fun σ H Q => by
  rintro ⟨ρ, w, F, r, w', S, hf, acc⟩
  rcases bnd_inv hf with ⟨ts, w1, h1', h2⟩ | ⟨e, h1', rfl⟩
  case inr => exact ⟨ρ, w, F, .er e, w', S, h1', acc⟩
  rcases bnd_inv h2 with ⟨us, w2, h3, h4⟩ | ⟨e, h3, rfl⟩
  case inr =>
    obtain ⟨us, z⟩ := comp2D_ok h3
    cases z
  split at h4
  case isFalse => cases h4
  rename_i hsz
  obtain ⟨rfl, rfl⟩ := ret_inv h4
  clear h2 h4 hf
  refine ⟨ρ, w, F, .ok ts, w1, S, h1', fun J H1 F1 S1 s1 wk D hD => ?_⟩
  have hD0 : H D = none := s1.free0 S1.dH hD
  have hDF := (S1.fresh hD).2.2
  have hDB := (S1.fresh hD).2.1
  have hDs := S1.noSlot hD
  refine ⟨fun i m Hc => m = ts.length - i ∧ i ≤ ts.length ∧ ∃ wi Fi acc accT rest, Sd X.K G ρ wi σ Hc Fi ∧ Gr G H1 F1 Hc Fi ∧ Hc D = some (.lst acc) ∧ Fi D = none ∧ Reps X.K Fi acc accT ∧
    comp2D vs h fi1 vs1 h1 gt1 ge ρ (ts.drop i) wi = some (.ok rest, w') ∧ accT ++ rest = us, ⟨ts.length, by simp, Nat.zero_le _, w1, F1, [], [], us, S1.laid hD, .laid hD, upd_same, hDF, .nil, by simpa using h3, rfl⟩, ?_⟩
  rintro i m H2 ⟨rfl, hil, w2, F2, acc2, accT, rest, S2, g2, hD2, hF2, r2, e2, hu⟩
  by_cases hlt : i < ts.length
  · rw [List.drop_eq_getElem_cons hlt] at e2
    obtain ⟨go, yl⟩ := wk.go i ρ w2 σ H2 F2 g2.same S2 ts[i] (List.getElem?_eq_getElem hlt)
    refine .inr ⟨go, fun H' => ∃ wi Fi acc accT rest, Sd X.K G ρ wi σ H' Fi ∧ Gr G H1 F1 H' Fi ∧ H' D = some (.lst acc) ∧ Fi D = none ∧ Reps X.K Fi acc accT ∧
      comp2D vs h fi1 vs1 h1 gt1 ge ρ (ts.drop (i + 1)) wi = some (.ok rest, w') ∧ accT ++ rest = us, fun H' q => ⟨ts.length - (i + 1), by omega, rfl, hlt, q⟩, fun x H3 hy => ?_⟩
    obtain ⟨F3, g3, S3, r3⟩ := yl x H3 hy
    unfold comp2D at e2
    obtain ⟨ρ1, hh, e3⟩ := lift_bnd e2
    obtain ⟨ts1, w4, hb, e4⟩ := noEr_bnd e3
    rcases bnd_inv e4 with ⟨us5, w5, h5, h6⟩ | ⟨e, h5, z⟩
    case inr => cases z
    rcases bnd_inv h6 with ⟨zs, w6, h7, h8⟩ | ⟨e, h7, z⟩
    case inr => cases z
    obtain ⟨q8, rfl⟩ := ret_inv h8
    cases q8
    clear e2 e3 e4 h6 h8
    refine ⟨wipeR ρ vs, w2, F3, ts[i], ρ1, S3.wipe vs, r3, hh, fun σ4 S4 ag hlen => ⟨wipe_same (fun j hj => ?_) (by rw [hlen, wipe_length]), ?_⟩⟩
    · rw [ag j fun z => hj (his j z), wipe_get, if_neg hj]
    have σ4g : ∀ j, j ∉ vs → σ4[j]? = σ[j]? := fun j hj => by rw [ag j fun z => hj (his j z), wipe_get, if_neg hj]
    refine ⟨ρ1, w2, F3, .ok true, w2, S4, rfl, fun H5 F5 S5 g5 => ?_⟩
    simp only [if_true]
    have nd := S2.ndB hDB
    have ne : ∀ {Ha : Hp} {l : List V}, Ha D = some (.lst l) → Ha D ≠ none := fun e z => by rw [e] at z; cases z
    have g25 : Gr G H2 F2 H5 F5 := g3.trans g5 S4.dH
    refine ⟨ρ1, w2, F5, .ok ts1, w4, S5, hb, fun J1 H6 F6 S6 g6 wk1 => ?_⟩
    have g26 : Gr G H2 F2 H6 F6 := g25.trans g6 S5.dH
    have g16 : Gr G H1 F1 H6 F6 := g2.trans g26 S2.dH
    refine ⟨fun j k Hc => k = ts1.length - j ∧ j ≤ ts1.length ∧ ∃ wi Fi acc accT rest, Sd X.K G ρ1 wi σ4 Hc Fi ∧ Gr G H1 F1 Hc Fi ∧ Same F6 Fi ∧ Hc D = some (.lst acc) ∧ Fi D = none ∧ Reps X.K Fi acc accT ∧
      compD vs1 h1 gt1 ge ρ1 (ts1.drop j) wi = some (.ok rest, w5) ∧ accT ++ (rest ++ zs) = us, ⟨ts1.length, by simp, Nat.zero_le _, w4, F6, acc2, accT, us5, S6, g16, Same.refl _, g26.keep D _ hD2 nd, by rw [g26.nof D (ne hD2)]; exact hF2, r2.mono g26.same, by simpa using h5, hu⟩, ?_⟩
    rintro j k H7 ⟨rfl, hjl, w7, F7, acc7, accT7, rest7, S7, g7, sF7, hD7, hF7, r7, e7, hu7⟩
    by_cases hlt1 : j < ts1.length
    · rw [List.drop_eq_getElem_cons hlt1] at e7
      obtain ⟨go1, yl1⟩ := wk1.go j ρ1 w7 σ4 H7 F7 sF7 S7 ts1[j] (List.getElem?_eq_getElem hlt1)
      refine .inr ⟨go1, fun Hc => ∃ wi Fi acc accT rest, Sd X.K G ρ1 wi σ4 Hc Fi ∧ Gr G H1 F1 Hc Fi ∧ Same F6 Fi ∧ Hc D = some (.lst acc) ∧ Fi D = none ∧ Reps X.K Fi acc accT ∧
        compD vs1 h1 gt1 ge ρ1 (ts1.drop (j + 1)) wi = some (.ok rest, w5) ∧ accT ++ (rest ++ zs) = us, fun Hc q => ⟨ts1.length - (j + 1), by omega, rfl, hlt1, q⟩, fun x1 H8 hy1 => ?_⟩
      obtain ⟨F8, g8, S8, r8⟩ := yl1 x1 H8 hy1
      unfold compD at e7
      obtain ⟨ρ2, hh1, e8⟩ := lift_bnd e7
      obtain ⟨b, w9, hb9, e9⟩ := noEr_bnd e8
      refine ⟨wipeR ρ1 vs1, w7, F8, ts1[j], ρ2, S8.wipe vs1, r8, hh1, fun σ9 S9 ag9 hlen9 => ⟨wipe_same (fun j hj => ?_) (by rw [hlen9, wipe_length]), ?_⟩⟩
      · rw [ag9 j fun z => hj (his1 j z), wipe_get, if_neg hj]
      refine ⟨ρ2, w7, F8, .ok b, w9, S9, hb9, fun H10 F10 S10 g10 => ?_⟩
      have g710 : Gr G H7 F7 H10 F10 := g8.trans g10 S9.dH
      have hD10 : H10 D = some (.lst acc7) := g710.keep D _ hD7 nd
      have hF10 : F10 D = none := by rw [g710.nof D (ne hD7)]; exact hF7
      have hDs4 : ∀ (i : Nat) (s : Sl), ρ1[i]? = some s → s.owns = true → σ4[i]? ≠ some (some (V.ref D)) := by
        intro i s hs ho e
        obtain ⟨hi, hr⟩ := wipeR_own (no _ _ _ hh i s hs ho) ho
        exact hDs i s hr ho (by rw [← σ4g i hi]; exact e)
      by_cases hbt : b = true
      · simp only [if_pos hbt] at e9 ⊢
        obtain ⟨u, w11, hu11, e11⟩ := noEr_bnd e9
        rcases bnd_inv e11 with ⟨us12, w12, h12, h13⟩ | ⟨er, h12, z⟩
        case inr => cases z
        obtain ⟨q13, rfl⟩ := ret_inv h13
        cases q13
        refine ⟨ρ2, w9, F10, .ok u, w11, S10, hu11, fun y H11 F11 S11 g11 r11 => ⟨acc7, g11.keep D _ hD10 nd, ?_, ?_⟩⟩
        · have := congrArg List.length hu7
          simp only [List.length_append, List.length_cons] at this
          rw [r7.length]
          omega
        have g711 : Gr G H7 F7 H11 F11 := g710.trans g11 S10.dH
        have S11' : Sd X.K G ρ1 w11 σ4 H11 F11 := S7.grown g711 S11.sub S11.wok S11.dF
        have hF11 : F11 D = none := by rw [g711.nof D (ne hD7)]; exact hF7
        exact ⟨w11, F11, acc7 ++ [y], accT7 ++ [u], us12, S11'.write (g711.keep D _ hD7 nd) hF11 hDB hDs4, (g7.trans g711 S7.dH).upd hD, sF7.trans g711.same, upd_same, hF11, (r7.mono g711.same).append (.one r11), h12, by rw [← hu7]; simp⟩
      · simp only [if_neg hbt] at e9 ⊢
        have S10' : Sd X.K G ρ1 w9 σ4 H10 F10 := S7.grown g710 S10.sub S10.wok S10.dF
        exact ⟨w9, F10, acc7, accT7, rest7, S10', g7.trans g710 S7.dH, sF7.trans g710.same, hD10, hF10, r7.mono g710.same, e9, hu7⟩
    · have hj : j = ts1.length := by omega
      subst hj
      rw [List.drop_length] at e7
      obtain ⟨q, rfl⟩ := ret_inv e7
      cases q
      exact .inl ⟨wk1.stop _ ρ1 _ σ4 H7 F7 sF7 S7 (Nat.le_refl _), _, F7, acc7, accT7, zs, S1.grown g7 S7.sub S7.wok S7.dF, g7, hD7, hF7, r7, h7, by rw [← hu7]; simp⟩
  · have hi : i = ts.length := by omega
    subst hi
    rw [List.drop_length] at e2
    obtain ⟨q, rfl⟩ := ret_inv e2
    cases q
    rw [List.append_nil] at hu
    subst hu
    exact .inl ⟨wk.stop _ ρ _ σ H2 F2 g2.same S2 (Nat.le_refl _), acc D acc2 H2 F2 S2 (s1.trans g2 S1.dH) hD0 hD2 hF2 hDB hDs r2⟩
/-- two clauses -/
structure Blk2 (X : Cx) (G : Gm W) (scope : Scope) (tg iter1 tg1 : Expr) (ifs1 : List Expr) (elt : Expr) (is : List Nat) (h : T → Rho → Option Rho) (fi1 : Rho → M W (List T)) (is1 : List Nat) (h1 : T → Rho → Option Rho) (gt1 : Rho → M W Bool) (ge : Rho → M W T) : Prop where
  tg : ∀ (s : Shared) (H : Hp) (C : Addr) (cl : List (Str × Addr)) (fp : List Addr), PGt (X.blk s H scope (compEnvC scope cl C X.env) fp) G tg is h
  it : ∀ (s : Shared) (H : Hp) (C : Addr) (cl : List (Str × Addr)) (fp : List Addr), PIt (X.blk s H scope (compEnvC scope cl C X.env) fp) G E0 tg1 iter1 fi1
  tg1 : ∀ (s : Shared) (H : Hp) (C : Addr) (cl : List (Str × Addr)) (fp : List Addr), PGt (X.blk s H scope (compEnvC scope cl C X.env) fp) G tg1 is1 h1
  ts : ∀ (s : Shared) (H : Hp) (C : Addr) (cl : List (Str × Addr)) (fp : List Addr), PTs (X.blk s H scope (compEnvC scope cl C X.env) fp) ifs1 (tT X.K G E0 gt1)
  el : ∀ (s : Shared) (H : Hp) (C : Addr) (cl : List (Str × Addr)) (fp : List Addr), PV (X.blk s H scope (compEnvC scope cl C X.env) fp) G E0 elt ge
variable {elt tg iter tg1 iter1 : Expr} {ifs1 : List Expr} {scope : Scope} {own : List (Str × Nat)} {pos : Pos}
theorem pf_lc2 (hc : X.calm = true) (hN : X.N.Nodup) (hi : PIt X G E tg iter fi) (ok : BlkOk X.N X.env.scope scope own) (B : Blk2 X G scope tg iter1 tg1 ifs1 elt is h fi1 is1 h1 gt1 ge) (no : NoOwn h) (his : ∀ i ∈ is, i ∈ own.map (·.2)) (hv : ∀ i ∈ is1, i ∈ own.map (·.2)) (hs : ∀ x, foldedSetIterable iter X.env x = pure x := by intro _; rfl) (hs1 : ∀ env x, foldedSetIterable iter1 env x = pure x := by intro _ _; rfl) :
    PF X G E (.ListComp elt [⟨tg, iter, [], 0⟩, ⟨tg1, iter1, ifs1, 0⟩] scope pos) (fLc2 fi (own.map (·.2)) h fi1 is1 h1 gt1 ge) :=
  ⟨(pe_lc2 hc hN hi.run ok hv (fun s H C cl fp => (B.tg s H C cl fp).run) (fun s H C cl fp => pts_nilM) (fun s H C cl fp => (B.it s H C cl fp).run) (fun s H C cl fp => (B.tg1 s H C cl fp).run) B.ts (fun s H C cl fp => (B.el s H C cl fp).run) hs hs1).imp (tLc2.of his (fun _ h => h) no)⟩
end
end
end PL

/-! PLs: len(set(xs)), xs a list or tuple of texts. -/
namespace PL
open PySem PySem.Spec PyProof.Rows L2

/-- the different ones, in the order of their first places -/
def uqF (acc : List Str) : List Str → List Str
  | [] => acc
  | x :: r => uqF (if x ∈ acc then acc else acc ++ [x]) r
def uq (xs : List Str) : List Str := uqF [] xs
theorem uqF_append (acc : List Str) : ∀ (xs : List Str) (x : Str), uqF acc (xs ++ [x]) = if x ∈ uqF acc xs then uqF acc xs else uqF acc xs ++ [x]
  | [], x => rfl
  | y :: r, x => uqF_append _ r x
theorem uqF_length (acc : List Str) : ∀ xs : List Str, (uqF acc xs).length ≤ acc.length + xs.length
  | [] => Nat.le_refl _
  | y :: r => by
    refine Nat.le_trans (uqF_length _ r) ?_
    split <;> simp <;> omega
theorem uq_length (xs : List Str) : (uq xs).length ≤ xs.length := by
  have := uqF_length [] xs
  simpa [uq] using this
theorem uq_take {xs : List Str} {i : Nat} (h : i < xs.length) : uq (xs.take (i + 1)) = if xs[i] ∈ uq (xs.take i) then uq (xs.take i) else uq (xs.take i) ++ [xs[i]] := by
  rw [List.take_succ_eq_append_getElem h]
  exact uqF_append [] _ _
section
variable {prog : Program} {w : World} {A : Around} {R : Result → Shared → Prop} {I : Addr} {fp wr : List Addr} {G : Array GenState → Array GenState → Prop} {n : Nat} {P : Nat → Value → Prop} {St : Nat → Shared → Prop}
/-- the set at S holds the first i of xs -/
def Holds (prog : Program) (w : World) (h : Heap) (S : Addr) (xs : List Str) (i : Nat) : Prop := h.SetOf (PySem.strKind prog w) S (fun k => decide (k ∈ uq (xs.take i))) (uq (xs.take i)).length
theorem Holds.at {h h' : Heap} {S : Addr} {xs : List Str} {i : Nat} (x : Holds prog w h S xs i) (k : ∀ o, h.get? S = some o → h'.get? S = some o) : Holds prog w h' S xs i := by
  obtain ⟨o, es, ep, t, ho, r⟩ := x
  exact ⟨o, es, ep, t, k o ho, r⟩
theorem loopU (W : WalksS prog w A.in1 I fp wr G n P St) (S : Addr) (hSf : S ∉ fp) (xs : List Str) (hsz : xs.length = n) (hfew : n + 1 < scanBound) (hval : ∀ i v, P i v → ∃ t, v = .str (xs.getD i Str.empty) t) (k : Nat) :
    ∀ (i : Nat) (s : Shared), n - i = k → i ≤ n → St i s → Holds prog w s.heap S xs i → (∀ s', Moved (S :: wr) G s s' → Holds prog w s'.heap S xs n → R (.ok (.ret .none)) s') →
      codeAny (model prog w) A (.builtin "set.update.loop" ⟨[.ref S, .ref I], []⟩) R s := by
  have out : S ∉ wr := fun h => hSf (W.sub _ h)
  have more : ∀ b ∈ wr, b ∈ S :: wr := fun b hb => List.mem_cons_of_mem _ hb
  have enter : ∀ {s : Shared}, wpAny (model prog w) A.in1 (Builtin.«set.update.loop» ⟨[.ref S, .ref I], []⟩) (GQ.FinOf prog w A R) (fun e s' => R (.error e) s') s → codeAny (model prog w) A (.builtin "set.update.loop" ⟨[.ref S, .ref I], []⟩) R s := fun {s} h =>
    codeAny_builtin PyProof.Rows.F.entry_set_update_loop (by rw [Around.under_plainId PyProof.Rows.F.plain_set_update_loop _]; exact h)
  induction k with
  | zero =>
    intro i s hk hi st hS hR
    obtain rfl : i = n := by omega
    refine enter ?_
    refine wpAny_bind (m := pyNext (.ref I)) (W.done s _ _ st fun s' hm => ?_)
    exact wpAny_pure (hR s' (hm.mono more) (hS.at fun o ho => hm.heap S o out ho))
  | succ k ih =>
    intro i s hk hi st hS hR
    have hlt : i < n := by omega
    have hix : i < xs.length := by omega
    refine enter ?_
    refine wpAny_bind (m := pyNext (.ref I)) (W.item i s _ _ hlt st fun v s' hP st' hm => ?_)
    obtain ⟨t, rfl⟩ := hval i v hP
    have hx : xs.getD i Str.empty = xs[i] := by simp [List.getD, hix]
    rw [hx]
    have hS' : Holds prog w s'.heap S xs i := hS.at fun o ho => hm.heap S o out ho
    refine wpAny_bind (m := holding [Value.str xs[i] t] (setAdd S (.str xs[i] t))) (wpAny_holding ?_)
    unfold setAdd
    refine wpAny_holding (wpAny_bind ((PySem.strKind prog w).pyHash (k := xs[i]) (strKind_is _ _ _ _) ?_))
    have few : (uq (xs.take i)).length + 1 < scanBound := by
      have := uq_length (xs.take i)
      simp only [List.length_take] at this
      omega
    refine wpAny_setAddHashed_of (knd := PySem.strKind prog w) (s := { s' with toks := s'.toks + 1 }) (strKind_is _ _ _ _) rfl hS' few fun h' hsb hS2 => ?_
    have hN : Holds prog w h' S xs (i + 1) := by
      refine SetOf_congr hS2 (fun y => ?_) ?_
      · rw [uq_take hix]
        by_cases q : xs[i] ∈ uq (xs.take i)
        · rw [if_pos q]
          by_cases e : y = xs[i]
          · subst e; simp [q]
          · simp [e]
        · rw [if_neg q]
          by_cases e : y = xs[i]
          · subst e; simp
          · simp [e]
      · rw [uq_take hix]
        by_cases q : xs[i] ∈ uq (xs.take i)
        · simp [q]
        · simp [q]
    refine wpAny_pure ⟨plainId_quiet PyProof.Rows.F.plain_set_update_loop _, ih (i + 1) _ (by omega) hlt (W.frame _ s' _ _ st' (Nat.le_succ _) fun b hb o e => ?_) hN fun s'' hm2 hS3 => ?_⟩
    · rw [hsb.2 b fun z => hSf (z ▸ hb)]; exact e
    · refine hR s'' (Moved.trans W.gtrans ((hm.mono more).then_heap (Nat.le_succ _) fun b o hb e => ?_) hm2) hS3
      rw [hsb.2 b fun z => hb (by rw [z]; exact List.mem_cons_self)]; exact e
end
section
variable {prog : Program} {w : World} {A : Around} {E : Value → Shared → Prop} {s : Shared}
/-- a new set, from the list at l -/
def emptySet (led : Bool) : Obj := { cls := .type "set", dict := none, data := .set #[] 0 (.fresh 0 0 led) }
set_option maxHeartbeats 3200000 in
theorem fillU {l : Addr} {items : Array Value} {xs : List Str} {led : Bool} (hh : A.handled = none) (hl : s.heap.IsList l items) (hi : StrsAre items.toList xs) (hfew : xs.length + 1 < scanBound) :
    codeAny (model prog w) A (.call (.builtin "set.__init__") ⟨[.ref s.heap.objs.size, .ref l], []⟩) (wants (fun r s2 => r = .none ∧ ∃ h' tk, s2 = { s with heap := h', toks := tk } ∧ Holds prog w h' s.heap.objs.size xs xs.length ∧ (∀ b o, b < s.heap.objs.size → s.heap.get? b = some o → h'.get? b = some o)) E)
      { s with heap := s.heap.push (emptySet led) } := by
  have hS : (s.heap.push (emptySet led)).get? s.heap.objs.size = some (emptySet led) := Heap.get?_push_size _ rfl
  have hT : Shared.TypeIs { s with heap := s.heap.push (emptySet led) } (.ref s.heap.objs.size) "set" := ⟨_, hS, rfl⟩
  refine codeAny_call_builtin PySem.F.called_set.init.plain PySem.F.entry_set_init (check_set_init_1 hT ?_)
  obtain ⟨⟨c, dd, da, sl⟩, ho, hc, n, hd⟩ := hl
  simp only at hc hd
  subst hc hd
  have ho' := Heap.get?_push_of_some (emptySet led) ho
  have hl1 : (s.heap.push (emptySet led)).IsList l items := ⟨_, ho', rfl, n, rfl⟩
  have f1 := PySem.F.sub_list_set
  have f2 := PySem.F.sub_list_frozenset
  have f3 : (Value.type "list" == Value.type "dict") = false := by decide
  unfold Builtin.«set.__init__» noKeywords Builtin.Frozenset.updateFrom
  generalize hPI : pyIter = PI
  wp_walk
  subst hPI
  refine wpAny_pyIter_list hl1 (wpAny_bind (wpAny_runValue ?_))
  have hlS : l < s.heap.objs.size := Heap.lt_size ho
  have sz : (s.heap.push (emptySet led)).objs.size = s.heap.objs.size + 1 := Heap.size_push _ _
  have hxs : xs.length = items.size := by rw [← StrsAre.len_eq hi, Array.length_toList]
  have ne1 : l ≠ (s.heap.push (emptySet led)).objs.size := by rw [sz]; exact Nat.ne_of_lt (Nat.lt_succ_of_lt hlS)
  have ne2 : s.heap.objs.size ∉ [(s.heap.push (emptySet led)).objs.size, l] := by
    rw [sz]
    simp only [List.mem_cons, List.not_mem_nil, or_false, not_or]
    exact ⟨Nat.ne_of_lt (Nat.lt_succ_self _), Nat.ne_of_gt hlS⟩
  have few : items.size + 1 < scanBound := by rw [← hxs]; exact hfew
  refine loopU ((Walks.list (by simp [hh]) _ l ne1 items).toS) s.heap.objs.size ne2 xs hxs few (fun i v hv => SS.strs_at hi i v (by rw [Array.getElem?_toList]; exact hv)) _ 0 _ rfl (Nat.zero_le _)
    ⟨⟨_, Heap.get?_push_size _ rfl, rfl, rfl⟩, hl1.push _⟩ ?_ fun s' hm hS' => ?_
  · refine SetOf_congr ((setObjOf_fresh (knd := PySem.strKind prog w) led).setOf (Heap.get?_push_of_some _ hS) (by unfold scanBound; omega)) (fun y => by simp [uq, uqF]) rfl
  · obtain ⟨h', g', d', tk', os'⟩ := s'
    obtain rfl : g' = s.gens := hm.gens
    obtain rfl : d' = s.drawn := hm.drawn
    obtain rfl : os' = s.os := hm.os
    show wpAny _ _ _ _ _ _
    refine wpAny_pure (wpAny_pure ⟨rfl, h', tk', rfl, by rw [hxs]; exact hS', fun b o hb e => ?_⟩)
    refine hm.heap b o ?_ (Heap.get?_push_of_some _ (Heap.get?_push_of_some _ e))
    rw [sz]
    simp only [List.mem_cons, List.not_mem_nil, or_false, not_or]
    exact ⟨Nat.ne_of_lt hb, Nat.ne_of_lt (Nat.lt_succ_of_lt hb)⟩
set_option maxHeartbeats 3200000 in
theorem call_setU {l : Addr} {items : Array Value} {xs : List Str} {Q : Value → Shared → Prop} (hh : A.handled = none) (hl : s.heap.IsList l items) (hi : StrsAre items.toList xs) (hfew : xs.length + 1 < scanBound)
    (h : ∀ (h' : Heap) (tk : Nat), Holds prog w h' s.heap.objs.size xs xs.length → (∀ b o, b < s.heap.objs.size → s.heap.get? b = some o → h'.get? b = some o) → Q (.ref s.heap.objs.size) { s with heap := h', toks := tk }) :
    wpAny (model prog w) A (call (.type "set") [.ref l]) Q E s := by
  obtain ⟨c, tl, hmro⟩ := PySem.F.called_set.mro
  have f1 := PySem.F.called_set.made
  have f2 := PySem.F.called_set.sub
  have f3 := PySem.F.called_set.notType
  have f4 := PySem.F.called_set.canCreate
  have f5 := PySem.F.typeCall_set_1 (.ref l)
  refine wpAny_call (codeAny_of_tree ?_)
  show wpAny _ _ (callAny (.type "set") _) _ _ _
  refine wpAny_pure ⟨Code.quiet_builtin _ (by decide +kernel), codeAny_builtin PySem.F.entry_type_call ?_⟩
  rw [Around.under_plain (weight_type_call_type "set" [.ref l] []) rfl]
  repeat (any_goals (first | assumption | wp_step))
  refine codeAny_mono (code_set_new_1 (.ref l) (E := E) (Q₁ := fun obj s1 => ∃ led : Bool, obj = .ref s.heap.objs.size ∧ s1 = { s with heap := s.heap.push (emptySet led) }) fun led => ⟨led, rfl, rfl⟩) fun r s1 hr => ?_
  cases r with
  | error e => exact hr
  | ok fl =>
    cases fl with
    | ret obj =>
      obtain ⟨led, rfl, rfl⟩ := hr
      have hT : Shared.TypeIs { s with heap := s.heap.push (emptySet led) } (.ref s.heap.objs.size) "set" := ⟨_, Heap.get?_push_size _ rfl, rfl⟩
      have f6 := PySem.F.called_set.init.lookup
      have f7 := PySem.F.called_set.init.bind (.ref s.heap.objs.size)
      repeat (any_goals (first | assumption | wp_step))
      refine codeAny_mono (fillU (led := led) (E := E) (by simp [hh]) hl hi hfew) fun r s2 hr => ?_
      cases r with
      | error e => exact hr
      | ok fl =>
        cases fl with
        | ret r =>
          obtain ⟨rfl, h', tk, rfl, hS, hk⟩ := hr
          repeat (any_goals (first | assumption | wp_step))
          exact h _ _ hS hk
        | _ => exact hr.elim
    | _ => exact hr.elim
end
section
variable {W : Type} {X : Cx} {G : Gm W} {E : XK} {ρ : Rho} {w w' : W} {σ : L2.St} {H F : Hp}
/-- len(set(e)), e a list of texts -/
def lenSetT (t : T) : Option T := (lstOf t).bind fun ts => (strsT ts).bind fun xs => if xs.length < 4000 then some (.int ((uq xs).length : Nat)) else none
theorem pv_lenSet {a : Expr} {fa : Rho → M W T} {p p2 q pos : Pos} (hc : X.calm = true) (hg : Gl X "len") (hm : X.mg "len" = none) (hg2 : Gl X "set") (hm2 : X.mg "set" = none) (ha : PVs X G E a fa)
    (na : starEach [a] X.env = (false, eval a X.env) :: starEach [] X.env := by rfl) : PV X G E (.Call (.Name "len" p) [.Call (.Name "set" p2) [a] [] q] [] pos) (f1 lenSetT fa) := by
  refine ⟨⟨fun pins s σ H Q I h => ?_⟩⟩
  refine Call_ (ld_blt I hg hm boot_len ?_)
  refine PyProof.Rows.callWith_builtin1 (PyProof.Rows.args_cons ?_ rfl) rfl rfl
  refine Call_ (ld_blt I hg2 hm2 boot_set ?_)
  obtain ⟨ρ, w, F, r, w', S, hf, acc⟩ := h
  refine PyProof.Rows.callWith_type1 (PyProof.Rows.args_cons (thn (ha.run.run pins s σ H _ I (tVs.bind (X := X) (Q := fun x H1 => ∃ l, ∃ xs : List Str, x = .ref l ∧ SqL X.K H1 l (xs.map V.str) ∧ xs.length < 4000 ∧ Q (.int ((uq xs).length : Nat)) H1) S hf acc.er fun t w1 x H1 F1 S1 s1 r1 hk => ?_)) fun v s1 ⟨x, H1, I1, r1, q1⟩ => PyProof.Rows.args_nil ?_) na) na rfl
  · obtain ⟨z, hz, rfl, rfl⟩ := lift_inv hk
    simp only [lenSetT, Option.bind_eq_some_iff] at hz
    obtain ⟨ts, e1, xs, e2, e3⟩ := hz
    split at e3
    · rename_i hl
      cases e3
      cases t with
      | lst us =>
        cases e1
        obtain ⟨a', vs, rfl, hH, rv⟩ := r1.lst S1
        have := rv.strs e2
        subst this
        exact ⟨a', xs, rfl, .of hH, hl, acc _ H1 F1 S1 s1 (.int _)⟩
      | _ => cases e1
    · cases e3
  · obtain ⟨l, xs, rfl, hq, hl, q1⟩ := q1
    cases r1
    obtain ⟨its, r, pl, hz⟩ := I1.list hq
    have hsA : StrsAre its.toArray.toList xs := by simpa using strsAre_of r
    refine call_setU (I1.ok.hd hc) pl.isList hsA (by unfold scanBound; omega) fun h' tk hS hk => ?_
    refine PyProof.Rows.args_nil ?_
    obtain ⟨o, es, ep, t, ho, hex, hd, _, _, _, hf, hn⟩ := hS
    rw [List.take_length] at hn
    have I2 : Inv X pins σ H1 { s1 with heap := h', toks := tk } := I1.kept fun b o e => hk b o (Heap.lt_size e) e
    have := uq_length xs
    exact call_len_set ho hex hd hf (by rw [hn]; omega) ⟨.int ((uq xs).length : Nat), H1, I2.tok _, ⟨_, by rw [hn]⟩, q1⟩
end
end PL

/-! PLn: own classes: isinstance, fields, properties, len, in, ==, !=. -/
namespace PL
open PySem PySem.Spec PyProof.Rows L2

def dataTypes : List String := ["NoneType", "bool", "int", "str", "tuple", "list", "dict"]
/-- what of the text a class must have; ns: its instances' attributes -/
structure ClsF (K : PySem.W.Frag) (C : Addr) (ns : List Str) : Prop where
  cls : Cls K C
  no : ∀ f ∈ ns, NoAttr K C f
  nd : ns.Nodup
  ca : PySem.W.findIn K (.ref C) "__class__" = some (some (.builtin "object.__class__"))
  cg : PySem.W.specialIn K (.builtin "object.__class__") "__get__" = some (some (.builtin "getset_descriptor.__get__"))
  ct : PySem.W.takesIn K (.builtin "object.__class__") = some true
  ob : PySem.W.mroIn K C (.type "object") = some true
  one : ∀ n ∈ dataTypes, PySem.W.kitOne K (.type n) (.ref C) = some false
  nf : ∀ n ∈ dataTypes, PySem.W.notFirst K C (.type n) = true
theorem tyT_data {t : T} {a : String} (h : tyT t = some a) : a ∈ dataTypes := by
  cases t <;> cases h <;> simp [dataTypes]
section
variable {W : Type} {X : Cx} {G : Gm W} {E : XK} {ρ : Rho} {w w' : W} {σ : L2.St} {H F : Hp}
theorem Rep.ins_inv {K : PySem.W.Frag} {v : V} {C : Addr} {ns : List Str} {ts : List T} (h : Rep K F v (.ins C ns ts)) : ∃ a dx vs, v = .ref a ∧ F a = some (.ins C dx (ns.zip vs)) ∧ ns.length = vs.length ∧ Reps K F vs ts := by
  cases h with
  | ins h e r => exact ⟨_, _, _, rfl, h, e, r⟩
theorem ShR.ins {K : PySem.W.Frag} {v : V} {C : Addr} {ns : List Str} {ts : List T} (S : Sd K G ρ w σ H F) (h : ShR K ρ σ F v (.ins C ns ts)) : ∃ a dx vs, v = .ref a ∧ F a = some (.ins C dx (ns.zip vs)) ∧ H a = some (.ins C dx (ns.zip vs)) ∧ ns.length = vs.length ∧ Reps K F vs ts := by
  obtain ⟨a, dx, vs, e, h1, h2, r⟩ := (h.rep (fun _ z => nomatch z) fun _ _ z => nomatch z).ins_inv
  exact ⟨a, dx, vs, e, h1, S.sub _ _ h1, h2, r⟩
/-- the type of a value, C being the one own class -/
def tyC (C : Addr) : T → Option Value
  | .ins C' _ _ => if C' = C then some (.ref C) else none
  | t => (tyT t).map .type
theorem tyC_cases {C : Addr} {t : T} {u : Value} (h : tyC C t = some u) : (∃ a, tyT t = some a ∧ u = .type a) ∨ (∃ ns ts, t = .ins C ns ts ∧ u = .ref C) := by
  cases t with
  | ins C' ns ts =>
    by_cases e : C' = C
    · subst e
      simp only [tyC, if_true, Option.some.injEq] at h
      subst h
      exact .inr ⟨ns, ts, rfl, rfl⟩
    · simp only [tyC, if_neg e] at h
      cases h
  | non => cases h; exact .inl ⟨_, rfl, rfl⟩
  | bl _ => cases h; exact .inl ⟨_, rfl, rfl⟩
  | int _ => cases h; exact .inl ⟨_, rfl, rfl⟩
  | str _ => cases h; exact .inl ⟨_, rfl, rfl⟩
  | tup _ => cases h; exact .inl ⟨_, rfl, rfl⟩
  | lst _ => cases h; exact .inl ⟨_, rfl, rfl⟩
  | dct _ _ => cases h; exact .inl ⟨_, rfl, rfl⟩
  | raw _ => cases h
theorem ShR.tyC {K : PySem.W.Frag} {t : T} {v : V} {C : Addr} {ns : List Str} {u : Value} (c : ClsF K C ns) (S : Sd K G ρ w σ H F) (h : ShR K ρ σ F v t) (e : tyC C t = some u) : TyX K H v u := by
  rcases tyC_cases e with ⟨a, e1, rfl⟩ | ⟨ns', ts, rfl, rfl⟩
  · exact h.ty S e1
  · obtain ⟨a, dx, vs, rfl, _, hH, _, _⟩ := h.ins S
    exact .base (.ins hH c.cls c.ca c.cg c.ct c.ob)
theorem ClsF.notFirst {K : PySem.W.Frag} {C : Addr} {ns : List Str} (c : ClsF K C ns) {t : T} {u : Value} (e : tyC C t = some u) : PySem.W.notFirst K C u = true := by
  rcases tyC_cases e with ⟨a, e1, rfl⟩ | ⟨ns', ts, rfl, rfl⟩
  · exact c.nf a (tyT_data e1)
  · simp [PySem.W.notFirst]
/-- isinstance(e, C) -/
def isaC (C : Addr) (t : T) : Option T := match t with
  | .ins C' _ _ => if C' = C then some (.bl true) else none
  | t => (tyT t).map fun _ => .bl false
theorem isaC_cases {C : Addr} {t z : T} (h : isaC C t = some z) : ∃ u, tyC C t = some u ∧ ∀ {K : PySem.W.Frag} {ns : List Str}, ClsF K C ns → ∃ b, PySem.W.kitOne K u (.ref C) = some b ∧ z = .bl b := by
  cases t with
  | ins C' ns ts =>
    by_cases e : C' = C
    · subst e
      simp only [isaC, if_true, Option.some.injEq] at h
      subst h
      exact ⟨.ref C', by simp [tyC], fun _ => ⟨true, by simp [PySem.W.kitOne], rfl⟩⟩
    · simp only [isaC, if_neg e] at h
      cases h
  | non => cases h; exact ⟨_, rfl, fun c => ⟨false, c.one _ (by simp [dataTypes]), rfl⟩⟩
  | bl _ => cases h; exact ⟨_, rfl, fun c => ⟨false, c.one _ (by simp [dataTypes]), rfl⟩⟩
  | int _ => cases h; exact ⟨_, rfl, fun c => ⟨false, c.one _ (by simp [dataTypes]), rfl⟩⟩
  | str _ => cases h; exact ⟨_, rfl, fun c => ⟨false, c.one _ (by simp [dataTypes]), rfl⟩⟩
  | tup _ => cases h; exact ⟨_, rfl, fun c => ⟨false, c.one _ (by simp [dataTypes]), rfl⟩⟩
  | lst _ => cases h; exact ⟨_, rfl, fun c => ⟨false, c.one _ (by simp [dataTypes]), rfl⟩⟩
  | dct _ _ => cases h; exact ⟨_, rfl, fun c => ⟨false, c.one _ (by simp [dataTypes]), rfl⟩⟩
  | raw _ => cases h
section
variable {e : Expr} {fa fb : Rho → M W T} {x y f : Str} {p p2 pos : Pos} {C : Addr} {ns : List Str}
theorem pv_isaC (c : ClsF X.K C ns) (hg : Gl X "isinstance") (hm : X.mg "isinstance" = none) (hg2 : Gl X y) (hm2 : X.mg y = some (.ref C)) (ha : PVs X G E e fa) (hd2 : (y == ("__debug__" : Str)) = false := by decide)
    (he : starEach [e, .Name y p2] X.env = (false, eval e X.env) :: starEach [.Name y p2] X.env := by rfl) (he2 : starEach [.Name y p2] X.env = (false, eval (.Name y p2) X.env) :: starEach [] X.env := by rfl) (hpl : (backTo pos (starEach [.Name y p2] X.env)).any (·.1) = false := by rfl) :
    PV X G E (.Call (.Name "isinstance" p) [e, .Name y p2] [] pos) (f1 (isaC C) fa) :=
  ⟨(pe_callB call_isi hg hm PyProof.Rows.boot_isinstance (pa_cons ha.run (pa_cons (pe_glob (v := .ref C) hg2 hm2 rfl hd2) pa_nil he2) he) (by decide) (by decide) he hpl).imp fun σ H Q => by
    rintro ⟨ρ, w, F, q, w', S, hf, acc⟩
    refine tVs.bind (X := X) S hf acc.er fun t w1 x H1 F1 S1 s1 r1 hk => ?_
    obtain ⟨z, hz, rfl, rfl⟩ := lift_inv hk
    obtain ⟨u, hu, hk2⟩ := isaC_cases hz
    obtain ⟨b, hb, rfl⟩ := hk2 c
    exact ⟨x, .ref C, u, .ref C, b, rfl, .own C, r1.tyC c S1 hu, hb, acc _ H1 F1 S1 s1 (.bl _)⟩⟩
/-- e.f -/
def lookT (f : Str) : List Str → List T → Option T
  | n :: ns, t :: ts => if f == n then some t else lookT f ns ts
  | _, _ => none
def fldT (C : Addr) (ns : List Str) (f : Str) (t : T) : Option T := match t with
  | .ins C' ns' ts => if C' = C ∧ ns' = ns then lookT f ns ts else none
  | _ => none
theorem Reps.look {K : PySem.W.Frag} {f : Str} : ∀ {ns : List Str} {vs : List V} {ts : List T} {t : T}, Reps K F vs ts → lookT f ns ts = some t → ∃ v, (ns.zip vs).lookup f = some v ∧ Rep K F v t ∧ f ∈ ns
  | [], _, _, _, _, h => by cases h
  | n :: ns, _, _, _, .nil, h => by cases h
  | n :: ns, v :: vs, u :: ts, t, .cons q r, h => by
    unfold lookT at h
    split at h
    · rename_i e
      cases h
      exact ⟨v, by simp [List.lookup, e], q, by simp [beq_iff_eq.mp e]⟩
    · rename_i e
      obtain ⟨v', h1, h2, h3⟩ := Reps.look r h
      exact ⟨v', by simp only [List.zip_cons_cons, List.lookup, Bool.eq_false_iff.mpr e]; exact h1, h2, List.mem_cons_of_mem _ h3⟩
theorem pv_fld (c : ClsF X.K C ns) (ha : PVs X G E e fa) (hb : attributeBase e f X.env (eval e X.env) = eval e X.env := by rfl) : PV X G E (.Attribute e f pos) (f1 (fldT C ns f) fa) :=
  ⟨(pe_fld ha.run hb).imp fun σ H Q => by
    rintro ⟨ρ, w, F, q, w', S, hf, acc⟩
    refine tVs.bind (X := X) S hf acc.er fun t w1 x H1 F1 S1 s1 r1 hk => ?_
    obtain ⟨z, hz, rfl, rfl⟩ := lift_inv hk
    unfold fldT at hz
    split at hz
    · split at hz
      · rename_i h
        obtain ⟨rfl, rfl⟩ := h
        obtain ⟨a, dx, vs, rfl, hF, hH, hl, rs⟩ := r1.ins S1
        obtain ⟨v, h1, h2, h3⟩ := rs.look hz
        exact ⟨a, _, dx, _, v, rfl, hH, c.cls, c.no f h3, h1, acc v H1 F1 S1 s1 h2⟩
      · cases hz
    · cases hz⟩
end

/-! ### a method of one's own, behind the language's own words -/
/-- what a method's run gives, nothing raised -/
def insM {α : Type} (C : Addr) (ns : List Str) (t : T) (m : M W α) : M W α := match t with
  | .ins C' ns' _ => if C' = C ∧ ns' = ns then noEr m else stuck
  | _ => stuck
theorem insM_inv {α : Type} {C : Addr} {ns : List Str} {t : T} {m : M W α} {r : R α} (h : insM C ns t m w = some (r, w')) : ∃ ts a, t = .ins C ns ts ∧ r = .ok a ∧ m w = some (.ok a, w') := by
  unfold insM at h
  split at h
  · split at h
    · rename_i q
      obtain ⟨rfl, rfl⟩ := q
      obtain ⟨a, e, h⟩ := noEr_inv h
      exact ⟨_, a, rfl, e, h⟩
    · cases h
  · cases h
/-- the promise of a def, where nothing is raised -/
theorem spF.of0 {n : Nat} {Fn : List T → M W T} {vs : List V} {ts : List T} {t : T} {Q : VK} {E' : XK} (S : Sd X.K G ρ w σ H F) (rs : Reps X.K F vs ts) (hn : ts.length = n) (e : Fn ts w = some (.ok t, w'))
    (ok : ∀ v H' F', Sd X.K G ρ w' σ H' F' → Gr G H F H' F' → Rep X.K F' v t → Q v H') : spF X.K n Fn vs H Q E' :=
  ⟨G.O, F, ts, w, .ok t, w', by rw [rs.length]; exact hn, S.sub, S.wok, S.dF, rs, e, fun v H' F' o rv => ok v H' F' (o.sd S) o.gr rv⟩
section
variable {k g : Nat} {n : Nat} {Fn : List T → M W T} {C a dx p : Addr} {ns : List Str} {fs : List (Str × V)} {f : Str} {fd : FuncData} {ps : List Str} {sp : Sp} {e : Expr} {pos : Pos} {ta : TE}
/-- a property, read -/
theorem getprop_okG {pins : List (Addr × Obj)} {s : Shared} {Q : VK} {b : Bool} {E' : Value → Shared → Prop} (I : Inv X pins σ H s) (ea : H a = some (.ins C dx fs)) (c : Cls X.K C) (hp : PropOf X.K C f p g)
    (Fm : FnG X.prog X.w X.K X.mg X.base (L2.CX X.prog X.w) k g fd ps sp) (hr : Room (k + 1) X.A) (hgd : X.A.guards = some []) (hb : Binds X.K fd ps []) (h : sp [.ref a] H Q E0) :
    wpAny (model X.prog X.w) X.A (getAttr (.ref a) f b) (EP X pins σ Q) E' s := by
  obtain ⟨mA, O, _⟩ := ins_get I.hok ea
  obtain ⟨od, J, _⟩ := O.look
  obtain ⟨rest, hrec⟩ := hp.rec_
  have I1 := I.tok (s.toks + 1)
  have hc : (PySem.W.clsIn X.K C).isSome = true := by
    obtain ⟨cd, hc, _⟩ := PySem.W.any_some c.hd
    rw [hc]
    rfl
  have hl : [Value.ref a].length = ps.length := Fm.len _ _ _ _ h
  have hb' := hb { s with toks := s.toks + 1 } [.ref a] I1.kIn (by simpa using hl)
  rw [List.append_nil] at hb'
  have e0 := I1.env0
  refine PySem.W.get_bind I.kIn J (PySem.W.plainGet_of (c.get f)).1 (PySem.W.findObj_data hc hp.at_ hp.get hp.tak) (PySem.W.plainGet_of (c.get f)).2 (wpAny_call (PySem.W.prop_get (s := { s with toks := s.toks + 1 }) I.kIn hrec ?_))
  refine codeAny_mono (Fm.run X.A.in1 X.stack { s with toks := s.toks + 1 } H ⟨[.ref a], []⟩ [.ref a] [.ref a] Q E0 hr.in1 hgd e0.in1 hb' (.cons rfl .nil) h) fun r s' hq => ?_
  cases r with
  | error er =>
    obtain ⟨_, _, _, _, _, _, _, _, _, _, _, _, z⟩ := hq
    exact z.elim
  | ok fl =>
    cases fl with
    | ret u =>
      obtain ⟨v, H', I3, rv, q3⟩ := I1.after hq
      show wpAny _ _ (handedOut u) _ _ _
      rw [PySem.W.handedOut_of (handed_of rv)]
      exact wpAny_pure ⟨v, H', I3, rv, q3⟩
    | next => exact False.elim hq
    | brk => exact False.elim hq
    | cont => exact False.elim hq
def fProp (C : Addr) (ns : List Str) (Fn : List T → M W T) (fa : Rho → M W T) : Rho → M W T := fun ρ => bnd (fa ρ) fun t => insM C ns t (Fn [t])
variable {fa fb : Rho → M W T}
theorem pv_prop (c : ClsF X.K C ns) (hp : PropOf X.K C f p g) (D : MethOk X.prog X.w X.K X.mg X.base k g 1 Fn) (hr : Room (k + 1) X.A) (hgd : X.A.guards = some []) (ha : PV X G E e fa) (hab : attributeBase e f X.env (eval e X.env) = eval e X.env := by rfl) :
    PV X G E (.Attribute e f pos) (fProp C ns Fn fa) := by
  obtain ⟨fd, ps, Fm, hb⟩ := D.ex
  refine ⟨⟨fun pins s σ H Q I h => ?_⟩⟩
  obtain ⟨ρ, w, F, q, w', S, hf, acc⟩ := h
  refine attr_of hab (thn (ha.run.run pins s σ H _ I (tV.bind (X := X) (Q := fun x H1 => ∃ a dx fs, x = .ref a ∧ H1 a = some (.ins C dx fs) ∧ spF X.K 1 Fn [.ref a] H1 Q E0) S hf acc.er fun t w1 x H1 F1 S1 s1 r1 hk => ?_)) fun u s1 ⟨x, H1, I1, rx, a, dx, fs, ex, ea, q⟩ => ?_)
  · obtain ⟨ts, z, rfl, rfl, hk'⟩ := insM_inv hk
    obtain ⟨a, dx, vs, rfl, hF, hl, rs⟩ := r1.ins_inv
    exact ⟨a, dx, _, rfl, S1.sub _ _ hF, spF.of0 S1 (.one (.ins hF hl rs)) rfl hk' fun v H' F' S' s' rv => acc v H' F' S' (s1.trans s' S1.dH) rv⟩
  · subst ex
    obtain rfl : u = Value.ref a := rx
    exact getprop_okG I1 ea c.cls hp Fm hr hgd hb q
end
end
end PL

/-! PLo: len, in, ==, != by an own class's methods. -/
namespace PL
open PySem PySem.Spec PyProof.Rows L2

/-! ### != by an own == -/
section
variable {prog : Program} {w : World} {A : Around} {E : Value → Shared → Prop} {s : Shared} {K : PySem.W.Frag} {x C L f : Addr} {h₀ : Heap} {m : Str → Option Value} {ox : Obj} {od : Option Obj} {b tb : Value}
theorem ne_entry (hu : A.units < cLine) (X : K.In s.heap) (I : PySem.W.InstAt s.heap x ox C od) (hs : PySem.W.findIn K (.ref C) "__eq__" = some (some (.ref f))) (hf : PySem.W.isFn K (.ref f) = true) {Q : Fin → Shared → Prop}
    (h : wpAny (model prog w) A (call (.ref f) [.ref x, b]) (fun v s' => ∃ r, v = .bool r ∧ Q (.done (.ret (.bool (!r)))) s') E s) : wpAny (model prog w) A (Builtin.«object.__ne__» ⟨[.ref x, b], []⟩) Q E s := by
  unfold Builtin.«object.__ne__»
  repeat (first
    | with_reducible refine wpAny_cRoomFor hu ?_
    | (refine wpAny_bind (m := callSpecialIfBound? (.ref x) (Str.ofString "__eq__") [b])
        (PySem.W.ifBound_K X I hs hf (wpAny_mono h (fun r s' hr => by
          obtain ⟨r, rfl, hq⟩ := hr
          repeat (first | exact hq | exact wpAny_pure hq | exact wpAny_truthy_bool hq | (refine wpAny_bind (m := truthy (.bool _)) (wpAny_truthy_bool ?_)) | wp_step)) fun _ _ e => e)))
    | wp_step)
theorem ifBound_objNe {args : List Value} {Q : Option Value → Shared → Prop} {M : Model} (X : K.In s.heap) (I : PySem.W.InstAt s.heap x ox C od) (hs : PySem.W.findIn K (.ref C) "__ne__" = some (some (.builtin "object.__ne__")))
    (h : wpAny M A (call (.builtin "object.__ne__") (.ref x :: args)) (fun v => Q (some v)) E s) : wpAny M A (callSpecialIfBound? (.ref x) "__ne__" args) Q E s := by
  simp only [callSpecialIfBound?, bindSpecialIfBound?]
  refine wpAny_holding (wpAny_bind (wpAny_bind (wpAny_bind (I.type.here ((PySem.W.looks_findIn X hs).here ?_)))))
  refine wpAny_bind (wpAny_askSetting (wpAny_ite ?_))
  have fin : wpAny M A (call (.builtin "object.__ne__") ([.ref x] ++ args) >>= fun v => pure (some v)) Q E s := wpAny_bind (wpAny_mono h (fun v s' h' => wpAny_pure h') fun _ _ h' => h')
  split
  · exact wpAny_bind (wpAny_of_eq (F.cmp_object.ne.bind _) (wpAny_pure (by exact fin)))
  · exact wpAny_tryCatch (wpAny_bind (wpAny_of_eq (F.cmp_object.ne.bind _) (wpAny_pure (by exact fin))))
theorem ne_own {Q : Value → Shared → Prop} (hu : A.units + 1 < cLine) (X : K.In s.heap) (I : PySem.W.InstAt s.heap x ox C od) (hb : PySem.W.Looks (model prog w) s.heap (typeOf b) tb) (hn : PySem.W.notFirst K C tb = true)
    (hne : PySem.W.findIn K (.ref C) "__ne__" = some (some (.builtin "object.__ne__"))) (hob : PySem.W.mroIn K C (.type "object") = some true) (hs : PySem.W.findIn K (.ref C) "__eq__" = some (some (.ref f))) (hf : PySem.W.isFn K (.ref f) = true)
    (h : wpAny (model prog w) A.in1 (call (.ref f) [.ref x, b]) (fun v s' => ∃ r, v = .bool r ∧ Q (.bool (!r)) s') E s) : wpAny (model prog w) A (richCompare .NotEq (.ref x) b) Q E s := by
  have one : wpAny (model prog w) A (tryCompare (.ref x) (cmpInfo .NotEq).2.1 b) (fun r s' => ∃ v, r = some v ∧ Q v s') E s := by
    unfold tryCompare
    refine wpAny_bind (ifBound_objNe X I hne (wpAny_call (codeAny_call_builtin F.cmp_object.ne.plain F.cmpEntry_ne (PySem.W.check_slot F.cmpKind_ne F.cmpSplit_ne (I.type.andThen (PySem.W.looks_mroIn X hob)) (F.cmpArgs_ne _ _) (ne_entry (A := A.in1) (by show A.units + 1 < cLine; exact hu) X I hs hf (wpAny_mono h (fun v s' hv => ?_) fun _ _ e => e))))))
    obtain ⟨r, rfl, hq⟩ := hv
    exact ⟨r, rfl, wpAny_pure ⟨_, rfl, hq⟩⟩
  unfold richCompare
  simp only [oneThing_ref]
  refine wpAny_holding (wpAny_bind (wpAny_cRoomFor (by omega) ?_))
  refine wpAny_bind (I.type.here (wpAny_bind (hb.here ?_)))
  split
  · rename_i q
    have e : PySem.W.subIn K tb (.ref C) = some false := by
      rcases Bool.or_eq_true_iff.mp hn with e | e
      · rw [beq_iff_eq.mp e] at q; simp at q
      · exact beq_iff_eq.mp e
    refine wpAny_bind ((PySem.W.looks_subIn X e).here ?_)
    simp only [Bool.false_eq_true, if_false]
    refine wpAny_bind (wpAny_mono one (fun r s' z => ?_) fun _ _ e => e)
    obtain ⟨v, rfl, hq⟩ := z
    exact wpAny_pure hq
  · refine wpAny_bind (wpAny_pure ?_)
    simp only [Bool.false_eq_true, if_false]
    refine wpAny_bind (wpAny_mono one (fun r s' z => ?_) fun _ _ e => e)
    obtain ⟨v, rfl, hq⟩ := z
    exact wpAny_pure hq
end

section
variable {W : Type} {X : Cx} {G : Gm W} {E : XK} {ρ : Rho} {w w' : W} {σ : L2.St} {H F : Hp}
variable {k g : Nat} {Fn : List T → M W T} {C : Addr} {ns : List Str} {e a b : Expr} {x y : Str} {p pos : Pos} {fa fb : Rho → M W T}
/-- an own special method of the class -/
structure SpecM (K : PySem.W.Frag) (C : Addr) (m : Str) (g : Addr) : Prop where
  at_ : PySem.W.findIn K (.ref C) m = some (some (.ref g))
  fn : PySem.W.isFn K (.ref g) = true
theorem inst_of {pins : List (Addr × Obj)} {s : Shared} {a dx : Addr} {fs : List (Str × V)} (I : Inv X pins σ H s) (ea : H a = some (.ins C dx fs)) : ∃ od, PySem.W.InstAt s.heap a (PySem.W.instObj C dx) C (some od) := by
  obtain ⟨mA, O, _⟩ := ins_get I.hok ea
  obtain ⟨od, J, _⟩ := O.look
  exact ⟨od, J⟩
/-! ### == and != -/
def boolM2 (neg : Bool) (t : T) : Option T := match t with
  | .bl b => some (.bl (if neg then !b else b))
  | _ => none
def fEqI (neg : Bool) (C : Addr) (ns : List Str) (Fn : List T → M W T) (fa fb : Rho → M W T) : Rho → M W T := fun ρ => bnd (fa ρ) fun t => bnd (fb ρ) fun u => bnd (lift (tyC C u)) fun _ => bnd (insM C ns t (Fn [t, u])) fun z => lift (boolM2 neg z)
def rEqI (K : PySem.W.Frag) (neg : Bool) (C : Addr) (sp : Sp) : R2 := fun x y H Q => ∃ a dx fs ty, x = .ref a ∧ H a = some (.ins C dx fs) ∧ TyX K H y ty ∧ PySem.W.notFirst K C ty = true ∧ sp [x, y] H (fun v H' => ∃ b, v = .bl b ∧ Q (.bl (if neg then !b else b)) H') E0
variable {fd : FuncData} {ps : List Str} {sp : Sp}
theorem op_eqI (Fm : FnG X.prog X.w X.K X.mg X.base (L2.CX X.prog X.w) k g fd ps sp) (hr : Room k X.A) (hgd : X.A.guards = some []) (hb : Binds X.K fd ps []) (m : SpecM X.K C "__eq__" g) : OpR X (compareOp .Eq) (rEqI X.K false C sp) := by
  intro pins s σ H x y v u Q I rx ry h
  obtain ⟨a, dx, fs, ty, rfl, ha, hty, hnf, hsp⟩ := h
  cases rx
  obtain ⟨od, J⟩ := inst_of I ha
  obtain ⟨m', hF⟩ := I.fr
  obtain ⟨P, Z, p, _⟩ := kit_of I ry hty
  refine PySem.W.cmp_K (op := .Eq) (tb := ty) hr.units0 hF I.ok.mod.kin J (Z.ty _ _ I.kIn p) hnf m.at_ m.fn ?_
  refine wpAny_mono (run_fnG Fm hr hgd rfl hb passL I (us := [.ref a, u]) (vs := [.ref a, y]) (.cons rfl (.cons ry .nil)) hsp) (fun r s' ⟨z, H', I', rz, b, ez, q⟩ => ?_) fun _ _ x => x
  subst ez
  cases rz
  exact ⟨.bl b, H', I', rfl, q⟩
theorem op_neI {k' : Nat} (Fm : FnG X.prog X.w X.K X.mg X.base (L2.CX X.prog X.w) k g fd ps sp) (hr : Room (k + 1) X.A) (hgd : X.A.guards = some []) (hb : Binds X.K fd ps []) (m : SpecM X.K C "__eq__" g) (c : ClsF X.K C ns) (hne : PySem.W.findIn X.K (.ref C) "__ne__" = some (some (.builtin "object.__ne__"))) : OpR X (compareOp .NotEq) (rEqI X.K true C sp) := by
  intro pins s σ H x y v u Q I rx ry h
  obtain ⟨a, dx, fs, ty, rfl, ha, hty, hnf, hsp⟩ := h
  cases rx
  obtain ⟨od, J⟩ := inst_of I ha
  obtain ⟨P, Z, p, _⟩ := kit_of I ry hty
  refine ne_own (tb := ty) (by have := hr.un; omega) I.kIn J (Z.ty _ _ I.kIn p) hnf hne c.ob m.at_ m.fn ?_
  refine wpAny_mono (run_fnG (A := X.A.in1) Fm hr.in1 hgd rfl hb passL I (us := [.ref a, u]) (vs := [.ref a, y]) (.cons rfl (.cons ry .nil)) hsp) (fun r s' ⟨z, H', I', rz, b, ez, q⟩ => ?_) fun _ _ x => x
  subst ez
  cases rz
  exact ⟨b, rfl, .bl (!b), H', I', rfl, q⟩
theorem tEqI {neg : Bool} (c : ClsF X.K C ns) : ∀ σ H Q, tV X.K G E (fEqI neg C ns Fn fa fb) σ H Q → tOp (rEqI X.K neg C (spF X.K 2 Fn)) (tV X.K G E fa) (tV X.K G E fb) σ H Q := fun σ H Q => by
  rintro ⟨ρ, w, F, q, w', S, hf, acc⟩
  refine tV.bind (X := X) S hf acc.er fun t w1 x H1 F1 S1 s1 r1 hk => ?_
  refine tV.bind (X := X) S1 hk (acc.mono s1 S1.dH).er fun u w2 y H2 F2 S2 s2 r2 hk2 => ?_
  obtain ⟨ty, hty, hk3⟩ := lift_bnd hk2
  rcases bnd_inv hk3 with ⟨z, w3, h3, h4⟩ | ⟨er, h3, _⟩
  case inr =>
    obtain ⟨_, _, _, z, _⟩ := insM_inv h3
    cases z
  obtain ⟨ts, z', rfl, e, h5⟩ := insM_inv h3
  cases e
  obtain ⟨zz, hz, rfl, rfl⟩ := lift_inv h4
  unfold boolM2 at hz
  split at hz
  · rename_i bb
    cases hz
    have r1' := r1.mono s2.same
    obtain ⟨a, dx, vs, rfl, hF, hl, rs⟩ := r1'.ins_inv
    refine ⟨a, dx, _, ty, rfl, S2.sub _ _ hF, (show ShR X.K ρ σ F2 y u from .inl r2).tyC c S2 hty, c.notFirst hty, ?_⟩
    exact spF.of0 S2 (.cons r1' (.one r2)) rfl h5 fun v H' F' S' s' rv => ⟨bb, rv.bl_inv, acc _ H' F' S' ((s1.trans s2 S1.dH).trans s' S2.dH) (.bl _)⟩
  · cases hz
theorem pv_eqI (c : ClsF X.K C ns) (D : MethOk X.prog X.w X.K X.mg X.base k g 2 Fn) (m : SpecM X.K C "__eq__" g) (hr : Room k X.A) (hgd : X.A.guards = some []) (ha : PV X G E a fa) (hb : PV X G E b fb) (hm : behindInMarks .Eq b = false := by rfl) : PV X G E (.Compare a [.Eq] [b] pos) (fEqI false C ns Fn fa fb) := by
  obtain ⟨fd, ps, Fm, hbi⟩ := D.ex
  exact ⟨(pe_cmpR (op_eqI Fm hr hgd hbi m) ha.run hb.run hm).imp (tEqI c)⟩
theorem pv_neI (c : ClsF X.K C ns) (D : MethOk X.prog X.w X.K X.mg X.base k g 2 Fn) (m : SpecM X.K C "__eq__" g) (hne : PySem.W.findIn X.K (.ref C) "__ne__" = some (some (.builtin "object.__ne__"))) (hr : Room (k + 1) X.A) (hgd : X.A.guards = some []) (ha : PV X G E a fa) (hb : PV X G E b fb) (hm : behindInMarks .NotEq b = false := by rfl) : PV X G E (.Compare a [.NotEq] [b] pos) (fEqI true C ns Fn fa fb) := by
  obtain ⟨fd, ps, Fm, hbi⟩ := D.ex
  exact ⟨(pe_cmpR (op_neI (k' := 0) Fm hr hgd hbi m c hne) ha.run hb.run hm).imp (tEqI c)⟩
/-! ### in, not in -/
def fInI (neg : Bool) (C : Addr) (ns : List Str) (Fn : List T → M W T) (fa fb : Rho → M W T) : Rho → M W T := fun ρ => bnd (fa ρ) fun u => bnd (fb ρ) fun t => bnd (insM C ns t (Fn [t, u])) fun z => lift (boolM2 neg z)
def rInI (neg : Bool) (C : Addr) (sp : Sp) : R2 := fun y x H Q => ∃ a dx fs, x = .ref a ∧ H a = some (.ins C dx fs) ∧ sp [x, y] H (fun v H' => ∃ b, v = .bl b ∧ Q (.bl (if neg then !b else b)) H') E0
theorem op_inI (Fm : FnG X.prog X.w X.K X.mg X.base (L2.CX X.prog X.w) k g fd ps sp) (hr : Room k X.A) (hgd : X.A.guards = some []) (hb : Binds X.K fd ps []) (m : SpecM X.K C "__contains__" g) : OpR X (compareOp .In) (rInI false C sp) := by
  intro pins s σ H y x u v Q I ry rx h
  obtain ⟨a, dx, fs, rfl, ha, hsp⟩ := h
  cases rx
  obtain ⟨od, J⟩ := inst_of I ha
  obtain ⟨m', hF⟩ := I.fr
  refine PySem.W.in_K hF I.ok.mod.kin J m.at_ m.fn ?_
  refine wpAny_mono (run_fnG Fm hr hgd rfl hb passL I (us := [.ref a, u]) (vs := [.ref a, y]) (.cons rfl (.cons ry .nil)) hsp) (fun r s' ⟨z, H', I', rz, b, ez, q⟩ => ?_) fun _ _ x => x
  subst ez
  cases rz
  exact wpAny_truthy_bool ⟨.bl b, H', I', rfl, q⟩
theorem op_notInI (Fm : FnG X.prog X.w X.K X.mg X.base (L2.CX X.prog X.w) k g fd ps sp) (hr : Room k X.A) (hgd : X.A.guards = some []) (hb : Binds X.K fd ps []) (m : SpecM X.K C "__contains__" g) : OpR X (compareOp .NotIn) (rInI true C sp) := by
  intro pins s σ H y x u v Q I ry rx h
  obtain ⟨a, dx, fs, rfl, ha, hsp⟩ := h
  cases rx
  obtain ⟨od, J⟩ := inst_of I ha
  obtain ⟨m', hF⟩ := I.fr
  refine PySem.W.notIn_K hF I.ok.mod.kin J m.at_ m.fn ?_
  refine wpAny_mono (run_fnG Fm hr hgd rfl hb passL I (us := [.ref a, u]) (vs := [.ref a, y]) (.cons rfl (.cons ry .nil)) hsp) (fun r s' ⟨z, H', I', rz, b, ez, q⟩ => ?_) fun _ _ x => x
  subst ez
  cases rz
  exact wpAny_truthy_bool ⟨.bl (!b), H', I', rfl, q⟩
theorem tInI {neg : Bool} : ∀ σ H Q, tV X.K G E (fInI neg C ns Fn fa fb) σ H Q → tOp (rInI neg C (spF X.K 2 Fn)) (tV X.K G E fa) (tV X.K G E fb) σ H Q := fun σ H Q => by
  rintro ⟨ρ, w, F, q, w', S, hf, acc⟩
  refine tV.bind (X := X) S hf acc.er fun u w1 y H1 F1 S1 s1 r1 hk => ?_
  refine tV.bind (X := X) S1 hk (acc.mono s1 S1.dH).er fun t w2 x H2 F2 S2 s2 r2 hk3 => ?_
  rcases bnd_inv hk3 with ⟨z, w3, h3, h4⟩ | ⟨er, h3, _⟩
  case inr =>
    obtain ⟨_, _, _, z, _⟩ := insM_inv h3
    cases z
  obtain ⟨ts, z', rfl, e, h5⟩ := insM_inv h3
  cases e
  obtain ⟨zz, hz, rfl, rfl⟩ := lift_inv h4
  unfold boolM2 at hz
  split at hz
  · rename_i bb
    cases hz
    obtain ⟨a, dx, vs, rfl, hF, hl, rs⟩ := r2.ins_inv
    refine ⟨a, dx, _, rfl, S2.sub _ _ hF, ?_⟩
    exact spF.of0 S2 (.cons (.ins hF hl rs) (.one (r1.mono s2.same))) rfl h5 fun v H' F' S' s' rv => ⟨bb, rv.bl_inv, acc _ H' F' S' ((s1.trans s2 S1.dH).trans s' S2.dH) (.bl _)⟩
  · cases hz
theorem pv_inI (D : MethOk X.prog X.w X.K X.mg X.base k g 2 Fn) (m : SpecM X.K C "__contains__" g) (hr : Room k X.A) (hgd : X.A.guards = some []) (ha : PV X G E a fa) (hb : PV X G E b fb) (hm : behindInMarks .In b = false := by rfl) : PV X G E (.Compare a [.In] [b] pos) (fInI false C ns Fn fa fb) := by
  obtain ⟨fd, ps, Fm, hbi⟩ := D.ex
  exact ⟨(pe_cmpR (op_inI Fm hr hgd hbi m) ha.run hb.run hm).imp tInI⟩
theorem pv_notInI (D : MethOk X.prog X.w X.K X.mg X.base k g 2 Fn) (m : SpecM X.K C "__contains__" g) (hr : Room k X.A) (hgd : X.A.guards = some []) (ha : PV X G E a fa) (hb : PV X G E b fb) (hm : behindInMarks .NotIn b = false := by rfl) : PV X G E (.Compare a [.NotIn] [b] pos) (fInI true C ns Fn fa fb) := by
  obtain ⟨fd, ps, Fm, hbi⟩ := D.ex
  exact ⟨(pe_cmpR (op_notInI Fm hr hgd hbi m) ha.run hb.run hm).imp tInI⟩
/-! ### len -/
def lenM2 (t : T) : Option T := match t with
  | .int i => if 0 ≤ i ∧ i < 2 ^ 63 then some (.int i) else none
  | _ => none
def fLenI (C : Addr) (ns : List Str) (Fn : List T → M W T) (fa : Rho → M W T) : Rho → M W T := fun ρ => bnd (fa ρ) fun t => bnd (insM C ns t (Fn [t])) fun z => lift (lenM2 z)
def rLenI (C : Addr) (sp : Sp) : List V → Hp → VK → Prop := fun xs H Q => ∃ a dx fs, xs = [.ref a] ∧ H a = some (.ins C dx fs) ∧ sp [.ref a] H (fun v H' => ∃ i, v = .int i ∧ (0 ≤ i ∧ i < 2 ^ 63) ∧ Q (.int i) H') E0
theorem call_lenI (Fm : FnG X.prog X.w X.K X.mg X.base (L2.CX X.prog X.w) k g fd ps sp) (hr : Room (k + 1) X.A) (hgd : X.A.guards = some []) (hb : Binds X.K fd ps []) (m : SpecM X.K C "__len__" g) : CallR X (.builtin "len") (rLenI C sp) := by
  intro pins s σ H xs us Q I r h
  obtain ⟨a, dx, fs, rfl, ha, hsp⟩ := h
  obtain ⟨u, rfl, ru⟩ := vals1 r
  cases ru
  obtain ⟨od, J⟩ := inst_of I ha
  obtain ⟨m', hF⟩ := I.fr
  refine PySem.W.len_K hF I.ok.mod.kin J m.at_ m.fn ?_
  refine wpAny_mono (run_fnG (A := X.A.in1) Fm hr.in1 hgd rfl hb passL I (us := [.ref a]) (vs := [.ref a]) (.cons rfl .nil) hsp) (fun r s' ⟨z, H', I', rz, i, ez, hi, q⟩ => ?_) fun _ _ x => x
  subst ez
  obtain ⟨t, rfl⟩ := rz
  exact ⟨hi, .int i, H', I'.tok _, ⟨_, rfl⟩, q⟩
theorem pv_lenI (D : MethOk X.prog X.w X.K X.mg X.base k g 1 Fn) (m : SpecM X.K C "__len__" g) (hr : Room (k + 1) X.A) (hgd : X.A.guards = some []) (hg : Gl X "len") (hm : X.mg "len" = none) (ha : PV X G E e fa)
    (he : starEach [e] X.env = (false, eval e X.env) :: starEach [] X.env := by rfl) (hpl : (backTo pos (starEach [] X.env)).any (·.1) = false := by rfl) : PV X G E (.Call (.Name "len" p) [e] [] pos) (fLenI C ns Fn fa) := by
  obtain ⟨fd, ps, Fm, hbi⟩ := D.ex
  refine ⟨(pe_callB (call_lenI Fm hr hgd hbi m) hg hm PySem.boot_len (pa_cons ha.run pa_nil he) (by decide) (by decide) he hpl).imp fun σ H Q => ?_⟩
  rintro ⟨ρ, w, F, q, w', S, hf, acc⟩
  refine tV.bind (X := X) S hf acc.er fun t w1 x H1 F1 S1 s1 r1 hk3 => ?_
  rcases bnd_inv hk3 with ⟨z, w3, h3, h4⟩ | ⟨er, h3, _⟩
  case inr =>
    obtain ⟨_, _, _, z, _⟩ := insM_inv h3
    cases z
  obtain ⟨ts, z', rfl, e, h5⟩ := insM_inv h3
  cases e
  obtain ⟨zz, hz, rfl, rfl⟩ := lift_inv h4
  unfold lenM2 at hz
  split at hz
  · rename_i i
    split at hz
    · rename_i hi
      cases hz
      obtain ⟨a, dx, vs, rfl, hF, hl, rs⟩ := r1.ins_inv
      exact ⟨a, dx, _, rfl, S1.sub _ _ hF, spF.of0 S1 (.one (.ins hF hl rs)) rfl h5 fun v H' F' S' s' rv => ⟨i, rv.int_inv, hi, acc _ H' F' S' (s1.trans s' S1.dH) (.int _)⟩⟩
    · cases hz
  · cases hz
end
end PL

/-! PLp: instances made, an __init__ by its body; static methods. -/
namespace PL
open PySem PySem.Spec PyProof.Rows L2
section
variable {W : Type}
/-- what an __init__ promises: r tells the values of the attributes ns -/
def spI (K : PySem.W.Frag) (C : Addr) (ns : List Str) (n : Nat) (Fn : List T → M W (List T)) : Sp := fun vs H Q E => ∃ (O : Wd W) (H1 F : Hp) (ts : List T) (w : W) (r : R (List T)) (w' : W) (x dx : Addr) (us : List V),
  vs = .ref x :: us ∧ us.length = n ∧ H = upd (upd H1 dx (.own x)) x (.ins C dx []) ∧ H1 x = none ∧ H1 dx = none ∧ dx ≠ x ∧ Same F H1 ∧ O.ok H1 w ∧ (∀ b, O.D b → F b = none) ∧ Reps K F us ts ∧ Fn ts w = some (r, w') ∧ match r with
    | .ok zs => ∀ H' F' vs', Out O H1 F w' H' F' → H' x = some (.ins C dx (ns.zip vs')) → F' x = none → ns.length = vs'.length → Reps K F' vs' zs → Q .non H'
    | .er e => ∀ d H' F', Out O H1 F w' H' F' → ErAt K H' F' e d → E (.ref e.C) d H'
structure InitOk (P : Program) (w : World) (K : PySem.W.Frag) (mg : Str → Option Value) (base : Heap) (k : Nat) (f C : Addr) (ns : List Str) (n : Nat) (Fn : List T → M W (List T)) : Prop where
  ex : ∃ fd ps, FnG P w K mg base (L2.CX P w) k f fd ps (spI K C ns n Fn) ∧ Binds K fd ps []
variable {X : Cx} {G : Gm W} {E : XK} {ρ : Rho} {w w' : W} {σ : L2.St} {H F : Hp}
theorem run_makeG {CX : CXT} {k : Nat} {f C : Addr} {fd : FuncData} {ps : List Str} {sp : Sp} {pins : List (Addr × Obj)} {s : Shared} {Q : VK} {us : List Value} {vs : List V} (M : Mk X.K C f) (Fm : FnG X.prog X.w X.K X.mg X.base CX k f fd ps sp) (hr : Room (k + 1) X.A) (hgd : X.A.guards = some []) (hb : Binds X.K fd ps [])
    (hx : Passes CX X E) (I : Inv X pins σ H s) (r : Vals vs us) (h : ∀ x dx, H x = none → H dx = none → dx ≠ x → sp (.ref x :: vs) (upd (upd H dx (.own x)) x (.ins C dx [])) (fun v H2 => v = .non ∧ Q (.ref x) H2) E) :
    wpAny (model X.prog X.w) X.A (call (.ref C) us) (EP X pins σ Q) X.xe s := by
  have hq := h (s.heap.objs.size + 1) s.heap.objs.size (I.hok.fresh (Nat.le_succ _)) (I.hok.fresh (Nat.le_refl _)) (Nat.ne_of_lt (Nat.lt_succ_self _))
  have I2 := Inv.made (C := C) I
  have r2 : Vals (V.ref (s.heap.objs.size + 1) :: vs) (Value.ref (s.heap.objs.size + 1) :: us) := .cons rfl r
  have hl : (Value.ref (s.heap.objs.size + 1) :: us).length = ps.length := by rw [← r2.length]; exact Fm.len _ _ _ _ hq
  have hb' := hb _ (Value.ref (s.heap.objs.size + 1) :: us) I2.kIn (by simpa using hl)
  rw [List.append_nil] at hb'
  refine wpAny_call (make_map (f := f) I.kIn M.makes M.init (beq_iff_eq.mp M.fn) (codeAny_mono (Fm.run _ X.stack _ _ ⟨Value.ref (s.heap.objs.size + 1) :: us, []⟩ (Value.ref (s.heap.objs.size + 1) :: us) _ _ E (hr.make C us []) (by first | exact hgd | (simpa [Around.under, Code.guards, pushGuards] using hgd))
    (I2.env0.make C us []) hb' r2 hq) fun r s' hq' => ?_))
  cases r with
  | error e => exact hx pins σ _ _ e s' I2 hq'
  | ok fl =>
    cases fl with
    | ret u =>
      obtain ⟨v, H', I3, rv, ev, q3⟩ := I2.after hq'
      subst ev
      exact ⟨rv, ⟨V.ref (s.heap.objs.size + 1), H', I3, rfl, q3⟩⟩
    | next => exact False.elim hq'
    | brk => exact False.elim hq'
    | cont => exact False.elim hq'
def fMake (C : Addr) (ns : List Str) (n : Nat) (fa : Rho → M W (List T)) (Fn : List T → M W (List T)) : Rho → M W T := fun ρ => bnd (fa ρ) fun ts => if ts.length = n then bnd (Fn ts) fun zs => ret (.ins C ns zs) else stuck
theorem pv_make {k n : Nat} {f C : Addr} {ns : List Str} {Fn : List T → M W (List T)} {x : Str} {e : Expr} {es : List Expr} {fa : Rho → M W (List T)} {p pos : Pos} (M : Mk X.K C f) (D : InitOk X.prog X.w X.K X.mg X.base k f C ns n Fn) (hr : Room (k + 1) X.A) (hgd : X.A.guards = some []) (hg : Gl X x) (hm : X.mg x = some (.ref C)) (hx : Passes (L2.CX X.prog X.w) X E)
    (ha : PAs X G E (e :: es) fa) (hdb : (x == ("__debug__" : Str)) = false := by decide) (he : starEach (e :: es) X.env = (false, eval e X.env) :: starEach es X.env := by rfl) (hpl : (backTo pos (starEach es X.env)).any (·.1) = false := by rfl) :
    PV X G E (.Call (.Name x p) (e :: es) [] pos) (fMake C ns n fa Fn) := by
  obtain ⟨fd, ps, Fm, hb⟩ := D.ex
  refine ⟨⟨fun pins s σ H Q I h => ?_⟩⟩
  obtain ⟨ρ, w, F, q, w', S, hf, acc⟩ := h
  refine wpAny_Call_Name_kw (ld_glob I hg hm ?_ hdb)
  refine PySem.W.callWith_K (h₀ := X.base) I.ok.mod.kin M.kp (thn (ha.run.run pos pins s σ H _ I (tA.bind (X := X) (Q := fun vs H1 => ∀ x dx, H1 x = none → H1 dx = none → dx ≠ x → spI X.K C ns n Fn (.ref x :: vs) (upd (upd H1 dx (.own x)) x (.ins C dx [])) (fun v H2 => v = .non ∧ Q (.ref x) H2) E) S hf acc.er fun ts w1 vs H1 F1 S1 s1 r1 hk => ?_)) fun us s1 ⟨vs, H1, I1, r, q⟩ => ⟨I1.kIn, ?_⟩) he hpl
  · intro x dx hx1 hdx1 ne
    split at hk
    · rename_i hl
      have fr := S1.fresh hx1
      rcases bnd_inv hk with ⟨zs, w2, h2, h3⟩ | ⟨er, h2, rfl⟩
      · obtain ⟨rfl, rfl⟩ := ret_inv h3
        refine ⟨G.O, H1, F1, ts, w1, .ok zs, _, x, dx, vs, rfl, by rw [r1.length]; exact hl, rfl, hx1, hdx1, ne, S1.sub, S1.wok, S1.dF, r1, h2, fun H' F' vs' o hx' hf' hl' rs => ⟨rfl, ?_⟩⟩
        have S' := o.sd S1
        refine acc (.ref x) H' (upd F' x (.ins C dx (ns.zip vs'))) (S'.freeze hx' hf' fr.2.1 (S1.noSlot hx1)) (s1.trans (Gr.frz o.gr hx1 hf') S1.dH) ?_
        exact .ins upd_same hl' (rs.mono (Same.updN hf'))
      · refine ⟨G.O, H1, F1, ts, w1, .er er, w', x, dx, vs, rfl, by rw [r1.length]; exact hl, rfl, hx1, hdx1, ne, S1.sub, S1.wok, S1.dF, r1, h2, fun d H' F' o ea => ?_⟩
        exact (acc.mono s1 S1.dH).er er rfl d H' F' ρ σ (o.sd S1) o.same ea
    · cases hk
  · exact run_makeG M Fm hr hgd hb hx I1 r q

/-! ### the body of an __init__ that sets attributes -/
/-- what it sets, in order: ns; x: the object, already with some -/
def tIn (K : PySem.W.Frag) (G : Gm W) (C : Addr) (ns : List Str) (fs : Rho → M W (List T)) : TS := fun D σ H => ∃ (ρ : Rho) (w : W) (F : Hp) (zs : List T) (w' : W) (x dx : Addr) (done : List Str) (vs : List V) (ts : List T),
  Sd K G ρ w σ H F ∧ σ[0]? = some (some (.ref x)) ∧ H x = some (.ins C dx (done.zip vs)) ∧ done.length = vs.length ∧ F x = none ∧ G.B x = none ∧ (∀ (i : Nat) (s : Sl), ρ[i]? = some s → s.owns = true → σ[i]? ≠ some (some (V.ref x))) ∧ Reps K F vs ts ∧
  fs ρ w = some (.ok zs, w') ∧ (done ++ ns).Nodup ∧ (done ++ ns).length ≤ 900 ∧ ∀ H' F' vs', Sd K G ρ w' σ H' F' → Same F F' → H' x = some (.ins C dx ((done ++ ns).zip vs')) → F' x = none → (done ++ ns).length = vs'.length → Reps K F' vs' (ts ++ zs) → D.nx σ H'
structure PIn (X : Cx) (G : Gm W) (C : Addr) (sts : List Stmt) (ns : List Str) (fs : Rho → M W (List T)) : Prop where
  run : PSs X sts (tIn X.K G C ns fs)
def iNil : Rho → M W (List T) := fun _ => ret []
def iCons (fa : Rho → M W T) (fs : Rho → M W (List T)) : Rho → M W (List T) := fun ρ => bnd (noEr (fa ρ)) fun t => bnd (fs ρ) fun zs => ret (t :: zs)
theorem pin_nil {C : Addr} : PIn X G C [] [] iNil := ⟨pss_nil.imp fun D σ H => by
  rintro ⟨ρ, w, F, zs, w', x, dx, done, vs, ts, S, h0, hx, hl, hF, hB, hs, rs, hf, nd, _, k⟩
  obtain ⟨e, rfl⟩ := ret_inv hf
  cases e
  simp only [List.append_nil] at k
  exact k H F vs S (Same.refl F) hx hF hl rs⟩
theorem putF_new {f : Str} {y : V} : ∀ {done : List Str} {vs : List V}, done.length = vs.length → f ∉ done → putF f y (done.zip vs) = (done ++ [f]).zip (vs ++ [y])
  | [], [], _, _ => rfl
  | d :: done, v :: vs, hl, h => by
    have ne : ¬ d = f := fun z => h (by simp [z])
    have ih := putF_new (f := f) (y := y) (done := done) (vs := vs) (by simpa using hl) fun z => h (by simp [z])
    show (if d = f then _ else (d, v) :: putF f y (done.zip vs)) = _
    rw [if_neg ne, ih]
    rfl
theorem pin_cons {C : Addr} {f : Str} {e : Expr} {fa : Rho → M W T} {sts : List Stmt} {ns : List Str} {fs : Rho → M W (List T)} {px pos' pos : Pos} {nsA : List Str} (c : ClsF X.K C nsA) (hmem : f ∈ nsA) (hself : PE X (.Name "self" px) (tVar 0)) (ha : PV X G E0 e fa) (hrest : PIn X G C sts ns fs)
    (hsw : swapsWith e (some (.Attribute (.Name "self" px) f pos')) pos.line X.env = pure false := by rfl) : PIn X G C (.Assign [.Attribute (.Name "self" px) f pos'] e pos :: sts) (f :: ns) (iCons fa fs) :=
  ⟨(pss_cons (ps_fld hself ha.run hsw) hrest.run).imp fun D σ H => by
    rintro ⟨ρ, w, F, zs, w', x, dx, done, vs, ts, S, h0, hx, hl, hF, hB, hs, rs, hf, nd, h9, k⟩
    obtain ⟨t, w1, h1, h2⟩ := noEr_bnd hf
    rcases bnd_inv h2 with ⟨zs', w2, h3, h4⟩ | ⟨er, h3, z⟩
    case inr => cases z
    obtain ⟨q, rfl⟩ := ret_inv h4
    cases q
    refine ⟨ρ, w, F, .ok t, w1, S, h1, fun v H1 F1 S1 s1 r1 => ⟨.ref x, h0, ?_⟩⟩
    have hx1 : H1 x = some (.ins C dx (done.zip vs)) := s1.keep x _ hx (S.ndB hB)
    have hF1 : F1 x = none := by rw [s1.nof x (by rw [hx]; simp)]; exact hF
    have hnd : f ∉ done := fun z => by
      have := List.nodup_append.mp nd
      exact this.2.2 f z f (by simp) rfl
    have hl9 : done.length < 1000 := by
      simp only [List.length_append, List.length_cons] at h9
      omega
    refine ⟨x, C, dx, _, rfl, hx1, c.cls, c.no f hmem, by rw [List.length_zip]; omega, ?_⟩
    have assoc : done ++ f :: ns = (done ++ [f]) ++ ns := by simp
    have S2 := S1.write (o' := .ins C dx (putF f v (done.zip vs))) hx1 hF1 hB hs
    rw [putF_new hl hnd] at S2 ⊢
    refine ⟨ρ, w1, F1, zs', _, x, dx, done ++ [f], vs ++ [v], ts ++ [t], S2, h0, upd_same, by simp [hl], hF1, hB, hs, (rs.mono s1.same).append (.one r1), h3, by rw [← assoc]; exact nd, by rw [← assoc]; exact h9, fun H' F' vs' S' s' hx' hf' hl' rs' => ?_⟩
    rw [← assoc] at hx' hl'
    exact k H' F' vs' S' (s1.same.trans s') hx' hf' hl' (by simpa using rs')⟩
theorem Sd.forget {K : PySem.W.Frag} (S : Sd K G ρ w σ H F) (i : Nat) : Sd K G (ρ.set i .un) w σ H F := by
  refine ⟨S.sub, S.wok, S.dF, S.dB, S.keep, S.grow, S.old, fun j s hj => ?_, fun j k s t hj hk hs ht e => ?_, by rw [List.length_set]; exact S.len⟩
  · rcases getElem?_set' hj with ⟨_, rfl⟩ | ⟨_, h⟩
    · trivial
    · exact S.slots j s h
  · rcases getElem?_set' hj with ⟨_, rfl⟩ | ⟨_, h1⟩
    · cases hs
    · rcases getElem?_set' hk with ⟨_, rfl⟩ | ⟨_, h2⟩
      · cases ht
      · exact S.apart j k s t h1 h2 hs ht e
/-- what it gives; m: how many names it has besides its parameters -/
def runI (m : Nat) (fs : Rho → M W (List T)) : List T → M W (List T) := fun ts => noEr (fs (.un :: (ts.map Sl.fz ++ List.replicate m Sl.un)))
theorem init_ok {P : Program} {wd : World} {K : PySem.W.Frag} {mg : Str → Option Value} {base : Heap} {x qual : Str} {st : Stmt} {f C : Addr} {N ps ns : List Str} {n m k : Nat} {fs : Rho → M W (List T)} (D : ∃ fd, Fun K x qual st f fd) (S : FnScope N ps (defScope st)) (hps : ps.length = n + 1) (hN : N.length = n + 1 + m) (nd : ns.Nodup) (h9 : ns.length ≤ 900)
    (hb : ∀ (kV doc pm : Value) (an : Option Addr) (cdv ct : Value) (us : List Value), us.length = ps.length → bindArgs (PySem.W.fnOf x qual (defArgs st) (defBody st) (defScope st) .none kV doc pm an cdv ct) ⟨us, []⟩ = pure (ps.zip us))
    (hbody : ∀ (cdv : Value) (A : Around) (outer : List PySem.Env) (s : Shared) (H : Hp) (E : XK) (G : Gm W), Room k (A.deeper (envOfC qual (defScope st) s.heap.objs.size f cdv)) → (A.deeper (envOfC qual (defScope st) s.heap.objs.size f cdv)).guards = some [] →
      PIn (cxOf (L2.CX P wd) P wd K mg base N qual (defScope st) f cdv A outer s H E) G C (defBody st) ns fs) :
    InitOk P wd K mg base (k + 1) f C ns n (runI m fs) := by
  obtain ⟨fd, Fu⟩ := D
  refine ⟨fd, ps, ?_, Fu.binds hb⟩
  obtain ⟨oc, od, kV, doc, pm, an, cdv, ct, osl, rfl, lk, hcd⟩ := Fu.ex
  have hlen : ∀ vs H Q E, spI K C ns n (runI m fs) vs H Q E → vs.length = ps.length := fun vs H Q E h => by
    obtain ⟨_, _, _, _, _, _, _, _, _, us, rfl, h, _⟩ := h
    rw [hps, ← h]
    rfl
  refine ⟨hlen, fun A outer s H args us vs Q E hr hgd e0 hb r hsp => ?_⟩
  have KX : K.In s.heap := e0.mod.kin.keeps fun b o e => (e0.bs b o e).1
  have hkind : ∀ y ∈ ps.zip us, (defScope st).names.lookup y.1 = some .local ∨ ((defScope st).names.lookup y.1 = some .cell ∧ ((cellsFrom (s.heap.objs.size + 1) (defScope st).names []).lookup y.1).isSome = true) := fun ⟨z, v⟩ hy =>
    (S.par z (List.of_mem_zip hy).1).imp id fun q => ⟨q, PySem.W.cellsFrom_some _ _ _ (.inl q)⟩
  refine codeAny_call_function hr.depth (KX _ _ lk) rfl S.co S.gen rfl (PySem.W.codeRec_of KX hcd) (hb _ _ _ _ (wpAny_newFunctionEnv_cells S.kind hkind fun env he s1 e1 => ?_))
  subst he
  have I : Inv (cxOf (L2.CX P wd) P wd K mg base N qual (defScope st) f cdv A outer s H E) [] (start N vs) H s1 := inv_start S hr.hd e0 (hlen _ _ _ _ hsp) r e1
  obtain ⟨O, H1, F, ts, w, rr, w', xx, dx, us', rfl, hl, rfl, hx1, hdx1, ne, sub, wok, dF, rs, hfn, acc⟩ := hsp
  obtain ⟨zs, rfl, hfn2⟩ := noEr_inv hfn
  let G : Gm W := ⟨O, H1, F⟩
  have hts : ts.length = n := by rw [← rs.length]; exact hl
  have S0 := Sd.start (K := K) (N := N) (vs := .ref xx :: us') (ts := .raw (.ref xx) :: ts) sub wok dF (.cons (.raw _) rs) (by rw [List.length_cons, hts]; omega)
  have S1 := (S0.forget 0).laid (p := dx) (o := .own xx) hdx1
  have hx2 : upd H1 dx (.own xx) xx = none := by rw [upd_ne (Ne.symm ne)]; exact hx1
  have S2 := S1.laid (p := xx) (o := .ins C dx []) hx2
  have e0' : ((T.raw (.ref xx) :: ts).map Sl.fz ++ List.replicate (N.length - (T.raw (.ref xx) :: ts).length) Sl.un).set 0 .un = .un :: (ts.map Sl.fz ++ List.replicate m Sl.un) := by
    have : N.length - (T.raw (V.ref xx) :: ts).length = m := by rw [List.length_cons, hts]; omega
    rw [this]
    rfl
  rw [e0'] at S2
  have hF : F xx = none := sub.free hx1
  have hself : (L2.start N (.ref xx :: us'))[0]? = some (some (.ref xx)) := rfl
  have hnos : ∀ (i : Nat) (s : Sl), (Sl.un :: (ts.map Sl.fz ++ List.replicate m Sl.un))[i]? = some s → s.owns = true → (L2.start N (.ref xx :: us'))[i]? ≠ some (some (V.ref xx)) := by
    intro i s hs ho
    have : s ∈ Sl.un :: (ts.map Sl.fz ++ List.replicate m Sl.un) := List.mem_of_getElem? hs
    simp only [List.mem_cons, List.mem_append, List.mem_map, List.mem_replicate] at this
    rcases this with rfl | ⟨t, _, rfl⟩ | ⟨_, rfl⟩ <;> cases ho
  refine ⟨(e0.mod.nolimit.keeps fun b o e => (e0.bs b o e).1).keeps e1.toInCall.keep, codeAny_func (wpAny_mono ((hbody cdv A outer s _ E G (hr.deeper _) hgd).run.run [] s1 (start N (.ref xx :: us')) _ { nx := fun _ H' => Q .non H', rt := Q } I
    ⟨_, w, F, zs, w', xx, dx, [], [], [], S2, hself, upd_same, rfl, hF, hx1, hnos, .nil, hfn2, by simpa using nd, by simpa using h9, fun H' F' vs' S' s' hx' hf' hl' rs' => acc H' F' vs' ⟨S'.sub, s', S'.old, S'.keep, S'.wok, S'.dF⟩ (by simpa using hx') hf' (by simpa using hl') (by
      have z : Reps K F' vs' ([] ++ zs) := rs'
      simpa using z)⟩) (fun fl s' hs => ?_) fun e s' hs => hs)⟩
  cases fl with
  | ret u =>
    obtain ⟨v, σ', H', J, rv, q⟩ := hs
    exact ⟨v, H', J.os, J.bare, J.base, J.hok, rv, q⟩
  | next =>
    obtain ⟨σ', H', J, q⟩ := hs
    exact ⟨.non, H', J.os, J.bare, J.base, J.hok, rfl, q⟩
  | brk =>
    obtain ⟨_, _, _, q⟩ := hs
    exact q.elim
  | cont =>
    obtain ⟨_, _, _, q⟩ := hs
    exact q.elim

/-! ### static methods -/
structure SmM (K : PySem.W.Frag) (C : Addr) (m : Str) (p g : Addr) : Prop where
  ga : PySem.W.specialIn K (.ref C) "__getattribute__" = some (some (.builtin "type.__getattribute__"))
  rd : PySem.W.readsIn K C (.type "type") = true
  at_ : PySem.W.findCls K (.ref C) (.type "type") m = some (.get (.builtin "staticmethod.__get__") (.ref p) .none (.ref C))
  rc : ∃ rest, PySem.W.recIn K p "staticmethod" = some (.ref g :: rest)
  kp : PySem.W.keepIn K (.ref g) = true
section
variable {k n : Nat} {C p g : Addr} {x m : Str} {e : Expr} {es : List Expr} {fa : Rho → M W (List T)} {Fn : List T → M W T} {px apos pos : Pos} {pl : Sem Bool}
theorem getsm_ok {pins : List (Addr × Obj)} {s : Shared} {Q : Value × List Value → Shared → Prop} (I : Inv X pins σ H s) (c : SmM X.K C m p g) (h : Q (.ref g, []) { s with toks := s.toks + 1 }) : wpAny (model X.prog X.w) X.A (getMethod (.ref C) m pl) Q X.xe s := by
  obtain ⟨rest, hp⟩ := c.rc
  refine PySem.W.method_cls I.kIn c.ga (PySem.W.cls_bind I.kIn c.rd c.at_ ?_)
  exact wpAny_call (PySem.W.sm_get (s := { s with toks := s.toks + 1 }) I.kIn hp (PySem.W.handed_on rfl h))
theorem pv_static (c : SmM X.K C m p g) (D : MethOk X.prog X.w X.K X.mg X.base k g n Fn) (hr : Room k X.A) (hgd : X.A.guards = some []) (hg : Gl X x) (hm : X.mg x = some (.ref C)) (hx : Passes (L2.CX X.prog X.w) X E) (ha : PAs X G E (e :: es) fa) (hdb : (x == ("__debug__" : Str)) = false := by decide)
    (he : starEach (e :: es) X.env = (false, eval e X.env) :: starEach es X.env := by rfl) (hpl : (backTo pos (starEach es X.env)).any (·.1) = false := by rfl)
    (ht : eval (.Call (.Attribute (.Name x px) m apos) (e :: es) [] pos) X.env = (do
      let ov ← eval (.Name x px) X.env
      standAt apos.atName
      let (f, first) ← holding [ov] (getMethod ov m pl)
      callWith pos f first (backTo pos (starEach (e :: es) X.env)) (backToKw pos (keywordEach [] X.env))) := by rfl) :
    PV X G E (.Call (.Attribute (.Name x px) m apos) (e :: es) [] pos) (fCall n fa Fn) := by
  obtain ⟨fd, ps, Fm, hb⟩ := D.ex
  refine ⟨⟨fun pins s σ H Q I h => ?_⟩⟩
  obtain ⟨ρ, w, F, q, w', S, hf, acc⟩ := h
  refine PySem.W.methodCall_KW (pl := pl) (ld_glob I hg hm ?_ hdb) ht
  refine getsm_ok I c ?_
  refine PySem.W.callWith_K (first := []) (h₀ := X.base) I.ok.mod.kin c.kp (thn (ha.run.run pos pins { s with toks := s.toks + 1 } σ H _ (I.tok _) (tA.bind (X := X) (Q := fun vs H1 => spF X.K n Fn vs H1 Q E) S hf acc.er fun ts w1 vs H1 F1 S1 s1 r1 hk => ?_)) fun us s1 ⟨vs, H1, I1, r, q⟩ => ⟨I1.kIn, run_fnG Fm hr hgd rfl hb hx I1 r q⟩) he hpl
  split at hk
  · rename_i hl
    exact spF.of S1 r1 hl hk (fun t ht v H' F' S' s' rv => by subst ht; exact acc v H' F' S' (s1.trans s' S1.dH) rv) (acc.mono s1 S1.dH).er
  · cases hk
/-- the same by names; ks: the parameters -/
theorem pv_staticK {kws : List Keyword} {ks : List Str} {tk : TA} (c : SmM X.K C m p g) (D : ∃ fd ps, FnG X.prog X.w X.K X.mg X.base (L2.CX X.prog X.w) k g fd ps (spF X.K n Fn) ∧ KBinds X.K fd ps ks (fun us ws => us ++ ws) (fun vs zs => vs ++ zs)) (hr : Room k X.A) (hgd : X.A.guards = some []) (hg : Gl X x) (hm : X.mg x = some (.ref C)) (hx : Passes (L2.CX X.prog X.w) X E)
    (hkw : PK X kws tk) (htk : ∀ σ H Q, tA X.K G E fa σ H Q → tk σ H Q) (hall : (backToKw pos (keywordEach kws X.env)).all (·.1.isSome) = true := by rfl) (hks : (backToKw pos (keywordEach kws X.env)).filterMap (·.1) = ks := by rfl) (hdb : (x == ("__debug__" : Str)) = false := by decide)
    (hpl : ((backTo pos (starEach [] X.env)).any (·.1) || (backToKw pos (keywordEach kws X.env)).any (·.1.isNone)) = false := by rfl)
    (ht : eval (.Call (.Attribute (.Name x px) m apos) [] kws pos) X.env = (do
      let ov ← eval (.Name x px) X.env
      standAt apos.atName
      let (f, first) ← holding [ov] (getMethod ov m pl)
      callWith pos f first (backTo pos (starEach [] X.env)) (backToKw pos (keywordEach kws X.env))) := by rfl) :
    PV X G E (.Call (.Attribute (.Name x px) m apos) [] kws pos) (fCall n fa Fn) := by
  obtain ⟨fd, ps, Fm, hb⟩ := D
  refine ⟨⟨fun pins s σ H Q I h => ?_⟩⟩
  obtain ⟨ρ, w, F, q, w', S, hf, acc⟩ := h
  refine PySem.W.methodCall_KW (pl := pl) (ld_glob I hg hm ?_ hdb) ht
  refine getsm_ok I c ?_
  refine PySem.W.callWith_KW0 (first := []) (h₀ := X.base) I.ok.mod.kin c.kp hall (thn (hkw.run pos pins { s with toks := s.toks + 1 } σ H _ (I.tok _) (htk _ _ _ (tA.bind (X := X) (Q := fun vs H1 => spF X.K n Fn vs H1 Q E) S hf acc.er fun ts w1 vs H1 F1 S1 s1 r1 hk => ?_))) fun us s1 ⟨vs, H1, I1, r, q⟩ => ⟨I1.kIn, ?_⟩) hpl
  · split at hk
    · rename_i hl
      exact spF.of S1 r1 hl hk (fun t ht v H' F' S' s' rv => by subst ht; exact acc v H' F' S' (s1.trans s' S1.dH) rv) (acc.mono s1 S1.dH).er
    · cases hk
  · rw [hks]
    have r2 := hb.rel (vs := []) (us := []) .nil r
    have hl : (([] : List Value) ++ us).length = ps.length := by rw [← r2.length]; exact Fm.len _ _ _ _ q
    exact wpAny_call (FnG.out hx I1 (Fm.run X.A X.stack s1 H1 ⟨[], ks.zip us⟩ ([] ++ us) ([] ++ vs) Q E hr hgd I1.env0 (hb.to s1 [] us I1.kIn hl) r2 q))
end
end
section
variable {W : Type} {P : Program} {w : World} {K : PySem.W.Frag} {mg : Str → Option Value} {base : Heap}
theorem meth_okK {x qual : Str} {st : Stmt} {f : Addr} {N ps ks : List Str} {n m k : Nat} {g : Rho → M W Fl} (D : ∃ fd, Fun K x qual st f fd) (S : FnScope N ps (defScope st)) (hps : ps.length = n) (hN : N.length = n + m)
    (hb : ∀ (kV doc pm : Value) (an : Option Addr) (cdv ct : Value) (us ws : List Value), (us ++ ws).length = ps.length → bindArgs (PySem.W.fnOf x qual (defArgs st) (defBody st) (defScope st) .none kV doc pm an cdv ct) ⟨us, ks.zip ws⟩ = pure (ps.zip (us ++ ws)))
    (hbody : ∀ (cdv : Value) (A : Around) (outer : List PySem.Env) (s : Shared) (H : Hp) (E : XK) (G : Gm W), Room k (A.deeper (envOfC qual (defScope st) s.heap.objs.size f cdv)) → (A.deeper (envOfC qual (defScope st) s.heap.objs.size f cdv)).guards = some [] →
      PDs (cxOf (L2.CX P w) P w K mg base N qual (defScope st) f cdv A outer s H E) G E (defBody st) g) :
    ∃ fd ps, FnG P w K mg base (L2.CX P w) (k + 1) f fd ps (spF K n (run m g)) ∧ KBinds K fd ps ks (fun us ws => us ++ ws) (fun vs zs => vs ++ zs) := by
  obtain ⟨fd, F⟩ := D
  refine ⟨fd, ps, body_ok F S hps hN hbody, ⟨fun s us ws _ hl => ?_, fun r rz => r.append rz⟩⟩
  obtain ⟨oc, od, kV, doc, pm, an, cdv, ct, osl, rfl, lk, hcd⟩ := F.ex
  exact .of_eq (hb kV doc pm an cdv ct us ws hl)
theorem tk_one {X : Cx} {G : Gm W} {E : XK} {fa : Rho → M W T} : ∀ σ H Q, tA X.K G E (aCons fa aNil) σ H Q → tCons (tV X.K G E fa) tNil σ H Q := fun σ H Q => by
  rintro ⟨ρ, w, F, r, w', S, hf, acc⟩
  refine tV.bind (X := X) S hf acc.er fun t w1 v H1 F1 S1 s1 r1 hk => ?_
  obtain ⟨rfl, rfl⟩ := ret_inv hk
  exact acc [v] H1 F1 S1 s1 (.one r1)
end
end PL

/-! PLq: a list comprehension over the keys of a dict. -/
namespace PL
open PySem PySem.Spec PyProof.Rows L2
section
variable {W : Type} {X : Cx} {G : Gm W} {E : XK} {ρ : Rho} {w w' : W} {σ : L2.St} {H F : Hp}
section
variable {K : PySem.W.Frag} {a : Addr} {o : Obj} {kvs : List (Key × V)}
theorem SqT.ne {F : Hp} {b : Addr} {xs : List V} (h : SqT K F b xs) (u : HO) (hu : ∀ ys, u ≠ .tup ys) (hf : ∀ o ys, u ≠ .frz o (.tup ys)) (ha : F a = some u) : SqT K (fun c => if c = a then some u else F c) b xs ∨ b ≠ a := by
  by_cases e : b = a
  · subst e
    rcases h with (h | ⟨o, h⟩) | h
    · rw [ha] at h; cases h; exact absurd rfl (hu _)
    · rw [ha] at h; cases h; exact absurd rfl (hf _ _)
    · exact .inl (.inr h)
  · exact .inr e
theorem SqT.chg {F : Hp} {b : Addr} {xs : List V} {u u' : HO} (h : SqT K F b xs) (ha : F a = some u) (hu : ∀ ys, u ≠ .tup ys) (hf : ∀ o ys, u ≠ .frz o (.tup ys)) : SqT K (upd F a u') b xs := by
  rcases h with (h | ⟨o, h⟩) | h
  · exact .inl (.inl (by rw [upd_ne (fun e => by subst e; rw [ha] at h; cases h; exact hu _ rfl)]; exact h))
  · exact .inl (.inr ⟨o, by rw [upd_ne (fun e => by subst e; rw [ha] at h; cases h; exact hf _ _ rfl)]; exact h⟩)
  · exact .inr h
mutual
theorem Rep.lock {F : Hp} (ha : F a = some (.dK kvs)) : ∀ {v : V} {t : T}, Rep K F v t → Rep K (upd F a (.frz o (.dK kvs))) v t
  | _, _, .non => .non
  | _, _, .bl b => .bl b
  | _, _, .int i => .int i
  | _, _, .str x => .str x
  | _, _, .tup h r => .tup (SqT.chg h ha (fun _ z => nomatch z) fun _ _ z => nomatch z) (Reps.lock ha r)
  | _, _, .lst h r => .lst (by rw [upd_ne (fun e => by subst e; rw [ha] at h; cases h)]; exact h) (Reps.lock ha r)
  | _, _, .dct (a := b) h e r => .dct (by
      by_cases q : b = a
      · subst q
        rcases h with h | ⟨o', h⟩
        · rw [ha] at h; cases h; exact .inr ⟨o, upd_same⟩
        · rw [ha] at h; cases h
      · rcases h with h | ⟨o', h⟩
        · exact .inl (by rw [upd_ne q]; exact h)
        · exact .inr ⟨o', by rw [upd_ne q]; exact h⟩) e (Reps.lock ha r)
  | _, _, .ins h e r => .ins (by rw [upd_ne (fun e => by subst e; rw [ha] at h; cases h)]; exact h) e (Reps.lock ha r)
  | _, _, .raw v => .raw v
theorem Reps.lock {F : Hp} (ha : F a = some (.dK kvs)) : ∀ {vs : List V} {ts : List T}, Reps K F vs ts → Reps K (upd F a (.frz o (.dK kvs))) vs ts
  | _, _, .nil => .nil
  | _, _, .cons h r => .cons (Rep.lock ha h) (Reps.lock ha r)
end
mutual
theorem Rep.unlock {F : Hp} (ha : F a = some (.frz o (.dK kvs))) : ∀ {v : V} {t : T}, Rep K F v t → Rep K (upd F a (.dK kvs)) v t
  | _, _, .non => .non
  | _, _, .bl b => .bl b
  | _, _, .int i => .int i
  | _, _, .str x => .str x
  | _, _, .tup h r => .tup (SqT.chg h ha (fun _ z => nomatch z) fun _ _ z => nomatch z) (Reps.unlock ha r)
  | _, _, .lst h r => .lst (by rw [upd_ne (fun e => by subst e; rw [ha] at h; cases h)]; exact h) (Reps.unlock ha r)
  | _, _, .dct (a := b) h e r => .dct (by
      by_cases q : b = a
      · subst q
        rcases h with h | ⟨o', h⟩
        · rw [ha] at h; cases h
        · rw [ha] at h; cases h; exact .inl upd_same
      · rcases h with h | ⟨o', h⟩
        · exact .inl (by rw [upd_ne q]; exact h)
        · exact .inr ⟨o', by rw [upd_ne q]; exact h⟩) e (Reps.unlock ha r)
  | _, _, .ins h e r => .ins (by rw [upd_ne (fun e => by subst e; rw [ha] at h; cases h)]; exact h) e (Reps.unlock ha r)
  | _, _, .raw v => .raw v
theorem Reps.unlock {F : Hp} (ha : F a = some (.frz o (.dK kvs))) : ∀ {vs : List V} {ts : List T}, Reps K F vs ts → Reps K (upd F a (.dK kvs)) vs ts
  | _, _, .nil => .nil
  | _, _, .cons h r => .cons (Rep.unlock ha h) (Reps.unlock ha r)
end
/-- the frame with the dict at a changed, where it stands -/
def chg (H : Hp) (a : Addr) (u : HO) : Hp := fun b => if b = a then (H a).map fun _ => u else H b
theorem chg_ne {H : Hp} {u : HO} {b : Addr} (h : b ≠ a) : chg H a u b = H b := if_neg h
theorem chg_same {H : Hp} {u : HO} : chg H a u a = (H a).map fun _ => u := if_pos rfl
def lockG (G : Gm W) (a : Addr) (u : HO) : Gm W := ⟨G.O, chg G.B a u, chg G.F0 a u⟩
theorem Sd.lock (S : Sd K G ρ w σ H F) (ha : F a = some (.dK kvs)) : Sd K (lockG G a (.frz o (.dK kvs))) ρ w σ (upd H a (.frz o (.dK kvs))) (upd F a (.frz o (.dK kvs))) := by
  have nd : ¬ G.O.D a := fun d => by have := S.dF a d; rw [ha] at this; cases this
  refine ⟨Same.updB S.sub, G.O.stay S.wok (fun b db => upd_ne (neq_of nd db)) (fun b f e => upd_ne fun z => by rw [z, S.sub _ _ ha] at e; cases e), fun b db => by rw [upd_ne (neq_of nd db)]; exact S.dF b db, fun b db => by show chg G.B a _ b ≠ none; rw [chg_ne (neq_of nd db)]; exact S.dB b db, fun b u e d => ?_, fun b u e => ?_, fun b hb => ?_, fun i s hs => ?_, S.apart, S.len⟩
  · have e' : chg G.B a _ b = some u := e
    by_cases q : b = a
    · subst q
      rw [chg_same] at e'
      cases z : G.B b with
      | none => rw [z] at e'; cases e'
      | some y => rw [z] at e'; cases e'; exact upd_same
    · rw [chg_ne q] at e'; rw [upd_ne q]; exact S.keep b u e' d
  · have e' : chg G.F0 a _ b = some u := e
    by_cases q : b = a
    · subst q
      rw [chg_same] at e'
      cases z : G.F0 b with
      | none => rw [z] at e'; cases e'
      | some y => rw [z] at e'; cases e'; exact upd_same
    · rw [chg_ne q] at e'; rw [upd_ne q]; exact S.grow b u e'
  · show upd F a _ b = chg G.F0 a _ b
    have hb' : chg G.B a _ b ≠ none := hb
    by_cases q : b = a
    · subst q
      have : G.B b ≠ none := fun z => hb' (by rw [chg_same, z]; rfl)
      rw [chg_same, ← S.old b this, ha, upd_same]
      rfl
    · rw [chg_ne q] at hb' ⊢; rw [upd_ne q]; exact S.old b hb'
  · have q := S.slots i s hs
    have npa : ∀ p : Addr, F p = none → p ≠ a := fun p hp z => by subst z; rw [ha] at hp; cases hp
    have nB : ∀ p : Addr, p ≠ a → G.B p = none → (lockG G a (.frz o (.dK kvs))).B p = none := fun p hp h => by show chg G.B a _ p = none; rw [chg_ne hp]; exact h
    cases s with
    | un => trivial
    | fz t => obtain ⟨v, e, r⟩ := q; exact ⟨v, e, r.lock ha⟩
    | ow ts =>
      obtain ⟨p, vs, e, h1, h2, h3, r⟩ := q
      have np := npa p h2
      exact ⟨p, vs, e, by rw [upd_ne np]; exact h1, by rw [upd_ne np]; exact h2, nB p np h3, r.lock ha⟩
    | od ks ts =>
      obtain ⟨p, vs, e, h1, hl, h2, h3, r⟩ := q
      have np := npa p h2
      exact ⟨p, vs, e, by rw [upd_ne np]; exact h1, hl, by rw [upd_ne np]; exact h2, nB p np h3, r.lock ha⟩
/-- .. and back, in a later state -/
theorem Sd.unlock {ρ' : Rho} {w1 : W} {σ' : L2.St} {H' F' : Hp} (S0 : Sd K G ρ w σ H F) (ha : F a = some (.dK kvs)) (S : Sd K (lockG G a (.frz o (.dK kvs))) ρ' w1 σ' H' F') (hF : F' a = some (.frz o (.dK kvs))) :
    Sd K G ρ' w1 σ' (upd H' a (.dK kvs)) (upd F' a (.dK kvs)) := by
  have nd : ¬ G.O.D a := fun d => by have := S0.dF a d; rw [ha] at this; cases this
  refine ⟨Same.updB S.sub, G.O.stay S.wok (fun b db => upd_ne (neq_of nd db)) (fun b f e => upd_ne fun z => by rw [z, S.sub _ _ hF] at e; cases e), fun b db => by rw [upd_ne (neq_of nd db)]; exact S.dF b db, S0.dB, fun b u e d => ?_, fun b u e => ?_, fun b hb => ?_, fun i s hs => ?_, S.apart, S.len⟩
  · by_cases q : b = a
    · subst q
      have := S0.sub _ _ ha
      rw [S0.keep b u e d] at this
      cases this
      exact upd_same
    · rw [upd_ne q]; exact S.keep b u (by show chg G.B a _ b = _; rw [chg_ne q]; exact e) d
  · by_cases q : b = a
    · subst q
      have := S0.grow b u e
      rw [ha] at this
      cases this
      exact upd_same
    · rw [upd_ne q]; exact S.grow b u (by show chg G.F0 a _ b = _; rw [chg_ne q]; exact e)
  · by_cases q : b = a
    · subst q
      rw [upd_same, ← S0.old b hb, ha]
    · rw [upd_ne q]
      have z := S.old b (by show chg G.B a _ b ≠ none; rw [chg_ne q]; exact hb)
      rw [z]
      show chg G.F0 a _ b = _
      rw [chg_ne q]
  · have q := S.slots i s hs
    have npa : ∀ p : Addr, F' p = none → p ≠ a := fun p hp z => by subst z; rw [hF] at hp; cases hp
    have nB : ∀ p : Addr, p ≠ a → (lockG G a (.frz o (.dK kvs))).B p = none → G.B p = none := fun p hp h => by
      have h' : chg G.B a _ p = none := h
      rw [chg_ne hp] at h'; exact h'
    cases s with
    | un => trivial
    | fz t => obtain ⟨v, e, r⟩ := q; exact ⟨v, e, r.unlock hF⟩
    | ow ts =>
      obtain ⟨p, vs, e, h1, h2, h3, r⟩ := q
      have np := npa p h2
      exact ⟨p, vs, e, by rw [upd_ne np]; exact h1, by rw [upd_ne np]; exact h2, nB p np h3, r.unlock hF⟩
    | od ks ts =>
      obtain ⟨p, vs, e, h1, hl, h2, h3, r⟩ := q
      have np := npa p h2
      exact ⟨p, vs, e, by rw [upd_ne np]; exact h1, hl, by rw [upd_ne np]; exact h2, nB p np h3, r.unlock hF⟩
end
def keyV : Key → T
  | .inl i => .int i
  | .inr x => .str x
def fKeys (i : Nat) : Rho → M W (List T) := fun ρ => match ρ[i]? with
  | some (.fz (.dct ks _)) => ret (ks.map keyV)
  | _ => stuck
theorem fKeys_inv {i : Nat} {r : R (List T)} (h : fKeys i ρ w = some (r, w')) : ∃ ks ts, ρ[i]? = some (.fz (.dct ks ts)) ∧ r = .ok (ks.map keyV) ∧ w' = w := by
  unfold fKeys at h
  cases e : ρ[i]? with
  | none => rw [e] at h; cases h
  | some s =>
    rw [e] at h
    cases s with
    | fz t =>
      cases t with
      | dct ks ts =>
        obtain ⟨rfl, rfl⟩ := ret_inv h
        exact ⟨ks, ts, rfl, rfl, rfl⟩
      | _ => cases h
    | _ => cases h
theorem walks_keys {K : PySem.W.Frag} {a : Addr} {o : Obj} {ks : List Key} {vs : List V} (h : F a = some (.frz o (.dK (ks.zip vs)))) (hl : ks.length = vs.length) : Walks K G (Itk a o (ks.zip vs)) F (ks.map keyV) := by
  have hz : (ks.zip vs).length = ks.length := by rw [List.length_zip]; omega
  refine ⟨fun i ρ w σ H F' s S t ht => ?_, fun i ρ w σ H F' s S hi => ?_⟩
  · rw [List.getElem?_map] at ht
    cases e : ks[i]? with
    | none => rw [e] at ht; cases ht
    | some k =>
      rw [e] at ht
      cases ht
      have hi : i < ks.length := (List.getElem?_eq_some_iff.mp e).1
      refine ⟨⟨S.sub _ _ (s _ _ h), by rw [hz]; exact hi⟩, fun x H' hy => ?_⟩
      obtain ⟨rfl, k', v', hk, rfl⟩ := hy
      rw [List.getElem?_zip_eq_some] at hk
      rw [e] at hk
      have e2 : k = k' := Option.some.inj hk.1
      subst e2
      refine ⟨F', .refl, S, ?_⟩
      cases k with
      | inl i => exact .int i
      | inr x => exact .str x
  · exact ⟨S.sub _ _ (s _ _ h), by rw [hz]; simpa using hi⟩
section
variable {elt tg : Expr} {ifs : List Expr} {scope : Scope} {own : List (Str × Nat)} {x : Str} {px pos : Pos} {is : List Nat} {h : T → Rho → Option Rho} {gt : Rho → M W Bool} {ge : Rho → M W T}
/-- [e for k in d if ..], d a frozen dict in the i-th slot -/
theorem keys_core {i : Nat} {a : Addr} {o : Obj} {kvs : List (Key × V)} {Q : VK} {vs : List Nat} (his : ∀ i ∈ is, i ∈ vs) (hv : σ[i]? = some (some (.ref a))) (hH : H a = some (.frz o (.dK kvs))) (q : tF X.K G E (fLc (fKeys i) vs h gt ge) σ H Q) :
    tLc (iKeys (tVar i)) (tG X.K G is h) (tT X.K G E0 gt) (tV X.K G E0 ge) vs σ H Q := by
  have z := tLc.of (is := is) his σ H Q q
  obtain ⟨ρ, w, F, r, w', S, hf, acc⟩ := z
  obtain ⟨ks, ts, hs, rfl, rfl⟩ := fKeys_inv hf
  obtain ⟨v, e, rv⟩ := S.slots i _ hs
  rw [hv] at e
  cases e
  cases rv with
  | @dct _ _ vs' _ hr hl rs =>
    have hF : F a = some (.frz o (.dK kvs)) := by
      rcases hr with hr | ⟨o', hr⟩
      · have := S.sub _ _ hr; rw [hH] at this; cases this
      · have := S.sub _ _ hr; rw [hH] at this; cases this; exact hr
    have ek : kvs = ks.zip vs' := by
      rcases hr with hr | ⟨o', hr⟩
      · rw [hF] at hr; cases hr
      · rw [hF] at hr; cases hr; rfl
    subst ek
    exact ⟨.ref a, hv, a, o, rfl, .inl ⟨_, hH, acc _ H F S .refl (walks_keys hF hl)⟩⟩
theorem pf_lcK (i : Nat) (hc : X.calm = true) (hN : X.N.Nodup) (hi : X.N[i]? = some x) (hvis : Vis X.env.scope x) (ok : BlkOk X.N X.env.scope scope own) (B : ∀ G : Gm W, Blk X G scope tg ifs elt is h gt ge) (his : ∀ i ∈ is, i ∈ own.map (·.2)) (hd : (x == ("__debug__" : Str)) = false := by decide) (hcd : (x == ("__classdict__" : Str)) = false := by decide)
    (hs : ∀ z, foldedSetIterable (.Name x px) X.env z = pure z := by intro _; rfl) : PF X G E (.ListComp elt [⟨tg, .Name x px, ifs, 0⟩] scope pos) (fLc (fKeys i) (own.map (·.2)) h gt ge) := by
  have P : ∀ G : Gm W, PE X (.ListComp elt [⟨tg, .Name x px, ifs, 0⟩] scope pos) (tLc (iKeys (tVar i)) (tG X.K G is h) (tT X.K G E0 gt) (tV X.K G E0 ge) (own.map (·.2))) := fun G =>
    pe_lc hc hN (pi_keys (pe_var hi hvis hd hcd)) ok (fun s H C cl fp => ((B G).tg s H C cl fp).run) (B G).ts (fun s H C cl fp => ((B G).el s H C cl fp).run) hs
  refine ⟨⟨fun pins s σ H Q I q => ?_⟩⟩
  obtain ⟨ρ, w, F, r, w', S, hf, acc⟩ := q
  have hok : ∃ us, r = .ok us := by
    rcases bnd_inv hf with ⟨ts, w1, h1, h2⟩ | ⟨e, h1, rfl⟩
    · split at h2
      · exact compD_ok h2
      · cases h2
    · obtain ⟨_, _, _, z, _⟩ := fKeys_inv h1
      cases z
  obtain ⟨us, rfl⟩ := hok
  have hsl : ∃ ks ts, ρ[i]? = some (.fz (.dct ks ts)) := by
    rcases bnd_inv hf with ⟨ts, w1, h1, h2⟩ | ⟨e, h1, z⟩
    · obtain ⟨ks, ts, e, _⟩ := fKeys_inv h1
      exact ⟨ks, ts, e⟩
    · cases z
  obtain ⟨ks, ts, hsl⟩ := hsl
  obtain ⟨v, hv, rv⟩ := S.slots i _ hsl
  cases rv with
  | @dct a _ vs _ hr hl rs =>
    rcases hr with hr | ⟨o, hr⟩
    · obtain ⟨o, I1⟩ := I.lock (S.sub _ _ hr) trivial
      have S1 := S.lock (o := o) hr
      refine thn ((P (lockG G a (.frz o (.dK (ks.zip vs))))).run pins s σ _ (fun v H' => H' a = some (.frz o (.dK (ks.zip vs))) ∧ Q v (upd H' a (.dK (ks.zip vs)))) I1 (keys_core (E := E) his hv upd_same ⟨ρ, w, _, .ok us, w', S1, hf, fun p vs' H' F' S' g h0 h1 h2 h3 h4 h5 => ?_⟩)) fun v s1 ⟨y, H1, I2, ry, e2, q⟩ => ⟨y, _, I2.unlock e2 (I.nofrz (S.sub _ _ hr) trivial), ry, q⟩
      have hF' : F' a = some (.frz o (.dK (ks.zip vs))) := g.same _ _ upd_same
      have npa : p ≠ a := fun z => by subst z; rw [upd_same] at h0; cases h0
      refine ⟨S'.sub _ _ hF', acc p vs' _ (upd F' a (.dK (ks.zip vs))) (S.unlock hr S' hF') ⟨fun b u e => ?_, fun b u e d => ?_, fun b hb => ?_⟩ (by rw [upd_ne npa] at h0; exact h0) (by rw [upd_ne npa]; exact h1) (by rw [upd_ne npa]; exact h2) (by
        have h3' : chg G.B a _ p = none := h3
        rw [chg_ne npa] at h3'; exact h3') h4 (h5.unlock hF')⟩
      · by_cases z : b = a
        · subst z; rw [hr] at e; cases e; exact upd_same
        · rw [upd_ne z]; exact g.same b u (by rw [upd_ne z]; exact e)
      · by_cases z : b = a
        · subst z
          have := S.sub _ _ hr
          rw [e] at this
          cases this
          exact upd_same
        · rw [upd_ne z]; exact g.keep b u (by rw [upd_ne z]; exact e) d
      · by_cases z : b = a
        · subst z; rw [upd_same, hr]
        · rw [upd_ne z]
          have := g.nof b (by rw [upd_ne z]; exact hb)
          rw [upd_ne z] at this
          exact this
    · exact (P G).run pins s σ H Q I (keys_core (E := E) his hv (S.sub _ _ hr) ⟨ρ, w, F, .ok us, w', S, hf, acc⟩)
end
end
end PL

/-! PLr: repr of data, minus, reversed, smaller calls. -/
namespace PL
open PySem PySem.Spec PyProof.Rows L2
section
variable {prog : Program} {w : World} {A : Around} {E : Value → Shared → Prop} {s : Shared}
theorem adjust_rev (n : Nat) : Builtin.Slice.sliceAdjust none none (-1) (n : Int) = ((n : Int) - 1, -1) := by
  unfold Builtin.Slice.sliceAdjust
  simp
theorem places_rev (n : Nat) : Builtin.Slice.slicePlaces ((n : Int) - 1) (-1) (-1) = n := by
  unfold Builtin.Slice.slicePlaces
  have h1 : ¬ ((-1 : Int) > 0) := by omega
  simp only [h1, if_false]
  split <;> simp <;> omega
theorem applied_rev {sl : Addr} {n : Nat} {u : Tok} {Q : Int × Int × Nat → Shared → Prop} (hs : s.heap.IsSliceOf sl .none .none (.int (-1) u)) (h : Q ((n : Int) - 1, -1, n) s) :
    wpAny (model prog w) A (Builtin.Slice.sliceApplied (.ref sl) (pure (n : Int))) Q E s := by
  obtain ⟨os, hos, hcs, hds⟩ := id hs
  unfold Builtin.Slice.sliceApplied Builtin.Slice.sliceFields
  refine wpAny_bind (wpAny_bind (wpAny_field hos hds (x := .none) rfl (wpAny_bind (wpAny_field hos hds (x := .none) rfl (wpAny_bind (wpAny_field hos hds (x := .int (-1) u) rfl (wpAny_pure ?_)))))))
  refine wpAny_bind (slicePart_int ?_)
  show wpAny _ _ (if ((-1 : Int) == 0) = true then _ else _) _ _ s
  rw [if_neg (by decide)]
  refine wpAny_bind (slicePart_none (wpAny_bind (slicePart_none (wpAny_bind (wpAny_pure ?_)))))
  show wpAny _ _ (match Builtin.Slice.sliceAdjust none none (-1) (n : Int) with | (lo, hi) => pure (lo, (-1 : Int), Builtin.Slice.slicePlaces lo hi (-1))) _ _ s
  rw [adjust_rev n]
  show wpAny _ _ (pure ((n : Int) - 1, (-1 : Int), Builtin.Slice.slicePlaces ((n : Int) - 1) (-1) (-1))) _ _ s
  rw [places_rev n]
  exact wpAny_pure h
theorem pick_rev (xs : Array Value) : ((List.range xs.size).filterMap fun (k : Nat) => xs[(((xs.size : Int) - 1) + (k : Int) * (-1)).toNat]?).toArray = xs.toList.reverse.toArray := by
  have e : (List.range xs.size).filterMap (fun (k : Nat) => xs[(((xs.size : Int) - 1) + (k : Int) * (-1)).toNat]?) = ((List.range xs.size).map fun k => xs.size - 1 - k).filterMap (xs[·]?) := by
    rw [List.filterMap_map]
    congr 1
    funext k
    have : (((xs.size : Int) - 1) + (k : Int) * (-1)).toNat = xs.size - 1 - k := by omega
    rw [this]
    rfl
  rw [e, PySem.W.krv_range, List.filterMap_reverse, PySem.W.krv_all]
theorem getItem_tuple_rev {t sl : Addr} {items : Array Value} {u : Tok} {Q : Value → Shared → Prop} (ht : IsTup s.heap t items) (hs : s.heap.IsSliceOf sl .none .none (.int (-1) u)) (hsz : items.size ≤ sizeLine)
    (h : Q (.ref s.heap.objs.size) { s with heap := s.heap.push { cls := .type "tuple", data := .seq items.toList.reverse.toArray } }) : wpAny (model prog w) A (getItem (.ref t) (.ref sl)) Q E s := by
  have hrev : sizeOk (.seq items.toList.reverse.toArray) := by
    show items.toList.reverse.toArray.size ≤ sizeLine
    rw [List.size_toArray, List.length_reverse, Array.length_toList]
    exact hsz
  obtain ⟨os, hos, hcs, hds⟩ := id hs
  have hTs : s.TypeIs (.ref sl) "slice" := ⟨os, hos, hcs⟩
  unfold getItem
  try with_reducible refine wpAny_holding ?_
  first | refine wpAny_bind (wpAny_pure ?_) | skip
  refine wpAny_bind (wpAny_sequenceKey ht.typeIs (by decide) ?_)
  refine wpAny_bind (wpAny_callSpecial?_slot (name := Str.ofString "__getitem__") ht.typeIs slot_tuple_getitem (wpAny_call_entry slot_tuple_getitem ht.typeIs entry_tuple_getitem ?_ (args_tuple_getitem _ _)))
  show wpAny _ _ (Builtin.Tuple.tupleItemsOf (.ref t) >>= _) _ _ s
  refine wpAny_bind (tupleItemsOf_ ht (wpAny_bind (wpAny_typeOf hTs ?_)))
  rw [if_pos (by decide)]
  refine wpAny_bind (applied_rev hs ?_)
  have hno : ¬ ((((items.size : Int) - 1) == 0 && (-1 : Int) == 1 && items.size == items.size) = true) := by simp
  show wpAny _ _ (if (((items.size : Int) - 1) == 0 && (-1 : Int) == 1 && items.size == items.size) = true then _ else _) _ _ s
  rw [if_neg hno, pick_rev items]
  first
    | exact wpAny_bind (m := Builtin.Tuple.tupleExact _) (wpAny_newObj_type (wpAny_pure ⟨_, rfl, wpAny_pure h⟩) hrev)
    | exact wpAny_bind (m := Builtin.Tuple.tupleExact _) (wpAny_newObj_type (wpAny_bind (wpAny_pure (wpAny_pure ⟨_, rfl, wpAny_pure h⟩))) hrev)
    | exact wpAny_bind (wpAny_bind (m := Builtin.Tuple.tupleExact _) (wpAny_newObj_type (wpAny_pure (wpAny_pure ⟨_, rfl, wpAny_pure h⟩)) hrev))
    | exact wpAny_bind (wpAny_bind (m := Builtin.Tuple.tupleExact _) (wpAny_newObj_type (wpAny_pure ⟨_, rfl, wpAny_pure h⟩) hrev))
end
section
variable {W : Type} {X : Cx} {G : Gm W} {E : XK} {ρ : Rho} {w w' : W} {σ : L2.St} {H F : Hp} {e : Expr} {fa : Rho → M W T} {pos : Pos}
def negT (t : T) : Option T := match t with
  | .int i => some (.int (-i))
  | _ => none
theorem pv_neg (ha : PV X G E e fa) : PV X G E (.UnaryOp .USub e pos) (f1 negT fa) := ⟨(pe_un un_neg ha.run).imp fun σ H Q => by
  rintro ⟨ρ, w, F, q, w', S, hf, acc⟩
  refine tV.bind (X := X) S hf acc.er fun t w1 x H1 F1 S1 s1 r1 hk => ?_
  obtain ⟨z, hz, rfl, rfl⟩ := lift_inv hk
  unfold negT at hz
  split at hz
  · cases hz
    exact ⟨_, r1.int_inv, acc _ H1 F1 S1 s1 (.int _)⟩
  · cases hz⟩
/-! ### reversed -/
theorem pe_revT {te : TE} {k : Nat} {p1 p2 p3 : Pos} (he : PE X e te) : PE X (.Subscript e (.Slice none none (some (.UnaryOp .USub (.Constant (.int 1) k p1) p2)) p3) pos)
    (fun σ H Q => te σ H fun x H1 => ∃ a xs, x = .ref a ∧ SqT X.K H1 a xs ∧ ∀ p, H1 p = none → Q (.ref p) (upd H1 p (.tup xs.reverse))) := by
  refine ⟨fun pins s σ H Q I h => ?_⟩
  refine Subscript_ (thn (he.run pins s σ H _ I h) fun v s1 ⟨x, H1, I1, r1, a, xs, ex, hx, q⟩ => ?_)
  subst ex
  cases r1
  have hst : PO X (some (.UnaryOp .USub (.Constant (.int 1) k p1) p2)) (tPart (tUn (rU fun i => .int (-i)) (tC (.int 1)))) := po_some (pe_un un_neg pe_int)
  refine wpAny_Slice (thn (po_none.run pins s1 σ H1 (fun o H2 => o = none ∧ H2 = H1) I1 ⟨rfl, rfl⟩) fun vl s2 ⟨l, H2, I2, pl, el, e2⟩ => ?_)
  subst el e2
  refine thn (po_none.run pins s2 σ H2 (fun o H3 => o = none ∧ H3 = H2) I2 ⟨rfl, rfl⟩) fun vu s3 ⟨u, H3, I3, pu, eu, e3⟩ => ?_
  subst eu e3
  refine thn (hst.run pins s3 σ H3 (fun o H4 => o = some (-1) ∧ H4 = H3) I3 ⟨1, rfl, -1, rfl, rfl, rfl⟩) fun vs s4 ⟨o, H4, I4, ps, eo, e4⟩ => ?_
  subst eo e4
  have I5 : Inv X pins σ H4 { s4 with heap := s4.heap.push { cls := .type "slice", data := .fields #[vl, vu, vs] } } := I4.kept (t' := s4.toks) fun b ob q => Heap.get?_push_of_some _ q
  obtain ⟨its, r, ht, hz⟩ := I5.tuple hx
  obtain rfl : vl = .none := by cases pl; rfl
  obtain rfl : vu = .none := by cases pu; rfl
  obtain ⟨u, rfl⟩ : ∃ u, vs = .int (-1) u := by cases ps; exact ⟨_, rfl⟩
  have hlen := r.length
  show wpAny (model X.prog X.w) X.A (subscriptTail e (.Slice none none (some (.UnaryOp .USub (.Constant (.int 1) k p1) p2)) p3) (.ref a) (.ref s4.heap.objs.size)) (EP X pins σ Q) X.xe { s4 with heap := s4.heap.push { cls := .type "slice", data := .fields #[.none, .none, .int (-1) u] } }
  refine tail_any (ops := [.ref a, .ref s4.heap.objs.size]) ht.typeIs slot_tuple_getitem.lookup ?_ (by with_unfolding_all rfl)
  refine getItem_tuple_rev ht (Heap.IsSliceOf.new _ .none .none (.int (-1) u)) (by rw [List.size_toArray]; omega) ?_
  refine ⟨.ref _, _, I5.laid (t' := s4.toks) (o := .tup xs.reverse) (fun b ob q => Heap.get?_push_of_some _ q) (Nat.le_refl _) ?_, rfl, q _ (I5.hok.fresh (Nat.le_refl _))⟩
  exact ⟨by rw [List.length_reverse]; exact hz, _, r.reverse, ⟨_, Heap.get?_push_size _ rfl, rfl, _, rfl⟩⟩
theorem _root_.L2.PE.or {e : Expr} {t t' : TE} (h : PE X e t) (h' : PE X e t') : PE X e (fun σ H Q => t σ H Q ∨ t' σ H Q) := ⟨fun pins s σ H Q I q => q.elim (h.run pins s σ H Q I) (h'.run pins s σ H Q I)⟩
def revM (t : T) : M W T := match t with
  | .lst ts => ret (.lst ts.reverse)
  | .tup ts => ret (.tup ts.reverse)
  | _ => stuck
def fRev (fa : Rho → M W T) : Rho → M W T := fun ρ => bnd (fa ρ) revM
theorem pv_rev {k : Nat} {p1 p2 p3 : Pos} (ha : PV X G E e fa) : PV X G E (.Subscript e (.Slice none none (some (.UnaryOp .USub (.Constant (.int 1) k p1) p2)) p3) pos) (fRev fa) := ⟨(PE.or (pe_revL ha.run) (pe_revT ha.run)).imp fun σ H Q => by
  rintro ⟨ρ, w, F, r, w', S, hf, acc⟩
  rcases bnd_inv hf with ⟨t, w1, h1, h2⟩ | ⟨e, h1, rfl⟩
  · cases t with
    | lst ts =>
      obtain ⟨rfl, rfl⟩ := ret_inv h2
      refine .inl ⟨ρ, w, F, .ok _, _, S, h1, fun v H1 F1 S1 s1 rv => ?_⟩
      obtain ⟨a, vs, rfl, hF, rs⟩ := rv.lst_inv
      exact ⟨a, vs, rfl, .of (S1.sub _ _ hF), fun p hp => acc _ _ _ (S1.laidF hp) (s1.trans (.laidF S1 hp) S1.dH) (.lst upd_same (rs.reverse.mono (Same.updN (S1.sub.free hp))))⟩
    | tup ts =>
      obtain ⟨rfl, rfl⟩ := ret_inv h2
      refine .inr ⟨ρ, w, F, .ok _, _, S, h1, fun v H1 F1 S1 s1 rv => ?_⟩
      obtain ⟨a, vs, rfl, hF, rs⟩ := rv.tup_inv
      exact ⟨a, vs, rfl, Same.seqT S1.sub hF, fun p hp => acc _ _ _ (S1.laidF hp) (s1.trans (.laidF S1 hp) S1.dH) (.tup (.of upd_same) (rs.reverse.mono (Same.updN (S1.sub.free hp))))⟩
    | _ => cases h2
  · exact .inl ⟨ρ, w, F, .er e, w', S, h1, acc⟩⟩
/-! ### min of two ints -/
def min2T (t u : T) : Option T := match t, u with
  | .int i, .int j => some (.int (if j < i then j else i))
  | _, _ => none
def f2b (g : T → T → Option T) (fa fb : Rho → M W T) : Rho → M W T := f2 g fa fb
theorem pv_min2 {b : Expr} {fb : Rho → M W T} {p : Pos} (hc : X.calm = true) (hg : Gl X "min") (hm : X.mg "min" = none) (ha : PV X G E e fa) (hb : PV X G E b fb) (he : starEach [e, b] X.env = (false, eval e X.env) :: starEach [b] X.env := by rfl)
    (he2 : starEach [b] X.env = (false, eval b X.env) :: starEach [] X.env := by rfl) (hpl : (backTo pos (starEach [b] X.env)).any (·.1) = false := by rfl) : PV X G E (.Call (.Name "min" p) [e, b] [] pos) (f2 min2T fa fb) :=
  ⟨(pe_callB (call_min2 hc) hg hm boot_min (pa_cons ha.run (pa_cons hb.run pa_nil he2) he) (by decide) (by decide) he hpl).imp fun σ H Q => by
    rintro ⟨ρ, w, F, q, w', S, hf, acc⟩
    refine tV.bind (X := X) S hf acc.er fun t w1 x H1 F1 S1 s1 r1 hk => ?_
    refine tV.bind (X := X) S1 hk (acc.mono s1 S1.dH).er fun u w2 y H2 F2 S2 s2 r2 hk2 => ?_
    obtain ⟨z, hz, rfl, rfl⟩ := lift_inv hk2
    unfold min2T at hz
    split at hz
    · cases hz
      exact ⟨_, _, by rw [r1.int_inv, r2.int_inv], acc _ H2 F2 S2 (s1.trans s2 S1.dH) (.int _)⟩
    · cases hz⟩
/-! ### {} -/
theorem pv_dct0 : PV X G E (.Dict [] [] pos) (fC (.dct [] [])) := ⟨pe_dnewK.imp fun σ H Q => by
  rintro ⟨ρ, w, F, r, w', S, hf, acc⟩
  obtain ⟨rfl, rfl⟩ := ret_inv hf
  intro p hp
  exact acc (.ref p) _ _ (S.laidF hp) (.laidF S hp) (.dct (vs := []) (.inl upd_same) rfl .nil)⟩
/-! ### repr -/
mutual
theorem dataT_noDict : ∀ (t : T) (d : PyData), dataT t = some d → d.hasDict = false
  | .non, _, h => by cases h; rfl
  | .bl b, _, h => by cases h; rfl
  | .int i, _, h => by cases h; rfl
  | .str x, _, h => by cases h; rfl
  | .tup ts, d, h => by
    simp only [dataT, Option.map_eq_some_iff] at h
    obtain ⟨ds, h1, rfl⟩ := h
    exact dataTs_noDict ts ds h1
  | .lst ts, d, h => by
    simp only [dataT, Option.map_eq_some_iff] at h
    obtain ⟨ds, h1, rfl⟩ := h
    exact dataTs_noDict ts ds h1
  | .dct _ _, _, h => by cases h
  | .ins _ _ _, _, h => by cases h
  | .raw _, _, h => by cases h
theorem dataTs_noDict : ∀ (ts : List T) (ds : List PyData), dataTs ts = some ds → PyData.hasDictAll ds = false
  | [], _, h => by cases h; rfl
  | t :: ts, ds, h => by
    simp only [dataTs, Option.bind_eq_some_iff, Option.map_eq_some_iff] at h
    obtain ⟨d, h1, es, h2, rfl⟩ := h
    simp [PyData.hasDictAll, dataT_noDict t d h1, dataTs_noDict ts es h2]
end
def shownT (t : T) : Option T := (dataT t).bind fun d => if d.showable = true ∧ d.shown.length ≤ sizeLine ∧ d.depth ≤ 150 then some (.str d.shown) else none
def reprT (t : T) : Option T := match t with
  | .bl b => some (.str (if b then "True" else "False"))
  | .non => some (.str "None")
  | .int i => if i.natAbs.log2 < 1920 then some (.str (toString i)) else none
  | .str x => if (reprText x).length ≤ sizeLine then some (.str (reprText x)) else none
  | t => shownT t
def rRepr (K : PySem.W.Frag) : List V → Hp → VK → Prop := fun xs H Q => ∃ x, xs = [x] ∧ ((∃ b, x = .bl b ∧ Q (.str (if b then "True" else "False")) H) ∨ (x = .non ∧ Q (.str "None") H) ∨ (∃ i, x = .int i ∧ i.natAbs.log2 < 1920 ∧ Q (.str (toString i)) H) ∨
  (∃ y, x = .str y ∧ (reprText y).length ≤ sizeLine ∧ Q (.str (reprText y)) H) ∨ ∃ a d, x = .ref a ∧ Dp K H x d ∧ d.showable = true ∧ d.hasDict = false ∧ d.shown.length ≤ sizeLine ∧ d.depth ≤ 150 ∧ Q (.str d.shown) H)
theorem call_reprA (hgd : X.A.guards = some []) (hu : X.A.units + 200 < cLine) : CallR X (.builtin "repr") (rRepr X.K) := by
  intro pins s σ H xs us Q I r h
  obtain ⟨x, rfl, h⟩ := h
  obtain ⟨u, rfl, ru⟩ := vals1 r
  rcases h with ⟨b, rfl, q⟩ | ⟨rfl, q⟩ | ⟨i, rfl, hi, q⟩ | ⟨y, rfl, hz, q⟩ | ⟨a, d, rfl, hd, hs, hn, hz, hdp, q⟩
  · cases ru
    exact P.repr_of_bool ⟨.str _, H, I.tok _, ⟨_, rfl⟩, q⟩
  · cases ru
    exact P.repr_of_none ⟨.str _, H, I.tok _, ⟨_, rfl⟩, q⟩
  · obtain ⟨t, rfl⟩ := ru
    exact P.repr_of_int hi ⟨.str _, H, I.tok _, ⟨_, rfl⟩, q⟩
  · obtain ⟨t, rfl⟩ := ru
    exact P.repr_of_str ⟨.str _, H, I.tok _, ⟨_, rfl⟩, q⟩ hz
  · cases ru
    obtain ⟨as, rd⟩ := Dp.reads I d _ _ hd rfl
    exact repr_of_reads' rd hs (fun z => by rw [hn] at z; cases z) hgd (by omega) (fun _ _ e => e) (fun h' u tk hk => ⟨.str d.shown, H, I.kept hk, ⟨_, rfl⟩, q⟩) hz
theorem reprG : CallG X G (rRepr X.K) reprT := by
  intro ρ w σ H F x t z Q S hx hz k
  have big : ∀ {a : Addr}, x = .ref a → shownT t = some z → rRepr X.K [x] H Q := fun {a} e hz => by
    simp only [shownT, Option.bind_eq_some_iff] at hz
    obtain ⟨d, h1, h2⟩ := hz
    split at h2
    · rename_i hh
      cases h2
      exact ⟨x, rfl, .inr (.inr (.inr (.inr ⟨a, d, e, hx.dp S h1, hh.1, dataT_noDict _ _ h1, hh.2.1, hh.2.2, k _ H F S .refl (.str _)⟩)))⟩
    · cases h2
  cases t with
  | bl b => cases hz; exact ⟨x, rfl, .inl ⟨b, hx.bl, k _ H F S .refl (.str _)⟩⟩
  | non => cases hz; exact ⟨x, rfl, .inr (.inl ⟨hx.non, k _ H F S .refl (.str _)⟩)⟩
  | int i =>
    unfold reprT at hz
    simp only at hz
    split at hz
    · cases hz; exact ⟨x, rfl, .inr (.inr (.inl ⟨i, hx.int, ‹_›, k _ H F S .refl (.str _)⟩))⟩
    · cases hz
  | str y =>
    unfold reprT at hz
    simp only at hz
    split at hz
    · cases hz; exact ⟨x, rfl, .inr (.inr (.inr (.inl ⟨y, hx.str, ‹_›, k _ H F S .refl (.str _)⟩)))⟩
    · cases hz
  | lst ts => obtain ⟨a, vs, e, _⟩ := hx.lst S; exact big e hz
  | tup ts => obtain ⟨a, vs, e, _⟩ := hx.tup S; exact big e hz
  | dct ks ts => cases hz
  | ins _ _ _ => cases hz
  | raw _ => cases hz
end
end PL

/-! PLt: a dict looked for in a list of texts. -/
namespace PL
open PySem PySem.Spec PyProof.Rows PySem.SeqAt L2
section
variable {A : Around} {s : Shared}
def IsDict (s : Shared) (l : Addr) : Prop := ∃ o es ep, s.heap.get? l = some o ∧ o.cls = .type "dict" ∧ o.data = .dict es ep
theorem IsDict.ty {l : Addr} (h : IsDict s l) : s.TypeIs (.ref l) "dict" := let ⟨o, _, _, h1, h2, _⟩ := h; ⟨o, h1, h2⟩
theorem str_eq_dict (b : Str) (u : Tok) (l : Addr) : Meets (Builtin.«str.__eq__» ⟨[.str b u, .ref l], []⟩) (fun _ R s => IsDict s l ∧ R (.ok (.ret .notImplemented)) s) :=
  .of_wp fun prog w A R s h => by
    obtain ⟨hp, g, d, tk, os⟩ := s
    obtain ⟨⟨o, es, ep, hl, hc, hd⟩, h⟩ := h
    obtain ⟨c, dd, da, sl⟩ := o
    simp only at hc hd
    subst hc hd
    have f1 := PySem.F.sub_dict_str
    wp_walk using wpAny_loadPart' hl, wpAny_load hl
    exact ⟨_, rfl, h⟩
theorem dict_eq_str (b : Str) (u : Tok) (l : Addr) : Meets (Builtin.«dict.__eq__» ⟨[.ref l, .str b u], []⟩) (fun _ R s => IsDict s l ∧ R (.ok (.ret .notImplemented)) s) :=
  .of_wp fun prog w A R s h => by
    obtain ⟨hI, h⟩ := h
    have hT : s.TypeIs (.ref l) "dict" := hI.ty
    show wpAny _ _ (Builtin.Dict.dictSlotArgs "__eq__" ⟨[.ref l, .str b u], []⟩ >>= _) _ _ s
    refine wpAny_bind ?_
    unfold Builtin.Dict.dictSlotArgs
    refine wpAny_bind (wpAny_notOrdered_dict hT ?_)
    show wpAny _ _ (pure (Value.ref l, Value.str b u)) _ _ s
    refine wpAny_pure ?_
    refine wpAny_bind (wpAny_isInstance (T := "str") (typeIs_str s b u) PySem.F.sub_str_dict ?_)
    simp only [Bool.not_false, if_true]
    wp_walk
    exact ⟨_, rfl, h⟩
theorem RcAt.str_dict {l : Addr} (b : Str) (u : Tok) (hl : IsDict s l) (hu : A.units < cLine) : RcAt A s (.str b u) (.ref l) false := fun prog w E Q h => by
  exact rc_eq_decline_or (k := false) (typeIs_str s b u) hl.ty (by decide) PySem.F.sub_dict_str PySem.F.slot_str_eq PySem.F.slot_dict_eq_refl
    (fun _ hq => call_meets PySem.F.slot_str_eq (typeIs_str s b u) PySem.F.entry_str_eq (PySem.F.args_str_eq_2 _ _) (str_eq_dict b u l) ⟨hl, hq⟩)
    (fun _ hq => call_meets PySem.F.slot_dict_eq_refl hl.ty PySem.F.entry_dict_eq (PySem.F.args_dict_eq_2 _ _) (dict_eq_str b u l) ⟨hl, hq⟩)
    (fun _ hq => wpAny_of_eq (rfl : isSame (.str b u) (.ref l) = pure false) hq) (.inr hu) h
theorem EqAt.str_dict {l : Addr} (b : Str) (u : Tok) (hl : IsDict s l) (hu : A.units < cLine) : EqAt A s (.str b u) (.ref l) false := fun prog w E Q h => by
  unfold eqBool
  refine wpAny_holding ?_
  refine wpAny_ite_split (fun hab => absurd (eq_of_beq hab) nofun) (fun _ => ?_)
  exact wpAny_bind (RcAt.str_dict b u hl hu prog w E _ (wpAny_truthy_bool h))
end
section
variable {W : Type} {X : Cx} {G : Gm W} {E : XK} {ρ : Rho} {w w' : W} {σ : L2.St} {H F : Hp} {a b : Expr} {fa fb : Rho → M W T} {pos : Pos}
def rInD (K : PySem.W.Frag) (neg : Bool) : R2 := fun x y H Q => ∃ d kvs p xs, x = .ref d ∧ Rd H d (.dK kvs) ∧ y = .ref p ∧ SqL K H p (List.map V.str xs) ∧ Q (.bl neg) H
theorem items_dict {pins : List (Addr × Obj)} {s : Shared} {d : Addr} {kvs : List (Key × V)} {xs : List Str} {its : List Value} (I : Inv X pins σ H s) (hd : Rd H d (.dK kvs)) (r : Vals (xs.map V.str) its) (hu : X.A.units + 200 < cLine) :
    ∀ y, y ∈ its.toArray → EqAt X.A.in1 s y (.ref d) ((fun _ => false) y) := by
  intro y hy
  have hy' : y ∈ its := by simpa using hy
  obtain ⟨j, hj⟩ := List.mem_iff_getElem?.mp hy'
  have hjl : j < xs.length := by
    have := (List.getElem?_eq_some_iff.mp hj).1
    have e := r.length
    rw [List.length_map] at e
    omega
  obtain ⟨u, hu', rv⟩ := r.get (i := j) (x := .str xs[j]) (by simp [hjl])
  rw [hj] at hu'
  cases hu'
  obtain ⟨t, rfl⟩ := rv
  obtain ⟨_, _, vs, _, o, es, ep, h1, h2, h3, _⟩ := (show ObjOk X.prog X.w H s.heap d (.dK kvs) from hd.ok I.hok)
  exact EqAt.str_dict _ _ ⟨o, es, ep, h1, h2.1, h3⟩ (by show X.A.units + 1 < cLine; omega)
theorem op_inD' (hu : X.A.units + 200 < cLine) : OpR X (compareOp .In) (rInD X.K false) := by
  intro pins s σ H x y v u Q I rx ry h
  obtain ⟨d, kvs, p, xs, rfl, hd, rfl, hq, q⟩ := h
  cases rx
  cases ry
  obtain ⟨its, r, pl, _⟩ := I.list hq
  exact in_listAt _ pl.isList (items_dict I hd r hu) ⟨.bl false, H, I, by simp [L2.RelV], q⟩
theorem op_notInD' (hu : X.A.units + 200 < cLine) : OpR X (compareOp .NotIn) (rInD X.K true) := by
  intro pins s σ H x y v u Q I rx ry h
  obtain ⟨d, kvs, p, xs, rfl, hd, rfl, hq, q⟩ := h
  cases rx
  cases ry
  obtain ⟨its, r, pl, _⟩ := I.list hq
  exact notIn_listAt _ pl.isList (items_dict I hd r hu) ⟨.bl true, H, I, by simp [L2.RelV], q⟩
/-- in, not in; a dict is in no list of texts -/
def inT2 (neg : Bool) (t u : T) : Option T := match t with
  | .dct _ _ => (lstOf u).bind fun us => (strsT us).map fun _ => .bl neg
  | _ => inT neg t u
theorem inG2 {neg : Bool} : OpG X G (fun x y H Q => rInA X.K neg x y H Q ∨ rInD X.K neg x y H Q) (inT2 neg) := by
  intro ρ w σ H F x y t u z Q S hx hy hz k
  have old : ∀ {t : T}, ShR X.K ρ σ F x t → inT neg t u = some z → rInA X.K neg x y H Q := fun hx hz => inG (X := X) (G := G) ρ w σ H F x y _ u z Q S hx hy hz k
  cases t with
  | dct ks ts =>
    simp only [inT2, Option.bind_eq_some_iff, Option.map_eq_some_iff] at hz
    obtain ⟨us, h1, xs, h2, rfl⟩ := hz
    cases u with
    | lst us' =>
      cases h1
      obtain ⟨d, vs, rfl, hd, _⟩ := hx.dct S
      obtain ⟨p, vs', rfl, hp, rs⟩ := hy.lst S
      have := rs.strs h2
      subst this
      exact .inr ⟨d, _, p, xs, rfl, hd, rfl, .of hp, k _ H F S .refl (.bl _)⟩
    | _ => cases h1
  | non => exact .inl (old hx hz)
  | bl _ => exact .inl (old hx hz)
  | int _ => exact .inl (old hx hz)
  | str _ => exact .inl (old hx hz)
  | tup _ => exact .inl (old hx hz)
  | lst _ => exact .inl (old hx hz)
  | ins _ _ _ => exact .inl (old hx hz)
  | raw _ => exact .inl (old hx hz)
theorem pv_in2 (hu : X.A.units + 200 < cLine) (ha : PVs X G E a fa) (hb : PVs X G E b fb) (hm : behindInMarks .In b = false := by rfl) : PV X G E (.Compare a [.In] [b] pos) (f2 (inT2 false) fa fb) := pv_cmp (OpR.or (OpR.or op_in_str (op_inP hu)) (op_inD' hu)) inG2 ha hb hm
theorem pv_notIn2 (hu : X.A.units + 200 < cLine) (ha : PVs X G E a fa) (hb : PVs X G E b fb) (hm : behindInMarks .NotIn b = false := by rfl) : PV X G E (.Compare a [.NotIn] [b] pos) (f2 (inT2 true) fa fb) := pv_cmp (OpR.or (OpR.or op_notin_str (op_notInP hu)) (op_notInD' hu)) inG2 ha hb hm
theorem pb_in2 (hu : X.A.units + 200 < cLine) (ha : PVs X G E a fa) (hb : PVs X G E b fb) (hm : behindInMarks .In b = false := by rfl) : PB X G E (.Compare a [.In] [b] pos) (fB (f2 (inT2 false) fa fb)) := pb_cmp (OpR.or (OpR.or op_in_str (op_inP hu)) (op_inD' hu)) inG2 ha hb hm
theorem pb_notIn2 (hu : X.A.units + 200 < cLine) (ha : PVs X G E a fa) (hb : PVs X G E b fb) (hm : behindInMarks .NotIn b = false := by rfl) : PB X G E (.Compare a [.NotIn] [b] pos) (fB (f2 (inT2 true) fa fb)) := pb_cmp (OpR.or (OpR.or op_notin_str (op_notInP hu)) (op_notInD' hu)) inG2 ha hb hm
end
end PL

/-! PLu: a, b = x, y through a tuple; a comprehension over a dict's keys, stored at once. -/
namespace PL
open PySem PySem.Spec PyProof.Rows L2
section
variable {W : Type} {X : Cx} {G : Gm W} {E : XK} {ρ : Rho} {w w' : W} {σ : L2.St} {H F : Hp} {fx fy : Rho → M W Sl}
theorem pd_parU (i j : Nat) {x y : Str} {a b : Expr} {px py pt pos : Pos} {kt k2 pt2} (ha : PX X G E a fx) (hb : PX X G E b fy) (hc : X.calm = true) (hN : X.N.Nodup) (hi : X.N[i]? = some x) (hj : X.N[j]? = some y) (hij : i ≠ j)
    (hx : Loc X.env.scope x) (hy : Loc X.env.scope y)
    (hw : swappedStores [.Tuple [.Name x px, .Name y py] kt pt] (.Tuple [a, b] k2 pt2) X.env = pure none := by rfl)
    (hs : swapsWithSole [.Tuple [.Name x px, .Name y py] kt pt] (.Tuple [a, b] k2 pt2) pos.line X.env = pure false := by rfl)
    (hfx : X.fn x = true ∨ X.env.scope.names.lookup x = some .local := by first | exact .inl rfl | exact .inr rfl | assumption) (hfy : X.fn y = true ∨ X.env.scope.names.lookup y = some .local := by first | exact .inl rfl | exact .inr rfl | assumption)
    (hn : (assignEach [.Name x px, .Name y py] X.env).length = 2 := by rfl) (hst : (assignEach [.Name x px, .Name y py] X.env).findIdx? (·.1) = none := by rfl)
    (hs1 : (assignEach [.Name x px, .Name y py] X.env).map (·.2) = assign (.Name x px) X.env :: (assignEach [.Name y py] X.env).map (·.2) := by rfl) (hs2 : (assignEach [.Name y py] X.env).map (·.2) = assign (.Name y py) X.env :: (assignEach [] X.env).map (·.2) := by rfl)
    (h1' : (assignEach [.Tuple [.Name x px, .Name y py] kt pt] X.env).map (·.2) = [assign (.Tuple [.Name x px, .Name y py] kt pt) X.env] := by rfl)
    (h1 : starEach [a, b] X.env = (false, eval a X.env) :: starEach [b] X.env := by rfl) (h2 : starEach [b] X.env = (false, eval b X.env) :: starEach [] X.env := by rfl) :
    PD X G E (.Assign [.Tuple [.Name x px, .Name y py] kt pt] (.Tuple [a, b] k2 pt2) pos) (dPar i j fx fy) :=
  ⟨(ps_asg (pe_tup (pa_cons ha.run (pa_cons hb.run pa_nil h2) h1)) (pg_tup hc (pgs_cons (pg_name hN hi hx hfx) (pgs_cons (pg_name hN hj hy hfy) pgs_nil hs2) hs1) hn hst) hs hw h1').imp fun D σ H => by
    rintro ⟨ρ, w, F, r, w', S, hf, acc⟩
    refine tX.bind (X := X) S hf acc.er fun s w1 v H1 F1 S1 s1 n1 r1 hk => ?_
    refine tX.bind (X := X) S1 hk (AccD.mono (X := X) acc s1.same).er fun t w2 u H2 F2 S2 s2 n2 r2 hk2 => ?_
    obtain ⟨rfl, rfl⟩ := ret_inv hk2
    refine ⟨by show 2 ≤ sizeLine; rw [sizeLine_eq]; omega, fun p hp => ?_⟩
    refine ⟨p, [v, u], rfl, .of upd_same, rfl, v, [u], rfl, u, [], rfl, rfl, ?_⟩
    have S3 := S2.laid (o := .tup [v, u]) hp
    have g3 : Gr G H2 F2 (upd H2 p (.tup [v, u])) F2 := .laid hp
    have r1' := (r1.later S1 s2).later S2 g3
    have r2' := r2.later S2 g3
    refine acc _ _ F2 ?_ (s1.same.trans s2.same)
    refine (S3.set r1' i).set (Rdy.behind S3 r2' fun q ht hso hu hv => ?_) j
    exact r1.there hso hv (n2 q ht hu)⟩
section
variable {elt tg : Expr} {ifs : List Expr} {scope : Scope} {own : List (Str × Nat)} {x y : Str} {px py pos spos : Pos} {is : List Nat} {h : T → Rho → Option Rho} {gt : Rho → M W Bool} {ge : Rho → M W T}
/-- y = [e for k in d if ..] on one line, frozen -/
theorem pd_setLcKF (i j : Nat) (hc : X.calm = true) (hN : X.N.Nodup) (hj : X.N[j]? = some y) (hyl : X.env.scope.names.lookup y = some .local) (hsw : swapsWith (.ListComp elt [⟨tg, .Name x px, ifs, 0⟩] scope pos) (some (.Name y py)) spos.line X.env = pure true)
    (hi : X.N[i]? = some x) (hvis : Vis X.env.scope x) (ok : BlkOk X.N X.env.scope scope own) (B : ∀ G : Gm W, Blk X G scope tg ifs elt is h gt ge) (his : ∀ i ∈ is, i ∈ own.map (·.2)) (hd : (x == ("__debug__" : Str)) = false := by decide) (hcd : (x == ("__classdict__" : Str)) = false := by decide)
    (hs : ∀ z, foldedSetIterable (.Name x px) X.env z = pure z := by intro _; rfl) : PD X G E (.Assign [.Name y py] (.ListComp elt [⟨tg, .Name x px, ifs, 0⟩] scope pos) spos) (dSet j (xFz (asL (fLc (fKeys i) (own.map (·.2)) h gt ge)))) := by
  have P : ∀ G : Gm W, PS X (.Assign [.Name y py] (.ListComp elt [⟨tg, .Name x px, ifs, 0⟩] scope pos) spos) (tAsg (tLc (iKeys (tVar i)) (tG X.K G is h) (tT X.K G E0 gt) (tV X.K G E0 ge) (own.map (·.2))) (gName j)) := fun G =>
    ps_setLc hc hN hj hyl hsw (pi_keys (pe_var hi hvis hd hcd)) ok (fun s H C cl fp => ((B G).tg s H C cl fp).run) (B G).ts (fun s H C cl fp => ((B G).el s H C cl fp).run) hs
  refine ⟨⟨fun pins s σ H D I q => ?_⟩⟩
  obtain ⟨ρ, w, F, r, w', S, hf, acc⟩ := q
  have hin : ∃ us, fLc (fKeys i) (own.map (·.2)) h gt ge ρ w = some (.ok us, w') ∧ r = .ok (.nx (ρ.set j (.fz (.lst us)))) := by
    rcases bnd_inv hf with ⟨sl, w1, h1, h2⟩ | ⟨e, h1, _⟩
    · obtain ⟨rfl, rfl⟩ := ret_inv h2
      rcases bnd_inv h1 with ⟨t, w2, h3, h4⟩ | ⟨e, h3, z⟩
      · obtain ⟨e4, rfl⟩ := ret_inv h4
        cases e4
        rcases bnd_inv h3 with ⟨us, w5, h5, h6⟩ | ⟨e, h5, z⟩
        · obtain ⟨e6, rfl⟩ := ret_inv h6
          cases e6
          exact ⟨us, h5, rfl⟩
        · cases z
      · cases z
    · exfalso
      rcases bnd_inv h1 with ⟨t, w2, h3, h4⟩ | ⟨e', h3, z⟩
      · obtain ⟨e4, _⟩ := ret_inv h4
        cases e4
      · rcases bnd_inv h3 with ⟨us, w5, h5, h6⟩ | ⟨e', h5, _⟩
        · obtain ⟨e6, _⟩ := ret_inv h6
          cases e6
        · rcases bnd_inv h5 with ⟨ts, w1, h1, h2⟩ | ⟨e, h1, _⟩
          · split at h2
            · obtain ⟨_, z⟩ := compD_ok h2
              cases z
            · cases h2
          · obtain ⟨_, _, _, z, _⟩ := fKeys_inv h1
            cases z
  obtain ⟨us, hf2, rfl⟩ := hin
  have hsl : ∃ ks ts, ρ[i]? = some (.fz (.dct ks ts)) := by
    rcases bnd_inv hf2 with ⟨ts, w1, h1, h2⟩ | ⟨e, h1, z⟩
    · obtain ⟨ks, ts, e, _⟩ := fKeys_inv h1
      exact ⟨ks, ts, e⟩
    · cases z
  obtain ⟨ks, ts, hsl⟩ := hsl
  obtain ⟨v, hv, rv⟩ := S.slots i _ hsl
  cases rv with
  | @dct a _ vs _ hr hl rs =>
    rcases hr with hr | ⟨o, hr⟩
    · obtain ⟨o, I1⟩ := I.lock (S.sub _ _ hr) trivial
      have S1 := S.lock (o := o) hr
      refine thn ((P (lockG G a (.frz o (.dK (ks.zip vs))))).run pins s σ _ ⟨fun σ' H' => H' a = some (.frz o (.dK (ks.zip vs))) ∧ D.nx σ' (upd H' a (.dK (ks.zip vs))), fun _ _ => False, fun _ _ => False, fun _ _ => False⟩ I1 (keys_core (E := E) his hv upd_same ⟨ρ, w, _, .ok us, w', S1, hf2, fun p vs' H' F' S' g h0 h1 h2 h3 h4 h5 => ?_⟩)) fun f s1 q => ?_
      · have hF' : F' a = some (.frz o (.dK (ks.zip vs))) := g.same _ _ upd_same
        have npa : p ≠ a := fun z => by subst z; rw [upd_same] at h0; cases h0
        have h3n : G.B p = none := by
          have h3' : chg G.B a _ p = none := h3
          rw [chg_ne npa] at h3'; exact h3'
        have S2 := S.unlock hr S' hF'
        have S3 := (S2.freeze (p := p) (o := .lst vs') (by rw [upd_ne npa]; exact h1) (by rw [upd_ne npa]; exact h2) h3n h4).setF (v := .ref p) (t := .lst us) (.lst upd_same ((h5.unlock hF').mono (Same.updN (by rw [upd_ne npa]; exact h2)))) j
        refine ⟨S'.sub _ _ hF', acc _ _ _ S3 fun b u e => ?_⟩
        have : b ≠ p := fun z => by
          subst z
          have := S.sub _ _ e
          rw [upd_ne npa] at h0
          rw [h0] at this; cases this
        rw [upd_ne this]
        by_cases z : b = a
        · subst z; rw [hr] at e; cases e; exact upd_same
        · rw [upd_ne z]; exact g.same b u (by rw [upd_ne z]; exact e)
      · cases f with
        | next =>
          obtain ⟨σ', H', I2, e2, q⟩ := q
          exact ⟨σ', _, I2.unlock e2 (I.nofrz (S.sub _ _ hr) trivial), q⟩
        | brk => obtain ⟨_, _, _, q⟩ := q; exact q.elim
        | cont => obtain ⟨_, _, _, q⟩ := q; exact q.elim
        | ret v => obtain ⟨_, _, _, _, _, q⟩ := q; exact q.elim
    · refine (P G).run pins s σ H D I (keys_core (E := E) his hv (S.sub _ _ hr) ⟨ρ, w, F, .ok us, w', S, hf2, fun p vs' H' F' S' g h0 h1 h2 h3 h4 h5 => ?_⟩)
      exact acc _ _ _ ((S'.freeze h1 h2 h3 h4).setF (v := .ref p) (t := .lst us) (.lst upd_same (h5.mono (Same.updN h2))) j) (g.same.trans (Same.updN h2))
end
end
end PL

/-! PLw: the dict of draws, read and written. -/
namespace PL
open PySem PySem.Spec PyProof.Rows L2
section
variable {X : Cx} {G : Gm Dr} {E : XK} {ρ : Rho} {w w' : Dr} {σ : L2.St} {H F : Hp}
theorem ne_cl : ¬ ((.inr "cells" : Key) = .inr "large") := by decide +kernel
theorem ne_lc : ¬ ((.inr "large" : Key) = .inr "cells") := by decide +kernel
theorem ne_lr : ¬ ((.inr "large" : Key) = .inr "rest") := by decide +kernel
theorem ne_cr : ¬ ((.inr "cells" : Key) = .inr "rest") := by decide +kernel
theorem ne_tr : ¬ ((.inr "turn" : Key) = .inr "rest") := by decide +kernel
theorem ne_lt : ¬ ((.inr "large" : Key) = .inr "turn") := by decide +kernel
theorem ne_ct : ¬ ((.inr "cells" : Key) = .inr "turn") := by decide +kernel
theorem ne_rt : ¬ ((.inr "rest" : Key) = .inr "turn") := by decide +kernel
theorem get_large (l c : Addr) (w : Dr) : valV (w.dict l c) (.inr "large") = some (.ref l) := valV_pos rfl
theorem get_cells (l c : Addr) (w : Dr) : valV (w.dict l c) (.inr "cells") = some (.ref c) := (valV_neg ne_lc).trans (valV_pos rfl)
theorem get_rest (l c : Addr) (w : Dr) : valV (w.dict l c) (.inr "rest") = some (.int w.rest) := (valV_neg ne_lr).trans ((valV_neg ne_cr).trans (valV_pos rfl))
theorem get_turn (l c : Addr) (w : Dr) : valV (w.dict l c) (.inr "turn") = some (.int w.turn) := (valV_neg ne_lt).trans ((valV_neg ne_ct).trans ((valV_neg ne_rt).trans (valV_pos rfl)))
theorem put_rest (l c : Addr) (w : Dr) (i : Int) : putK (w.dict l c) (.inr "rest") (.int i) = ({ w with rest := i }).dict l c := by
  unfold putK Dr.dict
  rw [if_pos (by simp)]
  simp [show ¬ (("large" : Str) = "rest") by decide +kernel, show ¬ (("cells" : Str) = "rest") by decide +kernel, show ¬ (("turn" : Str) = "rest") by decide +kernel]
theorem put_turn (l c : Addr) (w : Dr) (i : Int) : putK (w.dict l c) (.inr "turn") (.int i) = ({ w with turn := i }).dict l c := by
  unfold putK Dr.dict
  rw [if_pos (by simp)]
  simp [show ¬ (("large" : Str) = "turn") by decide +kernel, show ¬ (("cells" : Str) = "turn") by decide +kernel, show ¬ (("rest" : Str) = "turn") by decide +kernel]
/-- where the draws stand -/
theorem tabs_upd {T : List (Addr × Str)} {H : Hp} {p : Addr} {o o' : HO} (hp : H p = some o) (n1 : ∀ ps, o ≠ .tbl ps) (n2 : ∀ f, o ≠ .ext f) (ht : LamX.Tabs T H) : LamX.Tabs T (upd H p o') := fun q hq => by
  obtain ⟨ps, e1, e2, e3⟩ := ht q hq
  refine ⟨ps, by rw [upd_ne (fun z => by rw [z, hp] at e1; exact n1 ps (Option.some.inj e1))]; exact e1, e2, fun pos cv hc => ?_⟩
  obtain ⟨c0, e4, e5⟩ := e3 pos cv hc
  exact ⟨c0, e4, by rw [upd_ne (fun z => by rw [z, hp] at e5; exact n2 _ (Option.some.inj e5))]; exact e5⟩
theorem Sd.dr {K : PySem.W.Frag} (S : Sd K G ρ w σ H F) : ∃ l c, (∀ b, (b = w.d ∨ b = l ∨ b = c) → G.O.D b) ∧ (∀ H' w', G.O.ok H' w' → drOk w.d l c H' w') ∧
    (∀ {H' : Hp} {w1 w2 : Dr} {p : Addr} {o o' : HO}, G.O.ok H' w1 → H' p = some o → (∀ ps, o ≠ .tbl ps) → (∀ f, o ≠ .ext f) → drOk w.d l c (upd H' p o') w2 → G.O.ok (upd H' p o') w2) := by
  have ok := S.wok
  obtain ⟨O, B, F0⟩ := G
  obtain ⟨D, ok', live, stay, good⟩ := O
  cases good with
  | dr d l c T =>
    have e : w.d = d := ok.1.1
    subst e
    exact ⟨l, c, fun b h => .inl h, fun _ _ h => h.1, fun h hp n1 n2 k => ⟨k, tabs_upd hp n1 n2 h.2⟩⟩
/-- a thing of the world is written -/
theorem Sd.world {K : PySem.W.Frag} {d : Addr} {o : HO} (S : Sd K G ρ w σ H F) (hd : G.O.D d) (ok : G.O.ok (upd H d o) w') : Sd K G ρ w' σ (upd H d o) F := by
  have hF := S.dF d hd
  refine ⟨fun b u e => by rw [upd_ne (fun z => by subst z; rw [hF] at e; cases e)]; exact S.sub b u e, ok, S.dF, S.dB, fun b u e nd => by rw [upd_ne (fun z => nd (by rw [z]; exact hd))]; exact S.keep b u e nd, S.grow, S.old, fun i s hs => ?_, S.apart, S.len⟩
  have q := S.slots i s hs
  have np : ∀ p, G.B p = none → p ≠ d := fun p hp z => S.dB d hd (z ▸ hp)
  cases s with
  | un => trivial
  | fz t => exact q
  | ow ts => obtain ⟨p, vs, e, h1, h2, h3, r⟩ := q; exact ⟨p, vs, e, by rw [upd_ne (np p h3)]; exact h1, h2, h3, r⟩
  | od ks ts => obtain ⟨p, vs, e, h1, hl, h2, h3, r⟩ := q; exact ⟨p, vs, e, by rw [upd_ne (np p h3)]; exact h1, hl, h2, h3, r⟩
theorem Gr.world {d : Addr} {o : HO} (hd : G.O.D d) : Gr G H F (L2.upd H d o) F := ⟨Same.refl F, fun b u e nd => by rw [upd_ne (fun z => nd (by rw [z]; exact hd))]; exact e, fun _ _ => rfl⟩
/-- the state of draws, in the i-th slot -/
def onW {β : Type} (i : Nat) (ρ : Rho) (k : M Dr β) : M Dr β := fun w => match ρ[i]? with
  | some (.fz (.raw (.ref a))) => if a = w.d then k w else none
  | _ => none
theorem onW_inv {β : Type} {i : Nat} {k : M Dr β} {r : R β} (h : onW i ρ k w = some (r, w')) : ρ[i]? = some (.fz (.raw (.ref w.d))) ∧ k w = some (r, w') := by
  unfold onW at h
  split at h
  · rename_i a e
    split at h
    · rename_i q
      subst q
      exact ⟨e, h⟩
    · cases h
  · cases h
theorem Sd.raw {K : PySem.W.Frag} {i : Nat} {v : V} (S : Sd K G ρ w σ H F) (h : ρ[i]? = some (.fz (.raw v))) : σ[i]? = some (some v) := by
  obtain ⟨v', e, r⟩ := S.slots i _ h
  cases r
  exact e
section
variable {e : Expr} {fa : Rho → M Dr T} {x : Str} {px pos pos' : Pos}
def fRest (i : Nat) : Rho → M Dr T := fun ρ => onW i ρ fun w => some (.ok (.int w.rest), w)
def fTurn (i : Nat) : Rho → M Dr T := fun ρ => onW i ρ fun w => some (.ok (.int w.turn), w)
theorem pv_rest (i : Nat) (hu : X.A.units + 1 < cLine) (hx : PE X (.Name x px) (tVar i)) {j p2} : PV X G E (.Subscript (.Name x px) (.Constant (.str "rest") j p2) pos) (fRest i) := ⟨(pe_dget hu hx pe_str (fun _ _ => rfl)).imp fun σ H Q => by
  rintro ⟨ρ, w, F, r, w', S, hf, acc⟩
  obtain ⟨hi, hf⟩ := onW_inv hf
  cases hf
  obtain ⟨l, c, hD, hok, hput⟩ := S.dr
  obtain ⟨_, _, _, _, h1, _⟩ := (hok H w S.wok)
  exact ⟨_, S.raw hi, w.d, .int w.rest, rfl, .inl ⟨_, .inr "rest", .inl h1, rfl, (get_rest l c w).symm⟩, acc _ H F S .refl (.int _)⟩⟩
theorem pv_turn (i : Nat) (hu : X.A.units + 1 < cLine) (hx : PE X (.Name x px) (tVar i)) {j p2} : PV X G E (.Subscript (.Name x px) (.Constant (.str "turn") j p2) pos) (fTurn i) := ⟨(pe_dget hu hx pe_str (fun _ _ => rfl)).imp fun σ H Q => by
  rintro ⟨ρ, w, F, r, w', S, hf, acc⟩
  obtain ⟨hi, hf⟩ := onW_inv hf
  cases hf
  obtain ⟨l, c, hD, hok, hput⟩ := S.dr
  obtain ⟨_, _, _, _, h1, _⟩ := (hok H w S.wok)
  exact ⟨_, S.raw hi, w.d, .int w.turn, rfl, .inl ⟨_, .inr "turn", .inl h1, rfl, (get_turn l c w).symm⟩, acc _ H F S .refl (.int _)⟩⟩
/-- state['rest'] = e -/
def dRest (i : Nat) (fa : Rho → M Dr T) : Rho → M Dr Fl := fun ρ => bnd (fa ρ) fun t => bnd (intM t) fun n => onW i ρ fun w => some (.ok (.nx ρ), { w with rest := n })
def dTurn (i : Nat) (fa : Rho → M Dr T) : Rho → M Dr Fl := fun ρ => bnd (fa ρ) fun t => bnd (intM t) fun n => onW i ρ fun w => some (.ok (.nx ρ), { w with turn := n })
theorem four : (4 : Nat) < sizeLine := by rw [sizeLine_eq]; omega
theorem pd_rest (i : Nat) (hu : X.A.units + 1 < cLine) (hx : PE X (.Name x px) (tVar i)) (ha : PV X G E e fa) {j p2} (hs : swapsWith e (some (.Subscript (.Name x px) (.Constant (.str "rest") j p2) pos')) pos.line X.env = pure false := by rfl) :
    PD X G E (.Assign [.Subscript (.Name x px) (.Constant (.str "rest") j p2) pos'] e pos) (dRest i fa) := ⟨(ps_dput hu hx pe_str ha.run hs).imp fun D σ H => by
  rintro ⟨ρ, w, F, r, w', S, hf, acc⟩
  refine tV.bind (X := X) S hf acc.er fun t w1 y H1 F1 S1 s1 r1 hk => ?_
  obtain ⟨n, rfl, hk2⟩ := intM_bnd hk
  obtain ⟨hi, hk3⟩ := onW_inv hk2
  cases hk3
  obtain ⟨l, c, hD, hok, hput⟩ := S1.dr
  obtain ⟨a0, a1, a2, a3, h1, h2, h3, h4⟩ := (hok H1 w1 S1.wok)
  obtain rfl := r1.int_inv
  refine ⟨_, S1.raw hi, w1.d, _, rfl, .inl ⟨_, .inr "rest", h1, rfl, four, rfl⟩, ?_⟩
  rw [put_rest]
  have hd : G.O.D w1.d := (hD _) (.inl rfl)
  refine acc _ _ F1 (S1.world hd (hput S1.wok h1 (fun _ z => by cases z) (fun _ z => by cases z) ⟨rfl, a1, a2, a3, upd_same, by rw [upd_ne (Ne.symm a1)]; exact h2, by rw [upd_ne (Ne.symm a2)]; exact h3, h4⟩)) s1.same⟩
theorem pd_turn (i : Nat) (hu : X.A.units + 1 < cLine) (hx : PE X (.Name x px) (tVar i)) (ha : PV X G E e fa) {j p2} (hs : swapsWith e (some (.Subscript (.Name x px) (.Constant (.str "turn") j p2) pos')) pos.line X.env = pure false := by rfl) :
    PD X G E (.Assign [.Subscript (.Name x px) (.Constant (.str "turn") j p2) pos'] e pos) (dTurn i fa) := ⟨(ps_dput hu hx pe_str ha.run hs).imp fun D σ H => by
  rintro ⟨ρ, w, F, r, w', S, hf, acc⟩
  refine tV.bind (X := X) S hf acc.er fun t w1 y H1 F1 S1 s1 r1 hk => ?_
  obtain ⟨n, rfl, hk2⟩ := intM_bnd hk
  obtain ⟨hi, hk3⟩ := onW_inv hk2
  cases hk3
  obtain ⟨l, c, hD, hok, hput⟩ := S1.dr
  obtain ⟨a0, a1, a2, a3, h1, h2, h3, h4⟩ := (hok H1 w1 S1.wok)
  obtain rfl := r1.int_inv
  refine ⟨_, S1.raw hi, w1.d, _, rfl, .inl ⟨_, .inr "turn", h1, rfl, four, rfl⟩, ?_⟩
  rw [put_turn]
  have hd : G.O.D w1.d := (hD _) (.inl rfl)
  refine acc _ _ F1 (S1.world hd (hput S1.wok h1 (fun _ z => by cases z) (fun _ z => by cases z) ⟨rfl, a1, a2, a3, upd_same, by rw [upd_ne (Ne.symm a1)]; exact h2, by rw [upd_ne (Ne.symm a2)]; exact h3, h4⟩)) s1.same⟩
/-! ### the two lists -/
theorem dpInts {K : PySem.W.Frag} : ∀ ns : List Int, DpAll K H (ns.map V.int) (ns.map PyData.int)
  | [] => .nil
  | n :: ns => .cons (.int n) (dpInts ns)
theorem plainInts : ∀ ns : List Int, PyData.plainAll (ns.map PyData.int) = true
  | [] => rfl
  | n :: ns => by simp [PyData.plainAll, PyData.plain, plainInts ns]
theorem eqvNil : ∀ ns : List Int, PyData.eqv (.list (ns.map PyData.int)) (.list []) = ns.isEmpty
  | [] => by simp [PyData.eqv, PyData.eqvAll]
  | n :: ns => by simp [PyData.eqv, PyData.eqvAll]
def fNe (sel : Dr → List Int) (i : Nat) : Rho → M Dr T := fun ρ => onW i ρ fun w => some (.ok (.bl (!(sel w).isEmpty)), w)
theorem tWne {k : Str} {sel : Dr → List Int} {a : Addr → Addr → Addr} (i : Nat) (hsel : ∀ l c w, valV (Dr.dict l c w) (.inr k) = some (.ref (a l c))) (hat : ∀ d l c H w, drOk d l c H w → H (a l c) = some (.lst ((sel w).map V.int))) :
    ∀ σ H Q, tV X.K G E (fNe sel i) σ H Q → tOp (rEqP X.K true) (tDGet (tVar i) (tC (.str k))) (tLst tNil) σ H Q := fun σ H Q => by
  rintro ⟨ρ, w, F, r, w', S, hf, acc⟩
  obtain ⟨hi, hf⟩ := onW_inv hf
  cases hf
  obtain ⟨l, c, hD, hok, hput⟩ := S.dr
  have ok := (hok H w S.wok)
  obtain ⟨_, _, _, _, h1, _⟩ := id ok
  have hl := hat _ _ _ _ _ ok
  refine ⟨_, S.raw hi, w.d, .ref (a l c), rfl, .inl ⟨_, .inr k, .inl h1, rfl, (hsel l c w).symm⟩, by show 0 ≤ sizeLine; omega, fun p hp => ?_⟩
  have S2 := S.laid (o := .lst []) hp
  have ne : a l c ≠ p := ne_of_none hl hp
  refine ⟨.list ((sel w).map PyData.int), .list [], .lst (.of (by rw [upd_ne ne]; exact hl)) (dpInts _), .lst (.of upd_same) .nil, plainInts _, rfl, ?_, ?_⟩
  · have : (PyData.list []).depth ≤ 150 := by simp [PyData.depth, PyData.depthAll]
    omega
  · rw [eqvNil]
    exact acc _ _ F S2 (.laid hp) (.bl _)
theorem pv_wne {k : Str} {sel : Dr → List Int} {a : Addr → Addr → Addr} (i : Nat) (hsel : ∀ l c w, valV (Dr.dict l c w) (.inr k) = some (.ref (a l c))) (hat : ∀ d l c H w, drOk d l c H w → H (a l c) = some (.lst ((sel w).map V.int))) (hu : X.A.units + 200 < cLine) (hx : PE X (.Name x px) (tVar i)) {j p2 p3} :
    PV X G E (.Compare (.Subscript (.Name x px) (.Constant (.str k) j p2) pos) [.NotEq] [.List [] p3] pos') (fNe sel i) := ⟨(pe_cmpR (op_neP hu) (pe_dget (by omega) hx pe_str (fun _ _ => rfl)) (pe_lst pa_nil) (nomark _)).imp (tWne i hsel hat)⟩
theorem pv_wlarge (i : Nat) (hu : X.A.units + 200 < cLine) (hx : PE X (.Name x px) (tVar i)) {j p2 p3} : PV X G E (.Compare (.Subscript (.Name x px) (.Constant (.str "large") j p2) pos) [.NotEq] [.List [] p3] pos') (fNe Dr.large i) :=
  pv_wne (a := fun l _ => l) i get_large (fun _ _ _ _ _ ⟨_, _, _, _, _, h, _⟩ => h) hu hx
theorem pv_wcells (i : Nat) (hu : X.A.units + 200 < cLine) (hx : PE X (.Name x px) (tVar i)) {j p2 p3} : PV X G E (.Compare (.Subscript (.Name x px) (.Constant (.str "cells") j p2) pos) [.NotEq] [.List [] p3] pos') (fNe Dr.cells i) :=
  pv_wne (a := fun _ c => c) i get_cells (fun _ _ _ _ _ ⟨_, _, _, _, _, _, h, _⟩ => h) hu hx
/-- len(state['cells']) -/
def fLenC (i : Nat) : Rho → M Dr T := fun ρ => onW i ρ fun w => some (.ok (.int (w.cells.length : Nat)), w)
theorem pv_lenC (i : Nat) (hu : X.A.units + 1 < cLine) (hx : PE X (.Name x px) (tVar i)) (hg : Gl X "len") (hm : X.mg "len" = none) {j p2 p3 p4}
    (he : starEach [.Subscript (.Name x px) (.Constant (.str "cells") j p2) p3] X.env = (false, eval (.Subscript (.Name x px) (.Constant (.str "cells") j p2) p3) X.env) :: starEach [] X.env := by rfl) (hpl : (backTo pos (starEach [] X.env)).any (·.1) = false := by rfl) :
    PV X G E (.Call (.Name "len" p4) [.Subscript (.Name x px) (.Constant (.str "cells") j p2) p3] [] pos) (fLenC i) := ⟨(pe_callB call_len hg hm PySem.boot_len (pa_cons (pe_dget hu hx pe_str (fun _ _ => rfl)) pa_nil he) (by decide) (by decide) he hpl).imp fun σ H Q => by
  rintro ⟨ρ, w, F, r, w', S, hf, acc⟩
  obtain ⟨hi, hf⟩ := onW_inv hf
  cases hf
  obtain ⟨l, c, hD, hok, hput⟩ := S.dr
  obtain ⟨_, _, _, _, h1, h2, h3, _⟩ := (hok H w S.wok)
  refine ⟨_, S.raw hi, w.d, .ref c, rfl, .inl ⟨_, .inr "cells", .inl h1, rfl, (get_cells l c w).symm⟩, _, (w.cells.map V.int).length, rfl, .inl ⟨_, .of h3, rfl⟩, ?_⟩
  rw [List.length_map]
  exact acc _ H F S .refl (.int _)⟩
/-- state['cells'][e] -/
def fCell (i : Nat) (fa : Rho → M Dr T) : Rho → M Dr T := fun ρ => onW i ρ (bnd (fa ρ) fun t => bnd (intM t) fun n => onW i ρ fun w => if 0 ≤ n then match w.cells[n.toNat]? with
  | some x => some (.ok (.int x), w)
  | none => none else none)
theorem pv_cell (i : Nat) (hu : X.A.units + 1 < cLine) (hx : PE X (.Name x px) (tVar i)) (ha : PV X G E e fa) {j p2 p3} (hs : PlainIx e := by intro _ _; rfl) : PV X G E (.Subscript (.Subscript (.Name x px) (.Constant (.str "cells") j p2) p3) e pos) (fCell i fa) :=
  ⟨(pe_ix ix_list (pe_dget hu hx pe_str (fun _ _ => rfl)) ha.run hs).imp fun σ H Q => by
    rintro ⟨ρ, w, F, r, w', S, hf, acc⟩
    obtain ⟨hi, hf⟩ := onW_inv hf
    obtain ⟨l, c, hD, hok, hput⟩ := S.dr
    obtain ⟨_, _, _, _, h1, h2, h3, _⟩ := (hok H w S.wok)
    refine ⟨_, S.raw hi, w.d, .ref c, rfl, .inl ⟨_, .inr "cells", .inl h1, rfl, (get_cells l c w).symm⟩, ?_⟩
    refine tV.bind (X := X) S hf acc.er fun t w1 y H1 F1 S1 s1 r1 hk => ?_
    obtain ⟨n, rfl, hk2⟩ := intM_bnd hk
    obtain ⟨hi1, hk3⟩ := onW_inv hk2
    obtain rfl := r1.int_inv
    split at hk3
    · rename_i hn
      split at hk3
      · rename_i z hz
        cases hk3
        obtain ⟨_, _, _, _, _, _, c3, _⟩ := (hok H1 _ S1.wok)
        refine ⟨c, _, n, .int z, rfl, rfl, .of c3, ?_, acc _ H1 F1 S1 s1 (.int _)⟩
        have hlt : n < ((w'.cells.map V.int).length : Int) := by
          have := (List.getElem?_eq_some_iff.mp hz).1
          rw [List.length_map]
          omega
        unfold atI ixN
        rw [if_pos hn, if_pos hlt]
        show (w'.cells.map V.int)[n.toNat]? = _
        rw [List.getElem?_map, hz]
        rfl
      · cases hk3
    · cases hk3⟩
/-- state['rest'] = state['large'].pop(0) -/
def dRestPop (i : Nat) : Rho → M Dr Fl := fun ρ => onW i ρ fun w => match w.large with
  | x :: r => some (.ok (.nx ρ), { w with rest := x, large := r })
  | [] => none
theorem pd_restPop (i : Nat) (hu : X.A.units + 1 < cLine) (hx : PE X (.Name x px) (tVar i)) {y : Str} {py : Pos} (hy : PE X (.Name y py) (tVar i)) {j p2 j2 p3 p4 ap cp j3 p5}
    (hpop : ∀ {to te : TE}, PE X (.Subscript (.Name y py) (.Constant (.str "large") j2 p3) p4) to → PE X (.Constant (.int 0) j3 p5) te → PE X (.Call (.Attribute (.Subscript (.Name y py) (.Constant (.str "large") j2 p3) p4) "pop" ap) [.Constant (.int 0) j3 p5] [] cp) (tBM X.K "list" rPopAt to (tCons te tNil)))
    (hs : swapsWith (.Call (.Attribute (.Subscript (.Name y py) (.Constant (.str "large") j2 p3) p4) "pop" ap) [.Constant (.int 0) j3 p5] [] cp) (some (.Subscript (.Name x px) (.Constant (.str "rest") j p2) pos')) pos.line X.env = pure false := by rfl) :
    PD X G E (.Assign [.Subscript (.Name x px) (.Constant (.str "rest") j p2) pos'] (.Call (.Attribute (.Subscript (.Name y py) (.Constant (.str "large") j2 p3) p4) "pop" ap) [.Constant (.int 0) j3 p5] [] cp) pos) (dRestPop i) :=
  ⟨(ps_dput hu hx pe_str (hpop (pe_dget hu hy pe_str (fun _ _ => rfl)) pe_int) hs).imp fun D σ H => by
    rintro ⟨ρ, w, F, r, w', S, hf, acc⟩
    obtain ⟨hi, hf2⟩ := onW_inv hf
    obtain ⟨l, c, hD, hok, hput⟩ := S.dr
    obtain ⟨a0, a1, a2, a3, h1, h2, h3, h4, h5⟩ := (hok H w S.wok)
    cases hL : w.large with
    | nil => rw [hL] at hf2; cases hf2
    | cons z rr =>
      rw [hL] at hf2 h2 h5
      cases hf2
      refine ⟨_, S.raw hi, w.d, .ref l, rfl, .inl ⟨_, .inr "large", .inl h1, rfl, (get_large l c w).symm⟩, (.inl ⟨rfl, _, .of h2⟩), ?_⟩
      have hdl : G.O.D l := (hD _) (.inr (.inl rfl))
      have hdd : G.O.D w.d := (hD _) (.inl rfl)
      refine ⟨l, _, 0, 0, .int z, rfl, rfl, h2, by simp, by simp, by simp [seqIndex?]; try omega, rfl, ?_⟩
      have g1 : upd H l (.lst (rr.map V.int)) w.d = some (.dK (w.dict l c)) := by rw [upd_ne a1]; exact h1
      refine ⟨_, S.raw hi, w.d, _, rfl, .inl ⟨_, .inr "rest", g1, rfl, four, rfl⟩, ?_⟩
      rw [put_rest]
      have ok1 : G.O.ok (upd H l (.lst (rr.map V.int))) { w with large := rr } := hput S.wok h2 (fun _ z => by cases z) (fun _ z => by cases z) ⟨rfl, a1, a2, a3, g1, upd_same, by rw [upd_ne (Ne.symm a3)]; exact h3, h4, by simp at h5; show rr.length ≤ 1000; omega⟩
      have S1 := S.world hdl ok1
      have ok2 : G.O.ok (upd (upd H l (.lst (rr.map V.int))) w.d (.dK (({ w with rest := z } : Dr).dict l c))) { w with rest := z, large := rr } :=
        hput ok1 g1 (fun _ z => by cases z) (fun _ z => by cases z) ⟨rfl, a1, a2, a3, upd_same, by rw [upd_ne (Ne.symm a1)]; exact upd_same, by rw [upd_ne (Ne.symm a2), upd_ne (Ne.symm a3)]; exact h3, h4, by simp at h5; show rr.length ≤ 1000; omega⟩
      exact acc _ _ F (S1.world hdd ok2) (Same.refl F)⟩
end
end
section
variable {X : Cx} {G : Gm Dr} {E : XK} {pos p2 p4 : Pos} {x : Str}
/-- len of the script, the list at a -/
def fScr (i : Nat) (a : Addr) (n : Nat) : Rho → M Dr T := fun ρ w => match ρ[i]? with
  | some (.fz (.raw (.ref b))) => if b = a then some (.ok (.int (n : Nat)), w) else none
  | _ => none
/-- the script at a, which the world leaves alone -/
def ScrOk (K : PySem.W.Frag) (G : Gm Dr) (a : Addr) (vs : List V) : Prop := (Rd G.B a (.lst vs) ∧ ¬ G.O.D a) ∨ SqL K (fun _ => none) a vs
theorem ScrOk.at {K : PySem.W.Frag} {a : Addr} {vs : List V} {ρ : Rho} {w : Dr} {σ : L2.St} {H F : Hp} (h : ScrOk K G a vs) (S : Sd K G ρ w σ H F) : SqL K H a vs := by
  rcases h with ⟨h | ⟨o, h⟩, d⟩ | (h | ⟨o, h⟩) | h
  · exact .inl (.inl (S.keep _ _ h d))
  · exact .inl (.inr ⟨o, S.keep _ _ h d⟩)
  · cases h
  · cases h
  · exact .inr h
theorem pv_scr (i : Nat) {a : Addr} {vs : List V} {n : Nat} (hS : ScrOk X.K G a vs) (hn : vs.length = n) (hx : PE X (.Name x p2) (tVar i)) (hg : Gl X "len") (hm : X.mg "len" = none)
    (he : starEach [.Name x p2] X.env = (false, eval (.Name x p2) X.env) :: starEach [] X.env := by rfl) (hpl : (backTo pos (starEach [] X.env)).any (·.1) = false := by rfl) :
    PV X G E (.Call (.Name "len" p4) [.Name x p2] [] pos) (fScr i a n) := ⟨(pe_callB call_len hg hm PySem.boot_len (pa_cons hx pa_nil he) (by decide) (by decide) he hpl).imp fun σ H Q => by
  rintro ⟨ρ, w, F, r, w', S, hf, acc⟩
  unfold fScr at hf
  split at hf
  · rename_i b hi
    split at hf
    case isFalse => cases hf
    rename_i hb
    subst hb
    cases hf
    exact ⟨_, S.raw hi, .ref _, vs.length, rfl, .inl ⟨vs, hS.at S, rfl⟩, by rw [hn]; exact acc _ H F S .refl (.int _)⟩
  · cases hf⟩
end
section
variable {W : Type} {X : Cx} {G : Gm W} {E : XK} {op : CmpOp} {r : R2} {a b : Expr} {ta tb : TE} {f : Rho → M W T} {pos : Pos}
/-- a comparison as a test -/
theorem pb_ofOp (ho : OpR X (compareOp op) r) (ha : PE X a ta) (hb : PE X b tb) (hm : behindInMarks op b = false) (imp : ∀ σ H Q, tV X.K G E f σ H Q → tOp r ta tb σ H Q) : PB X G E (.Compare a [op] [b] pos) (fB f) :=
  ⟨(pt_cmpR ho ha hb hm).imp fun σ H Q => by
    rintro ⟨ρ, w, F, q, w', S, hf, acc⟩
    refine imp σ H _ (tV.bind (X := X) S hf acc.er fun t w1 x H1 F1 S1 s1 r1 hk => ?_)
    cases t with
    | bl k =>
      obtain ⟨rfl, rfl⟩ := ret_inv hk
      exact ⟨k, r1.bl_inv, acc H1 F1 S1 s1⟩
    | _ => cases hk⟩
end
section
variable {W : Type} {X : Cx} {G : Gm W} {E : XK} {k g : Nat} {Fn : List T → M W T} {C : Addr} {ns : List Str} {a b : Expr} {pos : Pos} {fa fb : Rho → M W T}
theorem pb_eqI (c : ClsF X.K C ns) (D : MethOk X.prog X.w X.K X.mg X.base k g 2 Fn) (m : SpecM X.K C "__eq__" g) (hr : Room k X.A) (hgd : X.A.guards = some []) (ha : PV X G E a fa) (hb : PV X G E b fb) (hm : behindInMarks .Eq b = false := by rfl) : PB X G E (.Compare a [.Eq] [b] pos) (fB (fEqI false C ns Fn fa fb)) := by
  obtain ⟨fd, ps, Fm, hbi⟩ := D.ex
  exact pb_ofOp (op_eqI Fm hr hgd hbi m) ha.run hb.run hm (tEqI c)
theorem pb_neI (c : ClsF X.K C ns) (D : MethOk X.prog X.w X.K X.mg X.base k g 2 Fn) (m : SpecM X.K C "__eq__" g) (hne : PySem.W.findIn X.K (.ref C) "__ne__" = some (some (.builtin "object.__ne__"))) (hr : Room (k + 1) X.A) (hgd : X.A.guards = some []) (ha : PV X G E a fa) (hb : PV X G E b fb) (hm : behindInMarks .NotEq b = false := by rfl) : PB X G E (.Compare a [.NotEq] [b] pos) (fB (fEqI true C ns Fn fa fb)) := by
  obtain ⟨fd, ps, Fm, hbi⟩ := D.ex
  exact pb_ofOp (op_neI (k' := 0) Fm hr hgd hbi m c hne) ha.run hb.run hm (tEqI c)
theorem pb_inI (D : MethOk X.prog X.w X.K X.mg X.base k g 2 Fn) (m : SpecM X.K C "__contains__" g) (hr : Room k X.A) (hgd : X.A.guards = some []) (ha : PV X G E a fa) (hb : PV X G E b fb) (hm : behindInMarks .In b = false := by rfl) : PB X G E (.Compare a [.In] [b] pos) (fB (fInI false C ns Fn fa fb)) := by
  obtain ⟨fd, ps, Fm, hbi⟩ := D.ex
  exact pb_ofOp (op_inI Fm hr hgd hbi m) ha.run hb.run hm tInI
theorem pb_notInI (D : MethOk X.prog X.w X.K X.mg X.base k g 2 Fn) (m : SpecM X.K C "__contains__" g) (hr : Room k X.A) (hgd : X.A.guards = some []) (ha : PV X G E a fa) (hb : PV X G E b fb) (hm : behindInMarks .NotIn b = false := by rfl) : PB X G E (.Compare a [.NotIn] [b] pos) (fB (fInI true C ns Fn fa fb)) := by
  obtain ⟨fd, ps, Fm, hbi⟩ := D.ex
  exact pb_ofOp (op_notInI Fm hr hgd hbi m) ha.run hb.run hm tInI
end
section
variable {X : Cx} {G : Gm Dr} {E : XK} {x : Str} {px pos pos' : Pos}
theorem pb_wne {k : Str} {sel : Dr → List Int} {a : Addr → Addr → Addr} (i : Nat) (hsel : ∀ l c w, valV (Dr.dict l c w) (.inr k) = some (.ref (a l c))) (hat : ∀ d l c H w, drOk d l c H w → H (a l c) = some (.lst ((sel w).map V.int))) (hu : X.A.units + 200 < cLine) (hx : PE X (.Name x px) (tVar i)) {j p2 p3} :
    PB X G E (.Compare (.Subscript (.Name x px) (.Constant (.str k) j p2) pos) [.NotEq] [.List [] p3] pos') (fB (fNe sel i)) := pb_ofOp (op_neP hu) (pe_dget (by omega) hx pe_str (fun _ _ => rfl)) (pe_lst pa_nil) (nomark _) (tWne i hsel hat)
theorem pb_wlarge (i : Nat) (hu : X.A.units + 200 < cLine) (hx : PE X (.Name x px) (tVar i)) {j p2 p3} : PB X G E (.Compare (.Subscript (.Name x px) (.Constant (.str "large") j p2) pos) [.NotEq] [.List [] p3] pos') (fB (fNe Dr.large i)) :=
  pb_wne (a := fun l _ => l) i get_large (fun _ _ _ _ _ ⟨_, _, _, _, _, h, _⟩ => h) hu hx
theorem pb_wcells (i : Nat) (hu : X.A.units + 200 < cLine) (hx : PE X (.Name x px) (tVar i)) {j p2 p3} : PB X G E (.Compare (.Subscript (.Name x px) (.Constant (.str "cells") j p2) pos) [.NotEq] [.List [] p3] pos') (fB (fNe Dr.cells i)) :=
  pb_wne (a := fun _ c => c) i get_cells (fun _ _ _ _ _ ⟨_, _, _, _, _, _, h, _⟩ => h) hu hx
end
end PL

/-! PLx: from the law's promise (FnG) to what the row's head asks. -/
namespace PL
open PySem PySem.Spec PyProof.Rows L2
theorem law_callG {P : Program} {w : World} {K : PySem.W.Frag} {mg mb : Str → Option Value} {CX : CXT} {k : Nat} {fa a : Addr} {fd : FuncData} {x : Str} {sp : Sp} {s1 : Shared} {vs : List Value} {ns : List Int}
    (KX : K.In s1.heap) (hns : s1.heap.Ns mainGlobals mg) (hb : s1.heap.Ns builtinsNs mb) (hbb : ∀ x : Str, x ≠ "__name__" → mb x = bootBuiltins x) (hlim : s1.heap.NoLimit) (hg : s1.gens = #[])
    (ha : s1.heap.get? a = some { cls := .type "list", data := .seq vs.toArray }) (hi : IntsAre vs ns) (hl : ns.length ≤ sizeLine) (hr : Room k callerA)
    (F : ∀ base : Heap, K.In base → base.Ns mainGlobals mg → FnG P w K mg base CX k fa fd [x] sp) (hbind : ∀ (s : Shared) (u : Value), BindsTo s fd ⟨[u], []⟩ [(x, u)])
    (hsp : ∀ H : Hp, Only H → SqL K H a (ns.map V.int) → sp [.ref a] H (fun v _ => v = .bl true) fun _ _ _ => False)
    (hCX : ∀ H e s', CX [] H s1 (fun _ _ _ => False) e s' → False) :
    codeAny (model P w) callerA (.call (.ref fa) ⟨[.ref a], []⟩) (fun r s' => r = .ok (.ret (.bool true)) ∧ OldK s1.heap s'.heap ∧ s'.os = s1.os ∧ AllBare s'.gens) s1 := by
  have rv := vals_ints hi
  have core : ∀ H : Hp, Only H → SqL K H a (ns.map V.int) → HOk P w H s1.heap → (∀ b, H b ≠ none → b = a) → (H a ≠ none → K.lookup a = none) →
      codeAny (model P w) callerA (.call (.ref fa) ⟨[.ref a], []⟩) (fun r s' => r = .ok (.ret (.bool true)) ∧ OldK s1.heap s'.heap ∧ s'.os = s1.os ∧ AllBare s'.gens) s1 := by
    intro H hO hS hok hA hK
    have only : ∀ {b : Addr}, b ≠ a → H b = none := fun {b} ne => by
      cases q : H b with
      | none => rfl
      | some u => exact absurd (hA b (by rw [q]; simp)) ne
    have dictFree : ∀ {b : Addr} {o : Obj} {es : Array DictEntry} {ep : Nat}, s1.heap.get? b = some o → o.data = .dict es ep → H b = none := fun {b o es ep} e d => only fun z => by
      rw [z, ha] at e
      cases e
      have d' : Data.seq vs.toArray _ = Data.dict es ep := d
      cases d'
    have nsK : ∀ {b : Addr} {m : Str → Option Value}, s1.heap.Ns b m → (hidT s1.heap H).Ns b m := fun {b m} ⟨o, es, ep, e, d, r⟩ => ⟨o, es, ep, hidT_get e (dictFree e d), d, r⟩
    have hKb : K.In (hidT s1.heap H) := fun b o e => hidT_get (KX b o e) (by
      by_cases z : b = a
      · cases q : H b with
        | none => rfl
        | some u => rw [z] at q e; rw [hK (by rw [q]; simp)] at e; cases e
      · exact only z)
    have hM : Mod K mg (hidT s1.heap H) := ⟨hKb, nsK hns, ⟨mb, nsK hb, hbb⟩, let ⟨mc, h1, h2⟩ := hlim; ⟨mc, nsK h1, h2⟩⟩
    have e0 : Env0 P w K mg (hidT s1.heap H) callerA [] s1 H := ⟨rfl, hM, fun b o e => of_hidT e, Nat.le_of_eq (hidT_size _ _), trivial, fun b hb => absurd (show b ∈ ([] : List Addr) from hb) (by simp), hok, .of_eq hg⟩
    refine codeAny_mono ((F _ hKb (nsK hns)).run callerA [] s1 H ⟨[.ref a], []⟩ [.ref a] [.ref a] _ _ hr rfl e0 (hbind s1 (.ref a)) (.cons rfl .nil) (hsp H hO hS)) fun r s' h => ?_
    cases r with
    | error e => exact (hCX H e s' h).elim
    | ok fl =>
      cases fl with
      | next => exact False.elim h
      | brk => exact False.elim h
      | cont => exact False.elim h
      | ret u =>
        obtain ⟨v, H', os, bare, un, hok', r', q⟩ := h
        obtain rfl : v = .bl true := q
        obtain rfl : u = Value.bool true := r'
        refine ⟨rfl, OldK.of_keep fun b o e => ?_, os, bare⟩
        rcases hO b with z | ⟨ob, xs, z⟩
        · exact un.keep b o e z (fun z => absurd (show b ∈ ([] : List Addr) from z) (by simp)) (by simp)
        · obtain ⟨e1, _⟩ := hok b _ z
          obtain ⟨e2, _⟩ := hok' b _ (un.frzs b ob _ z)
          rw [e] at e1
          cases e1
          exact e2
  cases hk : K.lookup a with
  | some o =>
    have e := KX a o hk
    rw [ha] at e
    cases e
    exact core (fun _ => none) (fun _ => .inl rfl) (.inr ⟨_, vs.toArray, _, hk, rfl, rfl, rfl, by rw [List.size_toArray, hi.length]; exact hl, by simpa using rv⟩) (fun b u z => nomatch z) (fun b z => absurd rfl z) fun z => absurd rfl z
  | none =>
    let H : Hp := fun b => if b = a then some (.frz { cls := .type "list", data := .seq vs.toArray } (.lst (ns.map V.int))) else none
    have h1 : H a = some (.frz { cls := .type "list", data := .seq vs.toArray } (.lst (ns.map V.int))) := if_pos rfl
    have h2 : ∀ b, b ≠ a → H b = none := fun b hb => if_neg hb
    refine core H (fun b => ?_) (.inl (.inr ⟨_, h1⟩)) (fun b u z => ?_) (fun b z => ?_) fun _ => hk
    · by_cases hb : b = a
      · subst hb; exact .inr ⟨_, _, h1⟩
      · exact .inl (h2 b hb)
    · by_cases hb : b = a
      · subst hb
        rw [h1] at z
        cases z
        exact ⟨ha, by rw [List.length_map]; exact hl, vs, _, rv, ha⟩
      · rw [h2 b hb] at z; cases z
    · by_cases hb : b = a
      · exact hb
      · exact absurd (h2 b hb) z
theorem walk_ofG {l : PySem.W.OpenLaw} {n k : Nat} {q : Program} {loose : List Str} {XP : (Str → Option Value) → Heap → Prop} {YP : World → Heap → Prop} {d : DefRec} {K : Params → PySem.W.Frag} {CX : World → CXT} {sp : World → Sp} {x : Str}
    (hn : l.most = some n) (hn2 : n ≤ sizeLine) (hdf : d.params.defaults = []) (hr : Room k callerA)
    (hY : ∀ (w : World) (h : Heap), YP w h → (K w.params).In h)
    (F : ∀ (w : World) (mg : Str → Option Value) (fa : Addr) (h : Heap), (K w.params).In h → h.Ns mainGlobals mg → mg d.name = some (.ref fa) →
      ∃ fd : FuncData, (∀ (s : Shared) (u : Value), BindsTo s fd ⟨[u], []⟩ [(x, u)]) ∧
        ∀ base : Heap, (K w.params).In base → base.Ns mainGlobals mg → FnG l.prog w (K w.params) mg base (CX w) k fa fd [x] (sp w))
    (hsp : ∀ (w : World) (H : Hp) (a : Addr) (ns : List Int), ns.length ≤ n → Only H → SqL (K w.params) H a (ns.map V.int) → sp w [.ref a] H (fun v _ => v = .bl true) fun _ _ _ => False)
    (hCX : ∀ (w : World) (H : Hp) (s : Shared) (e : Value) (s' : Shared), CX w [] H s (fun _ _ _ => False) e s' → False) :
    PySem.W.WalkO q loose XP YP l.row.toRowW d [] (fun f vs => PySem.call f vs) := by
  refine Att.attach_call hn hdf fun w s₀ s₁ mg mb fa o pm cd doc a vs ns G Y ho hd hcd hmg hobj hints hlen hg => ?_
  have KX := hY w _ Y
  obtain ⟨fd, hb, hF⟩ := F w mg fa _ KX G.T.g hmg
  exact law_callG KX G.T.g G.T.b G.T.builtins G.T.nolimit hg hobj hints (Nat.le_trans hlen hn2) hr hF hb (fun H hO hS => hsp w H a ns hlen hO hS) fun H e s' => hCX w H s₁ e s'
/-- THE RULE for a def: its body's reading is chosen for each entry -/
theorem fn_ofG {P : Program} {w : World} {K : PySem.W.Frag} {mg : Str → Option Value} {base : Heap} {x qual : Str} {st : Stmt} {f : Addr} {fd : FuncData} {N ps : List Str} {k : Nat} {sp : Sp} (Fu : Fun K x qual st f fd) (S : FnScope N ps (defScope st)) (hlen : ∀ vs H Q E, sp vs H Q E → vs.length = ps.length)
    (hbody : ∀ (cdv : Value) (A : Around) (outer : List PySem.Env) (s : Shared) (H : Hp) (vs : List V) (Q : VK) (E : XK), Room k (A.deeper (envOfC qual (defScope st) s.heap.objs.size f cdv)) → (A.deeper (envOfC qual (defScope st) s.heap.objs.size f cdv)).guards = some [] → sp vs H Q E →
      ∃ t, PSs (cxOf (L2.CX P w) P w K mg base N qual (defScope st) f cdv A outer s H E) (defBody st) t ∧ t { nx := fun _ H' => Q .non H', rt := Q } (start N vs) H) :
    FnG P w K mg base (L2.CX P w) (k + 1) f fd ps sp := by
  obtain ⟨oc, od, kV, doc, pm, an, cdv, ct, osl, rfl, lk, hcd⟩ := Fu.ex
  refine ⟨hlen, fun A outer s H args us vs Q E hr hgd e0 hb r hsp => ?_⟩
  have KX : K.In s.heap := e0.mod.kin.keeps fun b o e => (e0.bs b o e).1
  have hkind : ∀ y ∈ ps.zip us, (defScope st).names.lookup y.1 = some .local ∨ ((defScope st).names.lookup y.1 = some .cell ∧ ((cellsFrom (s.heap.objs.size + 1) (defScope st).names []).lookup y.1).isSome = true) := fun ⟨z, v⟩ hy =>
    (S.par z (List.of_mem_zip hy).1).imp id fun q => ⟨q, PySem.W.cellsFrom_some _ _ _ (.inl q)⟩
  refine codeAny_call_function hr.depth (KX _ _ lk) rfl S.co S.gen rfl (PySem.W.codeRec_of KX hcd) (hb _ _ _ _ (wpAny_newFunctionEnv_cells S.kind hkind fun env he s1 e1 => ?_))
  subst he
  obtain ⟨t, ht, hq⟩ := hbody cdv A outer s H vs Q E (hr.deeper _) hgd hsp
  have I : Inv (cxOf (L2.CX P w) P w K mg base N qual (defScope st) f cdv A outer s H E) [] (start N vs) H s1 := inv_start S hr.hd e0 (hlen _ _ _ _ hsp) r e1
  refine ⟨(e0.mod.nolimit.keeps fun b o e => (e0.bs b o e).1).keeps e1.toInCall.keep, codeAny_func (wpAny_mono (ht.run [] s1 (start N vs) H _ I hq) (fun fl s' hs => ?_) fun e s' hs => hs)⟩
  cases fl with
  | ret u =>
    obtain ⟨v, σ', H', J, rv, q⟩ := hs
    exact ⟨v, H', J.os, J.bare, J.base, J.hok, rv, q⟩
  | next =>
    obtain ⟨σ', H', J, q⟩ := hs
    exact ⟨.non, H', J.os, J.bare, J.base, J.hok, rfl, q⟩
  | brk =>
    obtain ⟨_, _, _, q⟩ := hs
    exact q.elim
  | cont =>
    obtain ⟨_, _, _, q⟩ := hs
    exact q.elim
end PL

/-! PLz: what the mirrors compute, in plain Lean. -/
namespace PL
open PySem L2
section
variable {W α β : Type}
theorem bnd_ret' {a : α} {k : α → M W β} {m : M W α} (h : m = ret a) : bnd m k = k a := by rw [h]; rfl
theorem ret_bnd (a : α) (k : α → M W β) : bnd (ret a) k = k a := rfl
theorem lift_some (a : α) : (lift (some a) : M W α) = ret a := rfl
theorem noEr_ret (a : α) : noEr (ret a : M W α) = ret a := rfl
/-- a comprehension whose parts only compute -/
theorem compD_pure {vs : List Nat} {i : Nat} {gt : Rho → M W Bool} {ge : Rho → M W T} {ρ : Rho} (p : T → Bool) (f : T → T) : ∀ ts : List T,
    (∀ t ∈ ts, gt ((wipeR ρ vs).set i (.fz t)) = ret (p t)) → (∀ t ∈ ts, p t = true → ge ((wipeR ρ vs).set i (.fz t)) = ret (f t)) → compD vs (gN i) gt ge ρ ts = ret ((ts.filter p).map f)
  | [], _, _ => rfl
  | t :: ts, h1, h2 => by
    have ih := compD_pure p f ts (fun u hu => h1 u (List.mem_cons_of_mem _ hu)) fun u hu => h2 u (List.mem_cons_of_mem _ hu)
    unfold compD
    show bnd (lift (some ((wipeR ρ vs).set i (.fz t)))) _ = _
    rw [lift_some, ret_bnd, h1 t List.mem_cons_self, noEr_ret, ret_bnd]
    cases hp : p t with
    | true =>
      rw [if_pos rfl, h2 t List.mem_cons_self hp, noEr_ret, ret_bnd, ih, ret_bnd]
      simp [hp]
    | false =>
      rw [if_neg (by simp), ih]
      simp [hp]
theorem fLc_pure {fi : Rho → M W (List T)} {vs : List Nat} {i : Nat} {gt : Rho → M W Bool} {ge : Rho → M W T} {ρ : Rho} {ts : List T} (p : T → Bool) (f : T → T) (hi : fi ρ = ret ts) (hl : ts.length ≤ sizeLine)
    (h1 : ∀ t ∈ ts, gt ((wipeR ρ vs).set i (.fz t)) = ret (p t)) (h2 : ∀ t ∈ ts, p t = true → ge ((wipeR ρ vs).set i (.fz t)) = ret (f t)) : fLc fi vs (gN i) gt ge ρ = ret ((ts.filter p).map f) := by
  unfold fLc
  rw [hi, ret_bnd, if_pos hl, compD_pure p f ts h1 h2]
/-- without a test -/
theorem fLc_map {fi : Rho → M W (List T)} {vs : List Nat} {i : Nat} {ge : Rho → M W T} {ρ : Rho} {ts : List T} (f : T → T) (hi : fi ρ = ret ts) (hl : ts.length ≤ sizeLine) (h2 : ∀ t ∈ ts, ge ((wipeR ρ vs).set i (.fz t)) = ret (f t)) :
    fLc fi vs (gN i) tYesM ge ρ = ret (ts.map f) := by
  rw [fLc_pure (fun _ => true) f hi hl (fun _ _ => rfl) fun t ht _ => h2 t ht]
  rw [List.filter_eq_self.mpr fun _ _ => rfl]
/-- two clauses whose parts only compute -/
theorem comp2D_pure {vs vs1 : List Nat} {i i1 : Nat} {fi1 : Rho → M W (List T)} {ge : Rho → M W T} {ρ : Rho} (g : T → List T) (f : T → T) : ∀ ts : List T,
    (∀ t ∈ ts, fi1 ((wipeR ρ vs).set i (.fz t)) = ret (g t)) → (∀ t ∈ ts, ∀ u ∈ g t, ge ((wipeR ((wipeR ρ vs).set i (.fz t)) vs1).set i1 (.fz u)) = ret (f u)) →
    comp2D vs (gN i) fi1 vs1 (gN i1) tYesM ge ρ ts = ret (ts.flatMap fun t => (g t).map f)
  | [], _, _ => rfl
  | t :: ts, h1, h2 => by
    have ih := comp2D_pure g f ts (fun u hu => h1 u (List.mem_cons_of_mem _ hu)) fun u hu => h2 u (List.mem_cons_of_mem _ hu)
    unfold comp2D
    show bnd (lift (some ((wipeR ρ vs).set i (.fz t)))) _ = _
    rw [lift_some, ret_bnd, h1 t List.mem_cons_self, noEr_ret, ret_bnd]
    have e : compD vs1 (gN i1) tYesM ge ((wipeR ρ vs).set i (.fz t)) (g t) = ret ((g t).map f) := by
      rw [compD_pure (fun _ => true) f (g t) (fun _ _ => rfl) fun u hu _ => h2 t List.mem_cons_self u hu, List.filter_eq_self.mpr fun _ _ => rfl]
    rw [e, ret_bnd, ih, ret_bnd]
    simp
theorem fLc2_pure {fi fi1 : Rho → M W (List T)} {vs vs1 : List Nat} {i i1 : Nat} {ge : Rho → M W T} {ρ : Rho} {ts : List T} (g : T → List T) (f : T → T) (hi : fi ρ = ret ts) (h1 : ∀ t ∈ ts, fi1 ((wipeR ρ vs).set i (.fz t)) = ret (g t))
    (h2 : ∀ t ∈ ts, ∀ u ∈ g t, ge ((wipeR ((wipeR ρ vs).set i (.fz t)) vs1).set i1 (.fz u)) = ret (f u)) (hl : (ts.flatMap fun t => (g t).map f).length ≤ sizeLine) :
    fLc2 fi vs (gN i) fi1 vs1 (gN i1) tYesM ge ρ = ret (ts.flatMap fun t => (g t).map f) := by
  unfold fLc2
  rw [hi, ret_bnd, comp2D_pure g f ts h1 h2, ret_bnd, if_pos hl]
/-- two clauses, over what a list tells -/
theorem comp2D_map {β : Type} {vs vs1 : List Nat} {i i1 : Nat} {fi1 : Rho → M W (List T)} {ge : Rho → M W T} {ρ : Rho} (hh : β → T) (g : β → List T) : ∀ ps : List β,
    (∀ p ∈ ps, fi1 ((wipeR ρ vs).set i (.fz (hh p))) = ret (g p)) → (∀ p ∈ ps, ∀ u ∈ g p, ge ((wipeR ((wipeR ρ vs).set i (.fz (hh p))) vs1).set i1 (.fz u)) = ret u) →
    comp2D vs (gN i) fi1 vs1 (gN i1) tYesM ge ρ (ps.map hh) = ret (ps.flatMap g)
  | [], _, _ => rfl
  | p :: ps, h1, h2 => by
    have ih := comp2D_map hh g ps (fun u hu => h1 u (List.mem_cons_of_mem _ hu)) fun u hu => h2 u (List.mem_cons_of_mem _ hu)
    rw [List.map_cons]
    unfold comp2D
    show bnd (lift (some ((wipeR ρ vs).set i (.fz (hh p))))) _ = _
    rw [lift_some, ret_bnd, h1 p List.mem_cons_self, noEr_ret, ret_bnd]
    have e : compD vs1 (gN i1) tYesM ge ((wipeR ρ vs).set i (.fz (hh p))) (g p) = ret (g p) := by
      rw [compD_pure (fun _ => true) id (g p) (fun _ _ => rfl) fun u hu _ => h2 p List.mem_cons_self u hu, List.filter_eq_self.mpr fun _ _ => rfl, List.map_id]
    rw [e, ret_bnd, ih, ret_bnd]
    simp
theorem fLc2_map {β : Type} {fi fi1 : Rho → M W (List T)} {vs vs1 : List Nat} {i i1 : Nat} {ge : Rho → M W T} {ρ : Rho} {ps : List β} (hh : β → T) (g : β → List T) (hi : fi ρ = ret (ps.map hh)) (h1 : ∀ p ∈ ps, fi1 ((wipeR ρ vs).set i (.fz (hh p))) = ret (g p))
    (h2 : ∀ p ∈ ps, ∀ u ∈ g p, ge ((wipeR ((wipeR ρ vs).set i (.fz (hh p))) vs1).set i1 (.fz u)) = ret u) (hl : (ps.flatMap g).length ≤ sizeLine) : fLc2 fi vs (gN i) fi1 vs1 (gN i1) tYesM ge ρ = ret (ps.flatMap g) := by
  unfold fLc2
  rw [hi, ret_bnd, comp2D_map hh g ps h1 h2, ret_bnd, if_pos hl]
end

/-! ### told forms as trees -/
inductive Tr where
  | leaf (s : Str)
  | join (w : Str) (ps : List Tr)
  | again (a b : Tr)
mutual
def Tr.T : Tr → PL.T
  | .leaf s => .str s
  | .join w ps => .tup [.str w, .tup (Tr.Ts ps)]
  | .again a b => .tup [.str "again", a.T, b.T]
def Tr.Ts : List Tr → List PL.T
  | [] => []
  | t :: ts => t.T :: Tr.Ts ts
end
mutual
def Tr.steps : Tr → List Str
  | .leaf s => [s]
  | .join _ ps => Tr.stepss ps
  | .again a b => a.steps ++ b.steps
def Tr.stepss : List Tr → List Str
  | [] => []
  | t :: ts => t.steps ++ Tr.stepss ts
end
mutual
def Tr.depth : Tr → Nat
  | .leaf _ => 1
  | .join _ ps => Tr.depths ps + 1
  | .again a b => max a.depth b.depth + 1
def Tr.depths : List Tr → Nat
  | [] => 0
  | t :: ts => max t.depth (Tr.depths ts)
end
end PL

set_option maxHeartbeats 4000000
/-! PLy: sorted(xs, key=f), f a def of the module. -/
namespace PL
open PySem PySem.Spec PyProof.Rows L2
section
variable {W : Type}
/-- the keys of some things, one behind another -/
def keysM (Fn : List T → M W T) : List T → M W (List T)
  | [] => ret []
  | t :: ts => bnd (noEr (Fn [t])) fun k => bnd (keysM Fn ts) fun ks => ret (k :: ks)
def sortBy (ts ks : List T) : List T := ((ts.zip ks).mergeSort (PySem.W.dataLe false fun p => dat p.2)).map (·.1)
def sortKs (ts ks : List T) : M W (List T) := match dataTs ks with
  | some ds => if sortableB ds = true ∧ ts.length ≤ sizeLine then ret (sortBy ts ks) else stuck
  | none => stuck
def sortKM (Fn : List T → M W T) (t : T) : M W (List T) := match lstOf t with
  | some ts => bnd (keysM Fn ts) (sortKs ts)
  | none => stuck
def fSortK (Fn : List T → M W T) (fa : Rho → M W T) : Rho → M W (List T) := fun ρ => bnd (fa ρ) (sortKM Fn)
theorem keysM_inv {Fn : List T → M W T} : ∀ {ts : List T} {w w' : W} {r : R (List T)}, keysM Fn ts w = some (r, w') → ∃ (ks : List T) (ws : Nat → W), r = .ok ks ∧ ks.length = ts.length ∧ ws 0 = w ∧ ws ts.length = w' ∧ ∀ (j : Nat) (t k : T), ts[j]? = some t → ks[j]? = some k → Fn [t] (ws j) = some (.ok k, ws (j + 1))
  | [], w, w', r, h => by
    obtain ⟨rfl, rfl⟩ := ret_inv h
    exact ⟨[], fun _ => w', rfl, rfl, rfl, rfl, fun j t k e => by simp at e⟩
  | t :: ts, w, w', r, h => by
    unfold keysM at h
    obtain ⟨k, w1, h1, h2⟩ := noEr_bnd h
    rcases bnd_inv h2 with ⟨ks, w2, h3, h4⟩ | ⟨e, h3, _⟩
    · obtain ⟨rfl, rfl⟩ := ret_inv h4
      obtain ⟨ks', ws, e1, e2, e3, e4, e5⟩ := keysM_inv h3
      cases e1
      refine ⟨k :: ks, fun j => match j with | 0 => w | j + 1 => ws j, rfl, by rw [List.length_cons, List.length_cons, e2], rfl, e4, fun j u l hu hl => ?_⟩
      cases j with
      | zero =>
        cases hu
        cases hl
        show Fn [t] w = some (.ok k, ws 0)
        rw [e3]
        exact h1
      | succ j => exact e5 j u l (by simpa using hu) (by simpa using hl)
    · obtain ⟨_, _, e1, _⟩ := keysM_inv h3
      cases e1
theorem HOk.tracked {P : Program} {w : World} {H : Hp} {h h' : Heap} (x : HOk P w H h) (k : ∀ b u, H b ≠ none → h.get? b = some u → h'.get? b = some u) : HOk P w H h' := fun a o e =>
  (x a o e).stay (fun b u hb => k b u (by rcases hb with rfl | hb <;> simp [*])) (fun _ q => q) fun _ _ q => q
theorem HOk.put {P : Program} {w : World} {H : Hp} {h : Heap} {p : Addr} {o : HO} (x : HOk P w H h) (hn : H p = none) (new : ObjOk P w (upd H p o) h p o) : HOk P w (upd H p o) h := fun b u e => by
  by_cases hb : b = p
  · subst hb
    rw [upd_same] at e
    cases e
    exact new
  · rw [upd_ne hb] at e
    exact (x b u e).stay (fun _ _ _ q => q) (fun c hc => by rw [upd_ne (fun z => by rw [z, hn] at hc; cases hc)]; exact hc) (fun c xs hc => by rw [upd_ne (fun z => by rw [z, hn] at hc; cases hc)]; exact hc)
theorem Un.turned {fs : List Addr} {H H' : Hp} {h h1 h2 : Heap} (u : Un fs [] H H' h h1) (k : ∀ b o o1, h.get? b = some o → h1.get? b = some o1 → h2.get? b = some o1) : Un fs [] H H' h h2 :=
  ⟨fun b o e n hb hx => k b o _ e (u.keep b o e n hb hx), fun b o e n hb hx => let ⟨sl, q⟩ := u.slot b o e n hb hx; ⟨sl, k b o _ e q⟩, u.free, fun b o e hx => let ⟨o1, q⟩ := u.there b o e hx; ⟨o1, k b o _ e q⟩, u.tups, u.frzs, u.tbls⟩
variable {X : Cx} {k : Nat} {f : Addr} {fd : FuncData} {ps : List Str} {Fn : List T → M W T} {O : Wd W}
theorem Out.refl' {H F : Hp} {w : W} (sub : Same F H) (wok : O.ok H w) (dF : ∀ b, O.D b → F b = none) : Out O H F w H F := ⟨sub, Same.refl F, fun _ _ => rfl, fun _ _ e _ => e, wok, dF⟩
theorem Out.trans' {H F H1 F1 H2 F2 : Hp} {w1 w2 : W} (a : Out O H F w1 H1 F1) (b : Out O H1 F1 w2 H2 F2) : Out O H F w2 H2 F2 := by
  refine ⟨b.sub, a.same.trans b.same, fun c hc => ?_, fun c o e nd => b.keep c o (a.keep c o e nd) nd, b.wok, b.dF⟩
  have : H1 c ≠ none := by
    by_cases d : O.D c
    · exact O.live a.wok d
    · cases q : H c with
      | none => exact absurd q hc
      | some o => rw [a.keep c o q d]; simp
  rw [b.nof c this, a.nof c hc]
/-- one key -/
theorem run_key (Fm : FnG X.prog X.w X.K X.mg X.base (L2.CX X.prog X.w) k f fd ps (spF X.K 1 Fn)) (hb : Binds X.K fd ps []) {A : Around} (hr : Room k A) (hgd : A.guards = some []) (hf : A.frames = X.A.frames)
    {pins : List (Addr × Obj)} {s : Shared} {σ : L2.St} {H F : Hp} {u : Value} {v : V} {t z : T} {w w' : W} (I : Inv X pins σ H s) (rv : RelV v u) (sub : Same F H) (wok : O.ok H w) (dF : ∀ b, O.D b → F b = none) (r : Rep X.K F v t) (e : Fn [t] w = some (.ok z, w')) :
    wpAny (model X.prog X.w) A (call (.ref f) [u]) (fun q s' => ∃ y H' F', s'.os = s.os ∧ AllBare s'.gens ∧ Un (frs X.stack) [] H H' s.heap s'.heap ∧ HOk X.prog X.w H' s'.heap ∧ RelV y q ∧ Out O H F w' H' F' ∧ Rep X.K F' y z) (fun _ _ => False) s := by
  have hsp : spF X.K 1 Fn [v] H (fun y H' => ∃ F', Out O H F w' H' F' ∧ Rep X.K F' y z) (fun _ _ _ => False) := ⟨O, F, [t], w, .ok z, w', rfl, sub, wok, dF, .cons r .nil, e, fun y H' F' o q => ⟨F', o, q⟩⟩
  have hl : ([u] : List Value).length = ps.length := Fm.len _ _ _ _ hsp
  have hb' := hb s [u] I.kIn (by simpa using hl)
  rw [List.append_nil] at hb'
  have e0 := I.env0
  refine wpAny_call (codeAny_mono (Fm.run A X.stack s H ⟨[u], []⟩ [u] [v] _ _ hr hgd ⟨by rw [hf]; exact e0.frames, e0.mod, e0.bs, e0.bsz, e0.funs, e0.frf, e0.hok, e0.bare⟩ hb' (.cons rv .nil) hsp) fun q s' hq => ?_)
  cases q with
  | error er =>
    obtain ⟨_, _, _, _, _, _, _, _, _, _, _, _, no⟩ := hq
    exact no.elim
  | ok fl =>
    cases fl with
    | ret q =>
      obtain ⟨y, H', os, bare, un, hok, rr, F', o, re⟩ := hq
      exact ⟨y, H', F', os, bare, un, hok, rr, o, re⟩
    | next => exact False.elim hq
    | brk => exact False.elim hq
    | cont => exact False.elim hq
theorem Un.more {fs : List Addr} {H H' : Hp} {h h1 : Heap} {p : Addr} {o : HO} (u : Un fs [] H H' h h1) (hp : h.get? p = none) (hn : H p = none) : Un fs [] H (upd H' p o) h h1 := by
  have ne : ∀ {b : Addr} {q : Obj}, h.get? b = some q → b ≠ p := fun e z => by rw [z, hp] at e; cases e
  have ne2 : ∀ {b : Addr} {q : HO}, H b = some q → b ≠ p := fun e z => by rw [z, hn] at e; cases e
  exact ⟨u.keep, u.slot, fun b q e n hx => by rw [upd_ne (ne e)]; exact u.free b q e n hx, u.there, fun b xs e => by rw [upd_ne (ne2 e)]; exact u.tups b xs e, fun b q x e => by rw [upd_ne (ne2 e)]; exact u.frzs b q x e,
    fun b ps e => by rw [upd_ne (ne2 e)]; exact u.tbls b ps e⟩
theorem Vals.getU {vs : List V} {us : List Value} {i : Nat} {u : Value} (r : Vals vs us) (e : us[i]? = some u) : ∃ v, vs[i]? = some v ∧ RelV v u := by
  cases q : vs[i]? with
  | none => rw [r.none_of q] at e; cases e
  | some v =>
    obtain ⟨u', e', rv⟩ := r.get q
    rw [e] at e'
    cases e'
    exact ⟨v, rfl, rv⟩
/-- items and keys, as the sort finds them -/
theorem each_pairs {K : PySem.W.Frag} {F : Hp} : ∀ {us : List Value} {ts ks : List T}, ks.length = ts.length → PySem.W.EachIs (fun u t => ∃ v, RelV v u ∧ Rep K F v t) us ts → PySem.W.EachIs (fun u (p : T × T) => ∃ v, RelV v u ∧ Rep K F v p.1) us (ts.zip ks)
  | _, _, _, _, .nil => .nil
  | _, _, [], h, .cons _ _ => by cases h
  | _, _, _ :: _, h, .cons q r => .cons q (each_pairs (by simpa using h) r)
theorem of_pairs {K : PySem.W.Frag} {F : Hp} : ∀ {us : List Value} {ps : List (T × T)}, PySem.W.EachIs (fun u (p : T × T) => ∃ v, RelV v u ∧ Rep K F v p.1) us ps → ∃ vs, Vals vs us ∧ Reps K F vs (ps.map (·.1))
  | _, _, .nil => ⟨[], .nil, .nil⟩
  | _, _, .cons ⟨v, q, h⟩ t => by
    obtain ⟨vs, h1, h2⟩ := of_pairs t
    exact ⟨v :: vs, .cons q h1, .cons h h2⟩
theorem keys_data : ∀ {ts : List T} {ds : List PyData}, dataTs ts = some ds → ∀ t ∈ ts, ∃ d, dataT t = some d
  | [], _, _, _, z => by cases z
  | t :: ts, ds, e, t', ht => by
    simp only [dataTs, Option.bind_eq_some_iff, Option.map_eq_some_iff] at e
    obtain ⟨d, h1, es, h2, rfl⟩ := e
    rcases List.mem_cons.mp ht with rfl | ht
    · exact ⟨d, h1⟩
    · exact keys_data h2 t' ht
theorem keys_reads {pins : List (Addr × Obj)} {s : Shared} {σ : L2.St} {H F : Hp} (I : Inv X pins σ H s) (sub : Same F H) : ∀ {us : List Value} {ys : List V} {ks : List T}, Vals ys us → Reps X.K F ys ks → (∀ t ∈ ks, ∃ d, dataT t = some d) → PySem.W.EachIs (fun v d => ∃ as, Reads s.heap v d as) us (ks.map dat)
  | _, _, _, .nil, .nil, _ => .nil
  | _, _, _, .cons q r, .cons h t, hh => by
    refine .cons ?_ (keys_reads I sub r t fun u hu => hh u (List.mem_cons_of_mem _ hu))
    obtain ⟨d, hd⟩ := hh _ List.mem_cons_self
    rw [show dat _ = d by unfold dat; rw [hd]; rfl]
    exact Dp.reads I d _ _ (Rep.dp sub _ _ _ h hd) q
theorem run_sortK (Fm : FnG X.prog X.w X.K X.mg X.base (L2.CX X.prog X.w) k f fd ps (spF X.K 1 Fn)) (hb : Binds X.K fd ps []) (hr : Room (k + 2) X.A) (hgd : X.A.guards = some [])
    {pins : List (Addr × Obj)} {s : Shared} {σ : L2.St} {H F : Hp} {l : Addr} {vs : List V} {ts us : List T} {w w' : W} {Q : VK} (I : Inv X pins σ H s) (hs : SqL X.K H l vs) (sub : Same F H) (wok : O.ok H w) (dF : ∀ b, O.D b → F b = none) (rs : Reps X.K F vs ts) (e : sortKM Fn (.lst ts) w = some (.ok us, w'))
    (q : ∀ p ys H' F', Out O H F w' H' F' → H p = none → H' p = none → Reps X.K F' ys us → Q (.ref p) (upd H' p (.lst ys))) :
    wpAny (model X.prog X.w) X.A (call (.builtin "sorted") [.ref l] [(Str.ofString "key", .ref f)]) (EP X pins σ Q) X.xe s := by
  obtain ⟨its, rv, pl, hz⟩ := I.list hs
  have hz' : its.length ≤ sizeLine := by rw [← rv.length]; exact hz
  obtain ⟨ks, ws, hkl, hw0, hwn, hstep, hd, hb1, hb2, rfl, rfl⟩ : ∃ (ks : List T) (ws : Nat → W), ks.length = ts.length ∧ ws 0 = w ∧ ws ts.length = w' ∧ (∀ (j : Nat) (t k : T), ts[j]? = some t → ks[j]? = some k → Fn [t] (ws j) = some (.ok k, ws (j + 1))) ∧
      (∃ ds, dataTs ks = some ds) ∧ sortableB (ks.map dat) = true ∧ ts.length ≤ sizeLine ∧ us = sortBy ts ks ∧ w' = ws ts.length := by
    have e1 : bnd (keysM Fn ts) (sortKs ts) w = some (.ok us, w') := e
    rcases bnd_inv e1 with ⟨ks, w1, hk, hq⟩ | ⟨er, _, no⟩
    · obtain ⟨ks', ws, h1, hkl, hw0, hwn, hstep⟩ := keysM_inv hk
      cases h1
      unfold sortKs at hq
      cases hds : dataTs ks with
      | none => rw [hds] at hq; cases hq
      | some ds =>
        rw [hds] at hq
        by_cases hso : sortableB ds = true ∧ ts.length ≤ sizeLine
        · simp only [if_pos hso] at hq
          obtain ⟨h3, h4⟩ := ret_inv hq
          cases h3
          exact ⟨ks, ws, hkl, hw0, by rw [hwn, h4], hstep, ⟨ds, hds⟩, by rw [← dataTs_map hds]; exact hso.1, hso.2, rfl, by rw [hwn, h4]⟩
        · simp only [if_neg hso] at hq
          cases hq
    · cases no
  obtain ⟨ds, hds⟩ := hd
  unfold sortableB at hb1
  simp only [Bool.and_eq_true, List.all_eq_true, decide_eq_true_eq, Bool.or_eq_true] at hb1
  obtain ⟨⟨hal, hk⟩, hdp⟩ := hb1
  have hvl : vs.length = ts.length := rs.length
  have hil : its.length = ts.length := by rw [← rv.length, hvl]
  refine PySem.W.sorted_of_sort pl.isList hz' (ksk_s1 _ _) (fun _ => ksk_l1 _ _) fun E' => ?_
  rw [ksk_t1]
  have ho := PySem.W.copyHeap_at s.heap its
  have hplt : s.heap.objs.size + 1 < (PySem.W.copyHeap s.heap its).objs.size := Heap.lt_size ho
  obtain ⟨n1, ho1⟩ : ∃ n1, ((PySem.W.copyHeap s.heap its).update (s.heap.objs.size + 1) (Obj.mapSeq fun _ => (#[] : Array Value))).get? (s.heap.objs.size + 1) = some (seqObj "list" #[] n1) := ⟨_, get?_update_seq ho fun _ => #[]⟩
  unfold ksk_tree
  (refine wpAny_bind (listItems_at ho rfl ?_)); (refine wpAny_bind (listUpdate_at ho rfl ?_ (by rw [List.size_toArray]; exact hz') (Nat.zero_le _))); (refine wpAny_bind (seqEpoch_at ho1 rfl ?_))
  (refine wpAny_bind (wpAny_newTuple ?_ (by simpa using hz'))); (refine wpAny_bind (wpAny_newList ?_ (Nat.zero_le _))); (refine wpAny_holding ?_)
  generalize hH1 : (((PySem.W.copyHeap s.heap its).update (s.heap.objs.size + 1) (Obj.mapSeq fun _ => (#[] : Array Value))).push { cls := .type "tuple", data := .seq its.toArray.toList.toArray }) = h1
  have hks1 : h1.objs.size = (PySem.W.copyHeap s.heap its).objs.size + 1 := by rw [← hH1, size_push', Heap.size_update]
  have old1 : ∀ b u, s.heap.get? b = some u → (h1.push { cls := .type "list", data := .seq ([] : List Value).toArray }).get? b = some u := fun b u eb => by
    have hlt : b < s.heap.objs.size := Heap.lt_size eb
    rw [← hH1]
    refine Heap.get?_push_of_some _ (Heap.get?_push_of_some _ ?_)
    rw [Heap.get?_update_ne _ _ _ _ (Nat.ne_of_lt (Nat.lt_succ_of_lt hlt))]
    exact PySem.W.copyHeap_old eb
  have ne_old : ∀ {b : Addr} {u : Obj}, s.heap.get? b = some u → b ≠ s.heap.objs.size + 1 ∧ b ≠ h1.objs.size := fun {b u} eb => by
    have hlt : b < s.heap.objs.size := Heap.lt_size eb
    exact ⟨Nat.ne_of_lt (Nat.lt_succ_of_lt hlt), Nat.ne_of_lt (Nat.lt_of_lt_of_le hlt (by omega))⟩
  have nf : ∀ b, s.heap.objs.size ≤ b → b ∉ frs X.stack := fun b hb z => by
    obtain ⟨_, o, eo, _⟩ := I.stack.mem z
    have hlo : b < s.heap.objs.size := Heap.lt_size eo
    exact absurd (Nat.lt_of_lt_of_le hlo hb) (Nat.lt_irrefl _)
  have nfp := nf (s.heap.objs.size + 1) (by omega)
  have nfk := nf h1.objs.size (by omega)
  have hkp : h1.objs.size ≠ s.heap.objs.size + 1 := by omega
  unfold ksk_rest
  refine wpAny_bind (wpAny_rule ?_)
  first
    | rw [List.forIn_toArray] | (rw [← Array.forIn_toList]; simp only [List.toList_toArray])
  let J : Nat → Shared → Prop := fun i s' => ∃ (H' F' : Hp) (kA : Array Value) (n : Nat) (ys : List V), s'.os = s.os ∧ AllBare s'.gens ∧ Un (frs X.stack) [] H H' s.heap s'.heap ∧ HOk X.prog X.w H' s'.heap ∧ Out O H F (ws i) H' F' ∧
    s'.heap.get? h1.objs.size = some (seqObj "list" kA n) ∧ s'.heap.get? (s.heap.objs.size + 1) = some (seqObj "list" #[] n1) ∧ H' h1.objs.size = none ∧ H' (s.heap.objs.size + 1) = none ∧ Vals ys kA.toList ∧ Reps X.K F' ys (ks.take i)
  have J0 : J 0 { s with heap := h1.push { cls := .type "list", data := .seq ([] : List Value).toArray } } :=
    ⟨H, F, #[], 0, [], rfl, I.bare, Un.kept old1, I.hok.kept old1, by rw [hw0]; exact Out.refl' sub wok dF, Heap.get?_push_size _ rfl, by rw [← hH1]; exact Heap.get?_push_of_some _ (Heap.get?_push_of_some _ ho1), I.hok.fresh (by omega), I.hok.fresh (by omega), .nil, .nil⟩
  refine wpAny_bind (ksk_fold J its 0 _ J0 ?step ?done)
  case step =>
    rintro j x s' hx ⟨H', F', kA, n, ys, os, bare, un, hok, out, gk, gp, nk, np, rys, reps⟩
    simp only [Nat.zero_add] at out reps ⊢
    have I' : Inv X pins σ H' s' := I.call' os un hok bare fun b z => absurd z (by simp)
    obtain ⟨v, hv, rvx⟩ := Vals.getU rv hx
    obtain ⟨t, ht, rt⟩ := rs.getV hv
    have hjl : j < ts.length := (List.getElem?_eq_some_iff.mp ht).1
    have hkj : ks[j]? = some ks[j] := List.getElem?_eq_getElem (by omega)
    have hyl : ys.length ≤ ts.length := by
      rw [reps.length, List.length_take]
      omega
    have hkA : kA.size ≤ sizeLine := by
      rw [← Array.length_toList, ← rys.length]
      omega
    refine wpAny_bind (wpAny_attempt (wpAny_mono (run_key Fm hb (A := X.A.in1.in1) hr.in1.in1 hgd rfl I' rvx out.sub out.wok out.dF (rt.mono out.same) (hstep j t _ ht hkj)) (fun qv s2 hq => ?_) fun _ _ no => no.elim))
    obtain ⟨y, H2, F2, os2, bare2, un2, hok2, ry, out2, rep2⟩ := hq
    try dsimp only
    have gk2 := un2.keep _ _ gk nk nfk (by simp)
    have gp2 := un2.keep _ _ gp np nfp (by simp)
    obtain ⟨c2, hc2⟩ : ∃ c2, (s2.heap.update h1.objs.size (Obj.mapSeq (·.push qv))).get? h1.objs.size = some (seqObj "list" (kA.push qv) c2) := ⟨_, get?_update_seq gk2 (·.push qv)⟩
    have same2 : ∀ b, b ≠ h1.objs.size → (s2.heap.update h1.objs.size (Obj.mapSeq (·.push qv))).get? b = s2.heap.get? b := fun b hb => Heap.get?_update_ne _ _ _ _ hb
    have nk2 := un2.free _ _ gk nk (by simp)
    refine wpAny_bind (listUpdate_at gk2 rfl (wpAny_pure ⟨rfl, H2, F2, kA.push qv, c2, ys ++ [y], os2.trans os, bare2, ?_, ?_, out.trans' out2, hc2, ?_, nk2, un2.free _ _ gp np (by simp), ?_, ?_⟩) hkA (by rw [Array.size_push]; omega))
    · exact Un.turned (un.trans un2) fun b o o1 e1 e2 => by rw [same2 b (ne_old e1).2]; exact e2
    · exact HOk.tracked hok2 fun b u hb e1 => by rw [same2 b (fun z => hb (by rw [z]; exact nk2))]; exact e1
    · rw [same2 _ (Ne.symm hkp)]; exact gp2
    · rw [Array.toList_push]; exact rys.append (.cons ry .nil)
    · have : ks.take (j + 1) = ks.take j ++ [ks[j]] := by rw [List.take_add_one, hkj]; rfl
      rw [this]
      exact (reps.mono out2.same).append (.cons rep2 .nil)
  case done =>
    rintro s' ⟨H', F', kA, n, ys, os, bare, un, hok, out, gk, gp, nk, np, rys, reps⟩
    rw [Nat.zero_add, hil] at out reps
    rw [List.take_of_length_le (by omega)] at reps
    have I' : Inv X pins σ H' s' := I.call' os un hok bare fun b z => absurd z (by simp)
    have hreads := keys_reads I' out.sub rys reps (keys_data hds)
    have hkA : kA.size = its.length := by
      rw [← Array.length_toList, ← rys.length, reps.length]
      omega
    try dsimp only
    refine wpAny_bind (listItems_at gk rfl ?_)
    obtain ⟨G, g1, g2⟩ := L2.restrict s'.heap fun b => decide (b ≠ h1.objs.size)
    have gG : ∀ b, b ≠ h1.objs.size → G.get? b = s'.heap.get? b := fun b hb => g1 b (decide_eq_true hb)
    have gN : G.get? h1.objs.size = none := g2 _ (decide_eq_false fun z => z rfl)
    have kpG : PySem.W.KeepsBut (s.heap.objs.size + 1) G s'.heap := fun b o _ e1 => by
      by_cases hbk : b = h1.objs.size
      · rw [hbk, gN] at e1; cases e1
      · rw [← gG b hbk]; exact e1
    have hal' : PySem.W.AllAlike (ks.map dat) := fun d hd' e he => hal d hd' e he
    have hso : PySem.W.Sortable (ks.map dat) := by
      rcases hk with hk | hk
      · refine .inl fun d hd' => ?_
        have := hk d hd'
        split at this
        · exact ⟨_, _, rfl⟩
        · cases this
      · refine .inr fun d hd' => ?_
        have := hk d hd'
        exact ⟨(fun z => by subst z; cases this), (fun xs z => by subst z; cases this)⟩
    have hun := hr.un
    refine PySem.W.keyH_end (κ := PySem.W.dataKind s'.heap (ks.map dat)) (h₁ := G) kpG gN gk gp hkp (PySem.W.SortsAt.data (s := s') hreads hal' hso fun d hd' => ?_) hkA hz' fun h3 tk3 c k3 n3 => ⟨rfl, ?_⟩
    · have := hdp d hd'
      show X.A.units + 1 + 1 + d.depth < cLine
      omega
    have ko : PySem.W.KeyedOut false (ks.map dat) its (PySem.W.sortVals (PySem.W.dataKind s'.heap (ks.map dat)) false kA.toList its) := ⟨s'.heap, kA.toList, hal', rfl, hreads⟩
    have ez : (ts.zip ks).map (fun p : T × T => dat p.2) = ks.map dat := by
      have h2 : (ts.zip ks).map Prod.snd = ks := List.map_snd_zip (by omega)
      conv => rhs; rw [← h2, List.map_map]
      rfl
    have eo := PySem.W.keyedOut_each (rev := false) (fun p : T × T => dat p.2) (by rw [ez]; exact ko) (each_pairs hkl (eachIs_of (rs.mono out.same) rv))
    obtain ⟨zs, hv, hzr⟩ := of_pairs eo
    have keep3 : ∀ b o, b ≠ s.heap.objs.size + 1 → b ≠ h1.objs.size → s'.heap.get? b = some o → h3.get? b = some o := fun b o b1 b2 e1 => k3 b o b1 (by rw [gG b b2]; exact e1)
    have hlen : zs.length ≤ sizeLine := by
      rw [hzr.length, List.length_map, List.length_mergeSort, List.length_zip]
      omega
    have hok3 : HOk X.prog X.w H' h3 := HOk.tracked hok fun b u hb e1 => keep3 b u (fun z => hb (by rw [z]; exact np)) (fun z => hb (by rw [z]; exact nk)) e1
    refine ⟨.ref _, upd H' (s.heap.objs.size + 1) (.lst zs), I.call' (s' := { s' with heap := h3, toks := tk3 }) os (Un.more (Un.turned un fun b o o1 e1 e2 => keep3 b o1 (ne_old e1).1 (ne_old e1).2 e2) (Heap.get?_none_of_le (Nat.le_succ _)) (I.hok.fresh (Nat.le_succ _))) ?_ bare (fun b z => absurd z (by simp)), rfl, q _ zs H' F' out (I.hok.fresh (Nat.le_succ _)) np hzr⟩
    exact HOk.put hok3 np ⟨hlen, _, c, hv, by simpa [seqObj] using n3⟩
end
end PL

set_option maxHeartbeats 4000000
/-! PLv: sorted(e, key=f) as a new list; a def called by names. -/
namespace PL
open PySem PySem.Spec PyProof.Rows L2
section
variable {W : Type} {X : Cx} {G : Gm W} {E : XK}
def rSortK (X : Cx) (f : Addr) (Fn : List T → M W T) : List V → List V → Hp → VK → Prop := fun xs zs H Q => ∃ (O : Wd W) (F : Hp) (l : Addr) (vs : List V) (ts us : List T) (w w' : W), xs = [.ref l] ∧ zs = [.ref f] ∧ SqL X.K H l vs ∧ Same F H ∧ O.ok H w ∧ (∀ b, O.D b → F b = none) ∧ Reps X.K F vs ts ∧
  sortKM Fn (.lst ts) w = some (.ok us, w') ∧ ∀ p ys H' F', Out O H F w' H' F' → H p = none → H' p = none → Reps X.K F' ys us → Q (.ref p) (upd H' p (.lst ys))
theorem sortKM_inv {Fn : List T → M W T} {t : T} {w w' : W} {r : R (List T)} (h : sortKM Fn t w = some (r, w')) : ∃ ts us, t = .lst ts ∧ r = .ok us := by
  unfold sortKM at h
  cases t with
  | lst ts =>
    have h' : bnd (keysM Fn ts) (sortKs ts) w = some (r, w') := h
    rcases bnd_inv h' with ⟨ks, w1, _, hq⟩ | ⟨er, hk, _⟩
    · unfold sortKs at hq
      cases hds : dataTs ks with
      | none => rw [hds] at hq; cases hq
      | some ds =>
        rw [hds] at hq
        by_cases hso : sortableB ds = true ∧ ts.length ≤ sizeLine
        · simp only [if_pos hso] at hq
          exact ⟨ts, _, rfl, (ret_inv hq).1⟩
        · simp only [if_neg hso] at hq
          cases hq
    · obtain ⟨ks, _, e, _⟩ := keysM_inv hk
      cases e
  | _ => cases h
theorem pf_sortK {k : Nat} {y : Str} {Fn : List T → M W T} {e : Expr} {fa : Rho → M W T} {p pos py pk : Pos} (D : DefOk (L2.CX X.prog X.w) X.prog X.w X.K X.mg X.base k y 1 Fn) (hr : Room (k + 2) X.A) (hgd : X.A.guards = some []) (hg : Gl X "sorted") (hm : X.mg "sorted" = none) (hgy : Gl X y) (ha : PVs X G E e fa)
    (hdb : (y == ("__debug__" : Str)) = false := by decide) (he : starEach [e] X.env = (false, eval e X.env) :: starEach [] X.env := by rfl) (heb : backTo pos (starEach [e] X.env) = (false, eval e X.env) :: backTo pos (starEach [] X.env) := by rfl) (hpl : (backTo pos (starEach [e] X.env)).any (·.1) = false := by rfl)
    (hall : (backToKw pos (keywordEach [⟨some "key", .Name y py, pk⟩] X.env)).all (·.1.isSome) = true := by rfl) (hnone : (backToKw pos (keywordEach [⟨some "key", .Name y py, pk⟩] X.env)).any (·.1.isNone) = false := by rfl) (hks : (backToKw pos (keywordEach [⟨some "key", .Name y py, pk⟩] X.env)).filterMap (·.1) = [Str.ofString "key"] := by rfl) :
    PF X G E (.Call (.Name "sorted" p) [e] [⟨some "key", .Name y py, pk⟩] pos) (fSortK Fn fa) := by
  obtain ⟨f, fd, ps, Fm, hmy, hkp, hb⟩ := D.ex
  have hc : CallRK X (.builtin "sorted") [Str.ofString "key"] (rSortK X f Fn) := by
    intro pins s σ H xs zs us ws Q I r rz h
    obtain ⟨O, F, l, vs, ts, us', w, w', rfl, rfl, hs, sub, wok, dF, rs, hk, q⟩ := h
    rw [Vals.ref1 r, Vals.ref1 rz]
    exact run_sortK Fm hb hr hgd I hs sub wok dF rs hk q
  have hy : PV X G E (.Name y py) (fC (.raw (.ref f))) := pv_glob (v := .ref f) hgy hmy rfl (fun F => .raw _) hdb
  refine ⟨(pe_callBK hc hg hm boot_sorted (pa_cons ha.run pa_nil he) (pk_cons hy.run pk_nil) (by decide) (by decide) heb hpl hall hnone hks).imp fun σ H Q => ?_⟩
  rintro ⟨ρ, w, F, r, w', S, hf, acc⟩
  refine tVs.bind (X := X) S hf acc.er fun t w1 x H1 F1 S1 s1 r1 hk => ?_
  obtain ⟨ts, us, rfl, rfl⟩ := sortKM_inv hk
  refine ⟨ρ, w1, F1, .ok (.raw (.ref f)), w1, S1, rfl, fun v H2 F2 S2 g2 rv => ?_⟩
  obtain ⟨l, vs, rfl, hH, rs⟩ := (r1.mono g2.same).lst S2
  cases rv with
  | raw =>
    refine ⟨G.O, F2, l, vs, ts, us, w1, w', rfl, rfl, SqL.of hH, S2.sub, S2.wok, S2.dF, rs, hk, fun p ys H' F' o hp hp' rys => ?_⟩
    have S3 := o.sd S2
    have hgr := s1.trans (g2.trans o.gr S2.dH) S1.dH
    exact acc p ys _ F' (S3.laid hp') (hgr.trans (.laid hp') S3.dH) (hgr.free0 S3.dH hp') upd_same (S3.sub.free hp') (S3.fresh hp').2.1 (S3.noSlot hp') rys
/-- a def of the module, by names -/
structure DefOkK (CX : CXT) (P : Program) (w : World) (K : PySem.W.Frag) (mg : Str → Option Value) (base : Heap) (k : Nat) (x : Str) (n : Nat) (ks : List Str) (Fn : List T → M W T) : Prop where
  ex : ∃ f fd ps, FnG P w K mg base CX k f fd ps (spF K n Fn) ∧ mg x = some (.ref f) ∧ PySem.W.keepIn K (.ref f) = true ∧ KBinds K fd ps ks (fun us ws => us ++ ws) (fun vs zs => vs ++ zs)
theorem pv_callN {k j n : Nat} {x : Str} {kws : List Keyword} {ks : List Str} {fa : Rho → M W (List T)} {Fn : List T → M W T} {p pos : Pos} {tk : TA} (D : DefOkK (L2.CX X.prog X.w) X.prog X.w X.K X.mg X.base k x n ks Fn) (hr : Room j X.A) (hgd : X.A.guards = some []) (hk : k ≤ j) (hg : Gl X x) (hx : Passes (L2.CX X.prog X.w) X E)
    (hkw : PK X kws tk) (htk : ∀ σ H Q, tA X.K G E fa σ H Q → tk σ H Q) (hall : (backToKw pos (keywordEach kws X.env)).all (·.1.isSome) = true := by rfl) (hks : (backToKw pos (keywordEach kws X.env)).filterMap (·.1) = ks := by rfl) (hdb : (x == ("__debug__" : Str)) = false := by decide)
    (hpl : ((backTo pos (starEach [] X.env)).any (·.1) || (backToKw pos (keywordEach kws X.env)).any (·.1.isNone)) = false := by rfl) :
    PV X G E (.Call (.Name x p) [] kws pos) (fCall n fa Fn) := by
  obtain ⟨f, fd, ps, Fm, hm, hkp, hb⟩ := D.ex
  refine ⟨⟨fun pins s σ H Q I h => ?_⟩⟩
  obtain ⟨ρ, w, F, q, w', S, hf, acc⟩ := h
  refine wpAny_Call_Name_kw (ld_glob I hg hm ?_ hdb)
  refine PySem.W.callWith_KW0 (first := []) (h₀ := X.base) I.ok.mod.kin hkp hall (thn (hkw.run pos pins s σ H _ I (htk _ _ _ (tA.bind (X := X) (Q := fun vs H1 => spF X.K n Fn vs H1 Q E) S hf acc.er fun ts w1 vs H1 F1 S1 s1 r1 hk => ?_))) fun us s1 ⟨vs, H1, I1, r, q⟩ => ⟨I1.kIn, ?_⟩) hpl
  · split at hk
    · rename_i hl
      exact spF.of S1 r1 hl hk (fun t ht v H' F' S' s' rv => by subst ht; exact acc v H' F' S' (s1.trans s' S1.dH) rv) (acc.mono s1 S1.dH).er
    · cases hk
  · rw [hks]
    have r2 := hb.rel (vs := []) (us := []) .nil r
    have hl : (([] : List Value) ++ us).length = ps.length := by rw [← r2.length]; exact Fm.len _ _ _ _ q
    exact wpAny_call (FnG.out hx I1 (Fm.run X.A X.stack s1 H1 ⟨[], ks.zip us⟩ ([] ++ us) ([] ++ vs) Q E (hr.mono hk) hgd I1.env0 (hb.to s1 [] us I1.kIn hl) r2 q))
end
section
variable {W : Type} {P : Program} {w : World} {K : PySem.W.Frag} {mg : Str → Option Value} {base : Heap}
theorem def_okK {x : Str} {st : Stmt} {N ps ks : List Str} {n m k : Nat} {g : Rho → M W Fl} (D : DefAt K mg x st) (S : FnScope N ps (defScope st)) (hps : ps.length = n) (hN : N.length = n + m)
    (hb : ∀ (kV doc pm : Value) (an : Option Addr) (cdv ct : Value) (us ws : List Value), (us ++ ws).length = ps.length → bindArgs (PySem.W.fnOf x x (defArgs st) (defBody st) (defScope st) .none kV doc pm an cdv ct) ⟨us, ks.zip ws⟩ = pure (ps.zip (us ++ ws)))
    (hbody : ∀ (f : Addr) (cdv : Value) (A : Around) (outer : List PySem.Env) (s : Shared) (H : Hp) (E : XK) (G : Gm W), Room k (A.deeper (envOfC x (defScope st) s.heap.objs.size f cdv)) → (A.deeper (envOfC x (defScope st) s.heap.objs.size f cdv)).guards = some [] →
      PDs (cxOf (L2.CX P w) P w K mg base N x (defScope st) f cdv A outer s H E) G E (defBody st) g) :
    DefOkK (L2.CX P w) P w K mg base (k + 1) x n ks (run m g) := by
  obtain ⟨f, fd, F, hm⟩ := D.ex
  obtain ⟨fd', ps', h1, h2⟩ := meth_okK ⟨fd, F⟩ S hps hN hb fun cdv A outer s H E G => hbody f cdv A outer s H E G
  exact ⟨f, fd', ps', h1, hm, F.kp, h2⟩
end
end PL

set_option maxHeartbeats 4000000
/-! PM: < of texts, + of lists as a new list, a, b, c = x, y, z, defs that give a new list. -/
namespace PL
open PySem PySem.Spec PyProof.Rows L2
section
variable {W : Type} {X : Cx} {G : Gm W} {E : XK} {a b : Expr} {fa fb : Rho → M W T} {pos : Pos}
def ltS : T → T → Option T
  | .str i, .str j => some (.bl (decide (i.cps.toList < j.cps.toList)))
  | _, _ => none
theorem ltSG : OpG X G (fun x y H Q => ∃ i j, x = .str i ∧ y = .str j ∧ Q (.bl (decide (i.cps.toList < j.cps.toList))) H) ltS := by
  intro ρ w σ H F x y t u z Q S hx hy hz k
  unfold ltS at hz
  split at hz
  · cases hz
    exact ⟨_, _, hx.str, hy.str, k _ H F S .refl (.bl _)⟩
  · cases hz
theorem pv_ltS (ha : PVs X G E a fa) (hb : PVs X G E b fb) : PV X G E (.Compare a [.Lt] [b] pos) (f2 ltS fa fb) := pv_cmp op_lt_str ltSG ha hb (nomark b)
theorem pb_ltS (ha : PVs X G E a fa) (hb : PVs X G E b fb) : PB X G E (.Compare a [.Lt] [b] pos) (fB (f2 ltS fa fb)) := pb_cmp op_lt_str ltSG ha hb (nomark b)
/-! ### a list made of two -/
def catT : T → T → Option (List T)
  | .lst xs, .lst ys => if xs.length + ys.length ≤ sizeLine then some (xs ++ ys) else none
  | _, _ => none
def f2l (g : T → T → Option (List T)) (fa fb : Rho → M W T) : Rho → M W (List T) := fun ρ => bnd (fa ρ) fun t => bnd (fb ρ) fun u => lift (g t u)
theorem pf_cat (ha : PVs X G E a fa) (hb : PVs X G E b fb) : PF X G E (.BinOp a .Add b pos) (f2l catT fa fb) := ⟨(pe_op op_cat ha.run hb.run).imp fun σ H Q => by
  rintro ⟨ρ, w, F, q, w', S, hf, acc⟩
  refine tVs.bind (X := X) S hf acc.er fun t w1 x H1 F1 S1 s1 r1 hk => ?_
  have ac1 : AccF X.K G E ρ σ H1 F1 Q q w' := by
    cases q with
    | ok ts => exact fun p vs H2 F2 S2 g hp => acc p vs H2 F2 S2 (s1.trans g S1.dH) (s1.free0 S1.dH hp)
    | er e => exact AccE.mono (X := X) acc s1.same
  refine tVs.bind (X := X) S1 hk ac1.er fun u w2 y H2 F2 S2 s2 r2 hk2 => ?_
  obtain ⟨z, hz, rfl, rfl⟩ := lift_inv hk2
  unfold catT at hz
  split at hz
  · rename_i xs ys
    split at hz
    · rename_i hl
      cases hz
      obtain ⟨a, vs, rfl, hH, q1⟩ := (r1.mono s2.same).lst S2
      obtain ⟨b, us, rfl, hH2, q2⟩ := r2.lst S2
      refine ⟨a, b, vs, us, rfl, rfl, hH, hH2, by rw [q1.length, q2.length]; exact hl, fun p hp => ?_⟩
      have g := s1.trans s2 S1.dH
      exact acc p _ _ F2 (S2.laid hp) (g.trans (.laid hp) S2.dH) (g.free0 S2.dH hp) upd_same (S2.sub.free hp) (S2.fresh hp).2.1 (S2.noSlot hp) (q1.append q2)
    · cases hz
  · cases hz⟩
/-! ### three names at once -/
def dPar3 (i j l : Nat) (fx fy fz : Rho → M W Sl) : Rho → M W Fl := fun ρ => bnd (fx ρ) fun s => bnd (fy ρ) fun t => bnd (fz ρ) fun u => ret (.nx (((ρ.set i s).set j t).set l u))
theorem pd_par3 (i j l : Nat) {x y z : Str} {a b c : Expr} {fx fy fz : Rho → M W Sl} {px py pz pt pos : Pos} {kt k2 pt2} (ha : PX X G E a fx) (hb : PX X G E b fy) (hcc : PX X G E c fz) (hc : X.calm = true) (hN : X.N.Nodup) (hi : X.N[i]? = some x) (hj : X.N[j]? = some y) (hl : X.N[l]? = some z) (hij : i ≠ j) (hil : i ≠ l) (hjl : j ≠ l)
    (hx : X.env.scope.names.lookup x = some .local) (hy : X.env.scope.names.lookup y = some .local) (hz : X.env.scope.names.lookup z = some .local)
    (hw : swappedStores [.Tuple [.Name x px, .Name y py, .Name z pz] kt pt] (.Tuple [a, b, c] k2 pt2) X.env = pure (some [x, y, z]))
    (hs : swapsWithSole [.Tuple [.Name x px, .Name y py, .Name z pz] kt pt] (.Tuple [a, b, c] k2 pt2) pos.line X.env = pure false := by rfl)
    (h1 : starEach [a, b, c] X.env = (false, eval a X.env) :: starEach [b, c] X.env := by rfl) (h2 : starEach [b, c] X.env = (false, eval b X.env) :: starEach [c] X.env := by rfl) (h3 : starEach [c] X.env = (false, eval c X.env) :: starEach [] X.env := by rfl) :
    PD X G E (.Assign [.Tuple [.Name x px, .Name y py, .Name z pz] kt pt] (.Tuple [a, b, c] k2 pt2) pos) (dPar3 i j l fx fy fz) := ⟨(ps_par3 hc hN hi hj hl hij hil hjl hx hy hz (pa_cons ha.run (pa_cons hb.run (pa_cons hcc.run pa_nil h3) h2) h1) hw hs).imp fun D σ H => by
  rintro ⟨ρ, w, F, r, w', S, hf, acc⟩
  refine tX.bind (X := X) S hf acc.er fun s w1 v H1 F1 S1 s1 n1 r1 hk => ?_
  refine tX.bind (X := X) S1 hk (AccD.mono (X := X) acc s1.same).er fun t w2 u H2 F2 S2 s2 n2 r2 hk2 => ?_
  refine tX.bind (X := X) S2 hk2 (AccD.mono (X := X) acc (s1.same.trans s2.same)).er fun q w3 m H3 F3 S3 s3 n3 r3 hk3 => ?_
  obtain ⟨rfl, rfl⟩ := ret_inv hk3
  refine ⟨v, u, m, rfl, acc _ H3 F3 ?_ ((s1.same.trans s2.same).trans s3.same)⟩
  have r1' := r1.later S1 s2
  have r1'' := r1'.later S2 s3
  have r2' := r2.later S2 s3
  have a2 : ∀ p, t.owns = true → s.owns = true → u = .ref p → v ≠ .ref p := fun p ht hso hu hv => r1.there hso hv (n2 p ht hu)
  have a31 : ∀ p, q.owns = true → s.owns = true → m = .ref p → v ≠ .ref p := fun p hq hso hm hv => r1'.there hso hv (n3 p hq hm)
  have a32 : ∀ p, q.owns = true → t.owns = true → m = .ref p → u ≠ .ref p := fun p hq hto hm hu => r2.there hto hu (n3 p hq hm)
  have T1 := S3.set r1'' i
  have T2 := T1.set (Rdy.behind S3 r2' a2) j
  exact T2.set (Rdy.behind T1 (Rdy.behind S3 r3 a31) a32) l⟩
end
/-! ### a def that gives a new list -/
section
variable {W : Type}
inductive Fg where
  | nx (ρ : Rho) | rl (ts : List T)
def AccG (K : PySem.W.Frag) (G : Gm W) (E : XK) (D : Ends) (F : Hp) (r : R Fg) (w' : W) : Prop := match r with
  | .ok (.nx ρ') => ∀ σ' H' F', Sd K G ρ' w' σ' H' F' → Same F F' → D.nx σ' H'
  | .ok (.rl ts) => ∀ p vs ρ' σ' H' F', Sd K G ρ' w' σ' H' F' → Same F F' → H' p = some (.lst vs) → F' p = none → G.B p = none → Reps K F' vs ts → D.rt (.ref p) H'
  | .er e => AccE K G E F e w'
def tG2 (K : PySem.W.Frag) (G : Gm W) (E : XK) (g : Rho → M W Fg) : TS := fun D σ H => ∃ ρ w F r w', Sd K G ρ w σ H F ∧ g ρ w = some (r, w') ∧ AccG K G E D F r w'
theorem AccG.mono {X : Cx} {G : Gm W} {E : XK} {D : Ends} {F F' : Hp} {r : R Fg} {w' : W} (h : AccG X.K G E D F r w') (s : Same F F') : AccG X.K G E D F' r w' := by
  cases r with
  | ok f =>
    cases f with
    | nx ρ2 => exact fun σ2 H2 F2 S2 s2 => h σ2 H2 F2 S2 (s.trans s2)
    | rl ts => exact fun p vs ρ2 σ2 H2 F2 S2 s2 => h p vs ρ2 σ2 H2 F2 S2 (s.trans s2)
  | er e => exact PL.AccE.mono (X := X) h s
structure PGs (X : Cx) (G : Gm W) (E : XK) (s : List Stmt) (g : Rho → M W Fg) : Prop where
  run : PSs X s (tG2 X.K G E g)
structure PG1 (X : Cx) (G : Gm W) (E : XK) (s : Stmt) (g : Rho → M W Fg) : Prop where
  run : PS X s (tG2 X.K G E g)
variable {X : Cx} {G : Gm W} {E : XK} {st : Stmt} {sts sa sb : List Stmt} {pos : Pos}
theorem pgs_nil : PGs X G E [] fun ρ => ret (.nx ρ) := ⟨pss_nil.imp fun D σ H => by
  rintro ⟨ρ, w, F, r, w', S, hf, acc⟩
  obtain ⟨rfl, rfl⟩ := ret_inv hf
  exact acc σ H F S (Same.refl F)⟩
/-- behind a statement that returns nothing -/
def seqG (g : Rho → M W Fl) (h : Rho → M W Fg) : Rho → M W Fg := fun ρ => bnd (g ρ) fun fl => match fl with
  | .nx ρ' => h ρ'
  | _ => stuck
theorem pgs_cons {g : Rho → M W Fl} {h : Rho → M W Fg} (h1 : PD X G E st g) (h2 : PGs X G E sts h) : PGs X G E (st :: sts) (seqG g h) := ⟨(pss_cons h1.run h2.run).imp fun D σ H => by
  rintro ⟨ρ, w, F, r, w', S, hf, acc⟩
  rcases bnd_inv hf with ⟨fl, w1, h1, h2⟩ | ⟨er, h1, rfl⟩
  · refine ⟨ρ, w, F, .ok fl, w1, S, h1, ?_⟩
    cases fl with
    | nx ρ' =>
      intro σ' H' F' S' s'
      exact ⟨ρ', w1, F', r, w', S', h2, AccG.mono (X := X) acc s'⟩
    | rt t => cases h2
    | bk ρ' => cases h2
    | ct ρ' => cases h2
  · exact ⟨ρ, w, F, .er er, w', S, h1, acc⟩⟩
def seqGG (g h : Rho → M W Fg) : Rho → M W Fg := fun ρ => bnd (g ρ) fun fl => match fl with
  | .nx ρ' => h ρ'
  | o => ret o
theorem pgs_consG {g h : Rho → M W Fg} (h1 : PG1 X G E st g) (h2 : PGs X G E sts h) : PGs X G E (st :: sts) (seqGG g h) := ⟨(pss_cons h1.run h2.run).imp fun D σ H => by
  rintro ⟨ρ, w, F, r, w', S, hf, acc⟩
  rcases bnd_inv hf with ⟨fl, w1, h1, h2⟩ | ⟨er, h1, rfl⟩
  · refine ⟨ρ, w, F, .ok fl, w1, S, h1, ?_⟩
    cases fl with
    | nx ρ' =>
      intro σ' H' F' S' s'
      exact ⟨ρ', w1, F', r, w', S', h2, AccG.mono (X := X) acc s'⟩
    | rl ts =>
      obtain ⟨rfl, rfl⟩ := ret_inv h2
      exact acc
  · exact ⟨ρ, w, F, .er er, w', S, h1, acc⟩⟩
theorem pgs_one {g : Rho → M W Fg} (h1 : PG1 X G E st g) : PGs X G E [st] g := ⟨pss_one h1.run⟩
def gRet (fl : Rho → M W (List T)) : Rho → M W Fg := fun ρ => bnd (fl ρ) fun ts => ret (.rl ts)
theorem pg_ret {e : Expr} {fl : Rho → M W (List T)} (h : PF X G E e fl) : PG1 X G E (.Return (some e) pos) (gRet fl) := ⟨(ps_ret h.run).imp fun D σ H => by
  rintro ⟨ρ, w, F, r, w', S, hf, acc⟩
  rcases bnd_inv hf with ⟨ts, w1, h1, h2⟩ | ⟨er, h1, rfl⟩
  · obtain ⟨rfl, rfl⟩ := ret_inv h2
    exact ⟨ρ, w, F, .ok ts, _, S, h1, fun p vs H1 F1 S1 g hp h1 hF hB hn rs => acc p vs ρ σ H1 F1 S1 g.same h1 hF hB rs⟩
  · exact ⟨ρ, w, F, .er er, w', S, h1, acc⟩⟩
def gOwn (i : Nat) : Rho → M W Fg := fun ρ => owM i ρ fun ts => ret (.rl ts)
theorem pg_own (i : Nat) {x : Str} {px : Pos} (hx : PE X (.Name x px) (tVar i)) : PG1 X G E (.Return (some (.Name x px)) pos) (gOwn i) := ⟨(ps_ret hx).imp fun D σ H => by
  rintro ⟨ρ, w, F, r, w', S, hf, acc⟩
  have hf' : owM i ρ (fun ts => ret (.rl ts)) w = some (r, w') := hf
  unfold owM at hf'
  cases hs : ρ[i]? with
  | none => rw [hs] at hf'; cases hf'
  | some s =>
    rw [hs] at hf'
    cases s with
    | ow ts =>
      obtain ⟨rfl, rfl⟩ := ret_inv hf'
      obtain ⟨p, vs, e, h1, h2, h3, h4⟩ := S.slots i _ hs
      exact ⟨_, e, acc p vs ρ σ H F S (Same.refl F) h1 h2 h3 h4⟩
    | _ => cases hf'⟩
def gIf (gc : Rho → M W Bool) (g h : Rho → M W Fg) : Rho → M W Fg := fun ρ => bnd (gc ρ) fun b => if b = true then g ρ else h ρ
theorem pg_if {c : Expr} {gc : Rho → M W Bool} {g h : Rho → M W Fg} (hc : PB X G E c gc) (ha : PGs X G E sa g) (hb : PGs X G E sb h) : PG1 X G E (.If c sa sb pos) (gIf gc g h) := ⟨(ps_if hc.run ha.run hb.run).imp fun D σ H => by
  rintro ⟨ρ, w, F, r, w', S, hf, acc⟩
  have er : ∀ e, r = .er e → AccE X.K G E F e w' := fun e z => by subst z; exact acc
  refine tT.bind (X := X) S hf er fun b w1 H1 F1 S1 s1 hk => ?_
  have acc' := AccG.mono (X := X) acc s1.same
  cases b with
  | true => exact ⟨ρ, w1, F1, r, w', S1, hk, acc'⟩
  | false => exact ⟨ρ, w1, F1, r, w', S1, hk, acc'⟩⟩
/-- the promise of such a def -/
def spFL (K : PySem.W.Frag) (n : Nat) (Fn : List T → M W (List T)) : Sp := fun vs H Q E => ∃ (O : Wd W) (F : Hp) (ts : List T) (w : W) (r : R (List T)) (w' : W), vs.length = n ∧ Same F H ∧ O.ok H w ∧ (∀ b, O.D b → F b = none) ∧ Reps K F vs ts ∧ Fn ts w = some (r, w') ∧
  match r with
  | .ok us => ∀ p zs H' F', Out O H F w' H' F' → H p = none → H' p = some (.lst zs) → F' p = none → Reps K F' zs us → Q (.ref p) H'
  | .er e => ∀ d H' F', Out O H F w' H' F' → ErAt K H' F' e d → E (.ref e.C) d H'
structure DefOkL (CX : CXT) (P : Program) (w : World) (K : PySem.W.Frag) (mg : Str → Option Value) (base : Heap) (k : Nat) (x : Str) (n : Nat) (Fn : List T → M W (List T)) : Prop where
  ex : ∃ f fd ps, FnG P w K mg base CX k f fd ps (spFL K n Fn) ∧ mg x = some (.ref f) ∧ PySem.W.keepIn K (.ref f) = true ∧ Binds K fd ps []
def fCallL (n : Nat) (fa : Rho → M W (List T)) (Fn : List T → M W (List T)) : Rho → M W (List T) := fun ρ => bnd (fa ρ) fun ts => if ts.length = n then Fn ts else stuck
theorem pf_call {k j n : Nat} {x : Str} {e : Expr} {es : List Expr} {fa : Rho → M W (List T)} {Fn : List T → M W (List T)} {p : Pos} (D : DefOkL (L2.CX X.prog X.w) X.prog X.w X.K X.mg X.base k x n Fn) (hr : Room j X.A) (hgd : X.A.guards = some []) (hk : k ≤ j) (hg : Gl X x) (hx : Passes (L2.CX X.prog X.w) X E) (ha : PAs X G E (e :: es) fa)
    (hdb : (x == ("__debug__" : Str)) = false := by decide) (he : starEach (e :: es) X.env = (false, eval e X.env) :: starEach es X.env := by rfl) (hpl : (backTo pos (starEach es X.env)).any (·.1) = false := by rfl) :
    PF X G E (.Call (.Name x p) (e :: es) [] pos) (fCallL n fa Fn) := by
  obtain ⟨f, fd, ps, hF, hm, hkp, hb⟩ := D.ex
  refine ⟨(pe_callG hF (hr.mono hk) hgd hg hm hkp hb hx ha.run hdb he hpl).imp fun σ H Q => ?_⟩
  rintro ⟨ρ, w, F, r, w', S, hf, acc⟩
  refine tA.bind (X := X) S hf acc.er fun ts w1 vs H1 F1 S1 s1 r1 hk => ?_
  split at hk
  · rename_i hl
    rw [List.append_nil]
    refine ⟨G.O, F1, ts, w1, r, w', by rw [r1.length]; exact hl, S1.sub, S1.wok, S1.dF, r1, hk, ?_⟩
    cases r with
    | ok us => exact fun p zs H' F' o hp hp' hF' rz => acc p zs H' F' (o.sd S1) (s1.trans o.gr S1.dH) (s1.free0 S1.dH hp) hp' hF' (S1.fresh hp).2.1 (S.noSlot (s1.free0 S1.dH hp)) rz
    | er e' => exact fun d H' F' o ea => AccE.mono (X := X) acc s1.same d H' F' ρ σ (o.sd S1) o.same ea
  · cases hk
/-- what such a body gives; m: how many names it has besides -/
def runL (m : Nat) (g : Rho → M W Fg) : List T → M W (List T) := fun ts => bnd (g (ts.map Sl.fz ++ List.replicate m Sl.un)) fun fl => match fl with
  | .rl us => ret us
  | _ => stuck
theorem spFL.len {K : PySem.W.Frag} {n : Nat} {Fn : List T → M W (List T)} : ∀ vs H Q E, spFL K n Fn vs H Q E → vs.length = n := fun _ _ _ _ ⟨_, _, _, _, _, _, h, _⟩ => h
theorem spFL.body {n m : Nat} {N : List Str} {g : Rho → M W Fg} {vs : List V} {H : Hp} {Q : VK} (h : spFL X.K n (runL m g) vs H Q E) (hN : N.length = n + m) :
    ∃ (G : Gm W), tG2 X.K G E g { nx := fun _ _ => False, rt := Q } (L2.start N vs) H := by
  obtain ⟨O, F, ts, w, r, w', hl, sub, wok, dF, rs, e, acc⟩ := h
  have hts : ts.length = n := by rw [← rs.length]; exact hl
  have S := Sd.start (K := X.K) (N := N) sub wok dF rs (by omega)
  have hm : N.length - ts.length = m := by omega
  rw [hm] at S
  refine ⟨⟨O, H, F⟩, ts.map Sl.fz ++ List.replicate m Sl.un, w, F, ?_⟩
  have out : ∀ {ρ' : Rho} {σ' : L2.St} {H' F' : Hp} {w' : W}, Sd X.K ⟨O, H, F⟩ ρ' w' σ' H' F' → Same F F' → Out O H F w' H' F' := fun S' s' => ⟨S'.sub, s', S'.old, S'.keep, S'.wok, S'.dF⟩
  rcases bnd_inv e with ⟨fl, w1, h1, h2⟩ | ⟨er, h1, rfl⟩
  · refine ⟨.ok fl, w1, S, h1, ?_⟩
    cases fl with
    | nx ρ' => cases h2
    | rl us =>
      obtain ⟨rfl, rfl⟩ := ret_inv h2
      exact fun p zs ρ' σ' H' F' S' s' hp hF hB rz => acc p zs H' F' (out S' s') hB hp hF rz
  · exact ⟨.er er, w', S, h1, fun d H' F' ρ' σ' S' s' ea => acc d H' F' (out S' s') ea⟩
end
section
variable {W : Type} {P : Program} {w : World} {K : PySem.W.Frag} {mg : Str → Option Value} {base : Heap}
theorem def_okL {x : Str} {st : Stmt} {N ps : List Str} {n m k : Nat} {g : Rho → M W Fg} (D : DefAt K mg x st) (S : FnScope N ps (defScope st)) (hps : ps.length = n) (hN : N.length = n + m)
    (hb : ∀ (kV doc pm : Value) (an : Option Addr) (cdv ct : Value) (us : List Value), us.length = ps.length → bindArgs (PySem.W.fnOf x x (defArgs st) (defBody st) (defScope st) .none kV doc pm an cdv ct) ⟨us, []⟩ = pure (ps.zip us))
    (hbody : ∀ (f : Addr) (cdv : Value) (A : Around) (outer : List PySem.Env) (s : Shared) (H : Hp) (E : XK) (G : Gm W), Room k (A.deeper (envOfC x (defScope st) s.heap.objs.size f cdv)) → (A.deeper (envOfC x (defScope st) s.heap.objs.size f cdv)).guards = some [] →
      PGs (cxOf (L2.CX P w) P w K mg base N x (defScope st) f cdv A outer s H E) G E (defBody st) g) :
    DefOkL (L2.CX P w) P w K mg base (k + 1) x n (runL m g) := by
  obtain ⟨f, fd, Fu, hm⟩ := D.ex
  refine ⟨f, fd, ps, ?_, hm, Fu.kp, Fu.binds hb⟩
  obtain ⟨oc, od, kV, doc, pm, an, cdv, ct, osl, rfl, lk, hcd⟩ := Fu.ex
  have hlen : ∀ vs H Q E, spFL K n (runL m g) vs H Q E → vs.length = ps.length := fun vs H Q E h => by rw [spFL.len _ _ _ _ h, hps]
  refine ⟨hlen, fun A outer s H args us vs Q E hr hgd e0 hbn r hsp => ?_⟩
  have KX : K.In s.heap := e0.mod.kin.keeps fun b o e => (e0.bs b o e).1
  have hkind : ∀ y ∈ ps.zip us, (defScope st).names.lookup y.1 = some .local ∨ ((defScope st).names.lookup y.1 = some .cell ∧ ((cellsFrom (s.heap.objs.size + 1) (defScope st).names []).lookup y.1).isSome = true) := fun ⟨z, v⟩ hy =>
    (S.par z (List.of_mem_zip hy).1).imp id fun q => ⟨q, PySem.W.cellsFrom_some _ _ _ (.inl q)⟩
  refine codeAny_call_function hr.depth (KX _ _ lk) rfl S.co S.gen rfl (PySem.W.codeRec_of KX hcd) (hbn _ _ _ _ (wpAny_newFunctionEnv_cells S.kind hkind fun env he s1 e1 => ?_))
  subst he
  obtain ⟨G, hG⟩ := spFL.body (X := cxOf (L2.CX P w) P w K mg base N x (defScope st) f cdv A outer s H E) (E := E) (N := N) hsp hN
  have I : Inv (cxOf (L2.CX P w) P w K mg base N x (defScope st) f cdv A outer s H E) [] (start N vs) H s1 := inv_start S hr.hd e0 (hlen _ _ _ _ hsp) r e1
  refine ⟨(e0.mod.nolimit.keeps fun b o e => (e0.bs b o e).1).keeps e1.toInCall.keep, codeAny_func (wpAny_mono ((hbody f cdv A outer s H E G (hr.deeper _) hgd).run.run [] s1 (start N vs) H _ I hG) (fun fl s' hs => ?_) fun e s' hs => hs)⟩
  cases fl with
  | ret u =>
    obtain ⟨v, σ', H', J, rv, q⟩ := hs
    exact ⟨v, H', J.os, J.bare, J.base, J.hok, rv, q⟩
  | next =>
    obtain ⟨σ', H', J, q⟩ := hs
    exact q.elim
  | brk =>
    obtain ⟨_, _, _, q⟩ := hs
    exact q.elim
  | cont =>
    obtain ⟨_, _, _, q⟩ := hs
    exact q.elim
end
end PL

set_option maxHeartbeats 4000000
/-! PN: xs.extend(ys), ys a list or a tuple. -/
namespace PySem.PLx
open PySem PySem.AutoSeq1
theorem ext_tup {ys zs : Array Value} {m k : Nat} {q r : Addr} {dd : Option Addr} {sl : Array (Option Value)} (e1 : ¬(!ys.isEmpty && Builtin.List.listTooLong (ys.size + zs.size)) = true)
    (e2 : ys.size ≤ sizeLine) (e3 : ys.size + zs.size ≤ sizeLine + 1) :
    Meets (Builtin.«list.extend» ⟨[.ref q, .ref r], []⟩) fun _ R s =>
      s.heap.get? q = some { cls := .type "list", dict := none, data := .seq ys m, slots := #[] } ∧
      s.heap.get? r = some { cls := .type "tuple", dict := dd, data := .seq zs k, slots := sl } ∧
      R (.ok (.ret Value.none)) { s with heap := s.heap.update q (Obj.mapSeq fun x => x ++ zs), toks := s.toks } :=
  .of_wp fun prog w A R s h => by
    obtain ⟨hp, g, d, tk, os⟩ := s
    obtain ⟨hl, hb, h⟩ := h
    have f1 := idx_int
    have f2 := sub_tuple_tuple
    have f3 := sub_list_list
    have f4 := sub_tuple_list
    have f5 := sub_list_tuple
    have hz' : (ys ++ zs).size ≤ sizeLine + 1 := by rw [Array.size_append]; exact e3
    wp_walk using (wpAny_updateSeq hl rfl (hz := e2) (_hz' := hz')), wpAny_loadPart' hl, wpAny_loadPart' hb
    exact ⟨_, rfl, h⟩
end PySem.PLx
namespace PL
open PySem PySem.Spec PyProof.Rows L2
section
variable {X : Cx}
def rExtB (K : PySem.W.Frag) : V → List V → Hp → VK → Prop := fun x vs H Q => ∃ l b xs zs, x = .ref l ∧ vs = [.ref b] ∧ H l = some (.lst xs) ∧ (H b = some (.lst zs) ∨ SqT K H b zs) ∧ xs.length + zs.length ≤ sizeLine ∧ Q .non (upd H l (.lst (xs ++ zs)))
theorem mt_extB : MtM X "list.extend" (rExtB X.K) := by
  intro pins s σ H x vs v us Q I rx rv h
  obtain ⟨l, b, xs, zs, e1, e2, hH, hB | hB, hz, q⟩ := h
  · exact mt_extend pins s σ H x vs v us Q I rx rv ⟨l, b, xs, zs, e1, e2, hH, hB, hz, q⟩
  · subst e1
    subst e2
    cases rx
    obtain ⟨u, rfl, ru⟩ := rv.one
    cases ru
    obtain ⟨z, its, n, r, hl, e⟩ := I.lstM hH
    obtain ⟨its2, r2, ⟨⟨oc, od, ob, os⟩, g2, c2, n2, d2⟩, _⟩ := I.tuple hB
    have hl2 := r2.length
    have hsz : its.toArray.size + its2.toArray.size ≤ sizeLine := by simp only [List.size_toArray]; omega
    have hlong : ¬ (!its.toArray.isEmpty && Builtin.List.listTooLong (its.toArray.size + its2.toArray.size)) = true := by rw [notLongL hsz, Bool.and_false]; simp
    have c2' : oc = .type "tuple" := c2
    have d2' : ob = .seq its2.toArray n2 := d2
    subst c2'
    subst d2'
    refine call_meets F.slot_list_extend ⟨_, e, rfl⟩ F.entry_list_extend (F.args_list_extend_2 _ _) (PySem.PLx.ext_tup hlong (by simp only [List.size_toArray]; omega) (by omega)) ⟨e, g2, ?_⟩
    exact ⟨.non, _, I.lset (its' := its ++ its2) hH e (by simp) (r.append r2) (by simp only [List.length_append]; omega), rfl, q⟩
end
section
variable {W : Type} {X : Cx} {G : Gm W} {E : XK} {e : Expr} {fa : Rho → M W T} {pos : Pos}
def itsM (t : T) : M W (List T) := match t with
  | .lst ts => ret ts
  | .tup ts => ret ts
  | _ => stuck
/-- xs.extend(e), e a list or a tuple -/
def dExtB (i : Nat) (fa : Rho → M W T) : Rho → M W Fl := fun ρ => owM i ρ fun ts => bnd (fa ρ) fun t => bnd (itsM t) fun us => if ts.length + us.length ≤ sizeLine then ret (.nx (ρ.set i (.ow (ts ++ us)))) else stuck
theorem pd_extB (i : Nat) {x : Str} {px ap cp : Pos} (ha : PVs X G E e fa) (hN : X.N[i]? = some x) (hv : Vis X.env.scope x)
    (hs : swapsWith (.Call (.Attribute (.Name x px) "extend" ap) [e] [] cp) none pos.line X.env = pure false := by rfl) (hst : starEach [e] X.env = (false, eval e X.env) :: starEach [] X.env := by rfl)
    (hpe : ∀ {te : TE}, PE X e te → PE X (.Call (.Attribute (.Name x px) "extend" ap) [e] [] cp) (tBM X.K "list" (rExtB X.K) (tVar i) (tCons te tNil))) :
    PD X G E (.Expr (.Call (.Attribute (.Name x px) "extend" ap) [e] [] cp) pos) (dExtB i fa) := ⟨(ps_expr (hpe ha.run) hs).imp fun D σ H => by
  rintro ⟨ρ, w, F, r, w', S, hf, acc⟩
  obtain ⟨ts, hi, hf⟩ := owM_inv hf
  obtain ⟨p, vs, h0, h1, h2, h3, rv⟩ := S.own hi
  refine ⟨.ref p, h0, .inl ⟨rfl, vs, .of h1⟩, ?_⟩
  refine tVs.bind (X := X) S hf acc.er fun t w1 y H1 F1 S1 s1 r1 hk => ?_
  have h1' : H1 p = some (.lst vs) := s1.keep p _ h1 (S.ndB h3)
  cases t with
  | lst us =>
    obtain ⟨b, zs, rfl, hb, rz⟩ := r1.lst S1
    have hk2 : (if ts.length + us.length ≤ sizeLine then ret (.nx (ρ.set i (.ow (ts ++ us)))) else stuck : M W Fl) w1 = some (r, w') := hk
    split at hk2
    · rename_i hl
      obtain ⟨rfl, rfl⟩ := ret_inv hk2
      exact ⟨p, b, vs, zs, rfl, rfl, h1', .inl hb, by rw [rv.length, rz.length]; exact hl, acc _ _ F1 (S1.putL hi h0 h1' ((rv.mono s1.same).append rz)) s1.same⟩
    · cases hk2
  | tup us =>
    obtain ⟨b, zs, rfl, _, hb, rz⟩ := r1.tup S1
    have hk2 : (if ts.length + us.length ≤ sizeLine then ret (.nx (ρ.set i (.ow (ts ++ us)))) else stuck : M W Fl) w1 = some (r, w') := hk
    split at hk2
    · rename_i hl
      obtain ⟨rfl, rfl⟩ := ret_inv hk2
      exact ⟨p, b, vs, zs, rfl, rfl, h1', .inr hb, by rw [rv.length, rz.length]; exact hl, acc _ _ F1 (S1.putL hi h0 h1' ((rv.mono s1.same).append rz)) s1.same⟩
    · cases hk2
  | _ => cases hk⟩
end
end PL

set_option maxHeartbeats 4000000
/-! PO: enumerate and zip over lists and tuples, in any mix. -/
namespace PySem.PLx
open PySem
theorem enum_new1 {v : Value} {ob : Obj} {Z : Heap → Prop} (B : Begins v ob Z) :
    Meets (Builtin.«enumerate.__new__» ⟨[.type "enumerate", v], []⟩) fun _ R s => Z s.heap ∧
      R (.ok (.ret (.ref (s.heap.push ob).objs.size)))
        { s with heap := (s.heap.push ob).push { cls := .type "enumerate", data := .fields #[.none, .bool false, .ref s.heap.objs.size, rawInt 0, .none, .none] } } :=
  .of_wp fun prog w A R s h => by
    obtain ⟨hp, g, d, tk, os⟩ := s
    obtain ⟨h1, h⟩ := h
    have hsub := sub_enumerate
    have it1 : ∀ {A' : Around} {E : Value → Shared → Prop} {Q : Value → Shared → Prop}, Q (.ref hp.objs.size) ⟨hp.push ob, g, d, tk, os⟩ → wpAny (model prog w) A' (pyIter v) Q E ⟨hp, g, d, tk, os⟩ := fun q =>
      B.iter prog w _ _ ⟨hp, g, d, tk, os⟩ _ h1 q
    wp_walk using it1
    refine wpAny_stack_any fun st => wpAny_pure ?_
    split
    · rename_i c _ _ _ _ _
      cases (c == Value.type "enumerate") <;> (wp_walk using it1) <;> exact ⟨_, rfl, h⟩
    · (wp_walk using it1)
      exact ⟨_, rfl, h⟩
section
variable {prog : Program} {w : World} {A : Around} {E : Value → Shared → Prop} {s : Shared}
theorem enum_begin1 {v : Value} {ob : Obj} {Z : Heap → Prop} {Q : Value → Shared → Prop} (B : Begins v ob Z) (h1 : Z s.heap)
    (h : ∀ h', IsEnum h' (s.heap.objs.size + 1) s.heap.objs.size 0 .none → h'.get? s.heap.objs.size = some ob → h'.objs.size = s.heap.objs.size + 2 → (∀ b o, s.heap.get? b = some o → h'.get? b = some o) → Q (.ref (s.heap.objs.size + 1)) { s with heap := h' }) :
    wpAny (model prog w) A (call (.type "enumerate") [v]) Q E s := by
  refine callType_new F.called_enumerate (by decide) (F.typeCall_enumerate_1 _) (F.newCall_enumerate_1 _) (fun obj => F.args_object_init_2 obj _) F.entry_enumerate_new (enum_new1 B) ⟨h1, ?_⟩
  have hz : (s.heap.push ob).objs.size = s.heap.objs.size + 1 := by rw [Heap.size_push]
  show _ ∧ _
  rw [hz]
  have he : IsEnum ((s.heap.push ob).push { cls := .type "enumerate", data := .fields #[.none, .bool false, .ref s.heap.objs.size, rawInt 0, .none, .none] }) (s.heap.objs.size + 1) s.heap.objs.size 0 .none := by
    have q := Heap.get?_push_size (s.heap.push ob) (o := { cls := .type "enumerate", data := .fields #[.none, .bool false, .ref s.heap.objs.size, rawInt 0, .none, .none] }) rfl
    rw [hz] at q
    exact q
  exact ⟨⟨_, he, rfl⟩, h _ he (Heap.get?_push_of_some _ (Heap.get?_push_size _ B.free)) (by rw [Heap.size_push, hz]) fun b o x => Heap.get?_push_of_some _ (Heap.get?_push_of_some _ x)⟩
end
end PySem.PLx
namespace PL
open PySem PySem.Spec PyProof.Rows L2
/-! ### a list or a tuple -/
def SqB (K : PySem.W.Frag) (k : Bool) (H : Hp) (a : Addr) (xs : List V) : Prop := match k with
  | true => SqT K H a xs
  | false => SqL K H a xs
def ItB (k : Bool) (h : Heap) (it a : Addr) (i : Nat) : Prop := match k with
  | true => h.IsTupleIter it a i
  | false => h.IsListIter it a i
def HasB (k : Bool) (h : Heap) (a : Addr) (items : Array Value) : Prop := match k with
  | true => h.IsTuple a items
  | false => h.IsList a items
theorem drawsB {prog : Program} {w : World} {A : Around} (hh : A.handled = none) (k : Bool) (it a : Addr) (hne : a ≠ it) (items : Array Value) :
    Draws prog w A it [it, a] items.size (fun i v => items[i]? = some v) (fun i h => ItB k h it a i ∧ HasB k h a items) := by
  cases k
  · exact Draws.list hh it a hne items
  · exact Draws.tuple hh it a hne items
theorem drawsE {prog : Program} {w : World} {A : Around} (hh : A.handled = none) (k : Bool) (it a : Addr) (items : Array Value) (i : Nat) (hi : items.size ≤ i) :
    Draws prog w A it [it, a] i (fun i v => items[i]? = some v) (fun j h => j = i ∧ ItB k h it a i ∧ HasB k h a items) where
  live := fun _ _ st => by
    cases k
    · obtain ⟨_, ⟨o, e, _⟩, _⟩ := st
      exact ⟨o, e⟩
    · obtain ⟨_, ⟨o, e, _⟩, _⟩ := st
      exact ⟨o, e⟩
  frame := fun _ _ _ st hk => by
    cases k
    · exact ⟨st.1, Heap.IsListIter.at st.2.1 fun o e => hk it (by simp) o e, Heap.IsList.at st.2.2 fun o e => hk a (by simp) o e⟩
    · exact ⟨st.1, Heap.IsTupleIter.at st.2.1 fun o e => hk it (by simp) o e, Heap.IsTuple.at st.2.2 fun o e => hk a (by simp) o e⟩
  item := fun j s Q E hj st hQ => absurd st.1 (by omega)
  done := fun s Q E st hE => by
    have hx : items[i]? = none := Array.getElem?_eq_none hi
    cases k
    · exact wpAny_nextOf_list_end hh st.2.1 st.2.2 hx hE
    · exact wpAny_nextOf_tuple_end hh st.2.1 st.2.2 hx hE
theorem drawsAt {prog : Program} {w : World} {A : Around} (hh : A.handled = none) (k : Bool) (it a : Addr) (hne : a ≠ it) (items : Array Value) (i : Nat) :
    ∃ n Z, Draws prog w A it [it, a] n (fun i v => items[i]? = some v) Z ∧ (∀ h, ItB k h it a i → HasB k h a items → Z i h) ∧ i ≤ n ∧ (items.size ≤ i → i = n) := by
  by_cases hi : items.size ≤ i
  · exact ⟨i, _, drawsE hh k it a items i hi, fun h x y => ⟨rfl, x, y⟩, Nat.le_refl _, fun _ => rfl⟩
  · exact ⟨items.size, _, drawsB hh k it a hne items, fun h x y => ⟨x, y⟩, by omega, fun z => absurd z hi⟩
theorem beginsB (k : Bool) (a : Addr) (items : Array Value) : ∃ ob, Begins (.ref a) ob (fun h => HasB k h a items) ∧ ∀ (h : Heap) (it : Addr), h.get? it = some ob → ItB k h it a 0 := by
  cases k
  · exact ⟨_, begins_list a items, fun h it e => ⟨_, e, rfl, rfl⟩⟩
  · exact ⟨_, begins_tuple a items, fun h it e => ⟨_, e, rfl, rfl⟩⟩
theorem ItB.obj {k : Bool} {h : Heap} {it a : Addr} {i : Nat} (x : ItB k h it a i) : ∃ o, h.get? it = some o ∧ ∀ v, o.data ≠ .cell v := by
  cases k
  · obtain ⟨o, e, _, d⟩ := x
    exact ⟨o, e, fun v q => by rw [d] at q; cases q⟩
  · obtain ⟨o, e, _, d⟩ := x
    exact ⟨o, e, fun v q => by rw [d] at q; cases q⟩
theorem ItB.at {k : Bool} {h h' : Heap} {it a : Addr} {i : Nat} (x : ItB k h it a i) (q : ∀ o, h.get? it = some o → h'.get? it = some o) : ItB k h' it a i := by
  cases k
  · exact Heap.IsListIter.at x q
  · exact Heap.IsTupleIter.at x q
section
variable {X : Cx} {pins : List (Addr × Obj)} {σ : L2.St} {H : Hp} {s : Shared} {a : Addr} {xs ys : List V}
theorem seqB (I : Inv X pins σ H s) {k : Bool} (h : SqB X.K k H a xs) : ∃ its : List Value, Vals xs its ∧ HasB k s.heap a its.toArray := by
  cases k
  · obtain ⟨its, r, p, _⟩ := I.list h
    exact ⟨its, r, p.isList⟩
  · obtain ⟨its, r, p, _⟩ := I.tuple h
    exact ⟨its, r, p⟩
theorem seqB_inj (I : Inv X pins σ H s) {k : Bool} (h : SqB X.K k H a xs) (h' : SqB X.K k H a ys) : xs = ys := by
  cases k
  · exact I.list_inj h h'
  · exact I.tuple_inj h h'
theorem HasB.lt {k : Bool} {h : Heap} {a : Addr} {items : Array Value} (x : HasB k h a items) : a < h.objs.size := by
  cases k
  · obtain ⟨o, e, _⟩ := x
    exact Heap.lt_size e
  · obtain ⟨o, e, _⟩ := x
    exact Heap.lt_size e
end
/-! ### enumerate -/
def IeB (K : PySem.W.Frag) (k : Bool) (a : Addr) : It where
  go := fun i H => ∃ (xs : List V) (x : V), SqB K k H a xs ∧ xs[i]? = some x
  yld := fun i H v H' => ∃ T x, v = .ref T ∧ H T = none ∧ H' = upd H T (.tup [.int (i : Nat), x]) ∧ ∀ xs, SqB K k H a xs → xs[i]? = some x
  stop := fun i H => ∃ xs : List V, SqB K k H a xs ∧ xs.length ≤ i
theorem turn_enumB {P : Program} {w : World} {K : PySem.W.Frag} {elts : List Expr} {kk : Nat} {tpos : Pos} (k : Bool) (a e it : Addr) (hea : e ≠ a) (hai : a ≠ it) (hei : e ≠ it) :
    Turn P w K (.Tuple elts kk tpos) (IeB K k a) [e, it] e (fun i h => (∃ old, IsEnum h e it ((i : Nat) : Int) old) ∧ ItB k h it a i) where
  mem := by simp
  obj := fun i h st b hb => by
    obtain ⟨⟨old, he⟩, hi⟩ := st
    rcases List.mem_cons.mp hb with z | hb
    · subst z
      exact ⟨_, he, fun v q => nomatch q⟩
    · rw [List.mem_singleton.mp hb]
      exact hi.obj
  keep := fun i h h' st q => by
    obtain ⟨⟨old, he⟩, hi⟩ := st
    exact ⟨⟨old, q e (by simp) _ he⟩, hi.at fun o z => q it (by simp) o z⟩
  item := by
    intro X hP hw hK hc i pins s σ H E I hf st hg
    subst hP
    subst hw
    subst hK
    obtain ⟨⟨old, he⟩, hit⟩ := st
    obtain ⟨xs, x, hq, hx⟩ := hg
    obtain ⟨its, rv, p⟩ := seqB I hq
    obtain ⟨u, hu, ru⟩ := rv.get hx
    have hel : e < s.heap.objs.size := Heap.lt_size he
    have hil : it < s.heap.objs.size := by
      obtain ⟨o, q, _⟩ := hit.obj
      exact Heap.lt_size q
    have hlt : i < its.toArray.size := by
      rw [List.size_toArray]
      exact (List.getElem?_eq_some_iff.mp hu).1
    refine wpAny_pyNext_enum_itemD (drawsB (show X.A.in1.handled = none from I.ok.hd hc) k it a hai its.toArray) he ⟨hit, p⟩ hlt hei (by simp [hei, hea]) fun x' h' tk hx' ho hst' hT hsz hk => ?_
    have ex : x' = u := by
      have q : its.toArray[i]? = some u := by simpa using hu
      rw [q] at hx'
      exact (Option.some.inj hx').symm
    subst ex
    refine ⟨_, rfl, wpAny_letOwnedTupleGo_enum (s := { s with heap := h', toks := tk + 1 }) ho fun h'' he' sb => ?_⟩
    have hT2 : h''.get? s.heap.objs.size = some { cls := .type "tuple", data := .seq #[.int i tk, x'] } := (sb.2 _ (Nat.ne_of_gt hel)).trans hT
    have new : ObjOk X.prog X.w (upd H s.heap.objs.size (.tup [.int (i : Nat), x])) h'' s.heap.objs.size (.tup [.int (i : Nat), x]) :=
      ⟨by show 2 ≤ sizeLine; rw [sizeLine_eq]; omega, [.int i tk, x'], .cons ⟨_, rfl⟩ (.cons ru .nil), ⟨_, hT2, rfl, _, rfl⟩⟩
    have I1 : Inv X pins σ (upd H s.heap.objs.size (.tup [.int (i : Nat), x])) { s with heap := h'', toks := tk + 1 } :=
      I.turnedNew (ch := [e, it]) (fun b ob hb q => (sb.2 b fun z => hb (by rw [z]; simp)).trans (hk b ob (fun z => hb (by rw [z]; simp)) (fun z => hb (by rw [z]; simp)) q)) hf (Nat.le_refl _) new
    refine ⟨.ref s.heap.objs.size, _, I1, rfl, ⟨_, x, rfl, I.hok.fresh (Nat.le_refl _), rfl, fun ys hy => by rw [seqB_inj I hy hq]; exact hx⟩, ⟨⟨x', by have q : ((i + 1 : Nat) : Int) = (i : Int) + 1 := (by omega); rw [q]; exact he'⟩, hst'.1.at fun o q => (sb.2 it (Ne.symm hei)).trans q⟩, fun b hb => ?_⟩
    have hb' : b < s.heap.objs.size := by
      rcases List.mem_cons.mp hb with z | hb
      · rw [z]; exact hel
      · rw [List.mem_singleton.mp hb]; exact hil
    rw [upd_ne (Nat.ne_of_lt hb')]
    exact (hf b hb).1
  done := by
    intro X hP hw hK hc i pins s σ H E I hf st hg
    subst hP
    subst hw
    subst hK
    obtain ⟨⟨old, he⟩, hit⟩ := st
    obtain ⟨xs, hq, hx⟩ := hg
    obtain ⟨its, rv, p⟩ := seqB I hq
    obtain ⟨f0, f1, f2, f3, f4, f5⟩ := hf it (by simp)
    have hl : its.toArray.size ≤ i := by rw [List.size_toArray, ← rv.length]; exact hx
    obtain ⟨m, Z, D, hZ, _, hm⟩ := drawsAt (prog := X.prog) (w := X.w) (show X.A.in1.handled = none from I.ok.hd hc) k it a hai its.toArray i
    have him := hm hl
    subst him
    refine wpAny_pyNext_enum_endD D he (hZ _ hit p) fun h' eb => ⟨rfl, I.turned (t' := s.toks) (fun b o hb q => eb b o hb q) f0 f1 f3 f4 f5⟩
  self := fun A i s Q E st h => by
    obtain ⟨⟨_, he⟩, _⟩ := st
    exact wpAny_pyIter_enum he h
def iEnumB (K : PySem.W.Frag) (ta : TA) : TI := fun σ H R => ta σ H fun vs H1 => ∃ a xs k, vs = [.ref a] ∧ SqB K k H1 a xs ∧ R (IeB K k a) H1
theorem pi_enumB {X : Cx} {e : Expr} {ta : TA} {p pos tpos : Pos} {elts : List Expr} {kk : Nat} (hg : Gl X "enumerate") (hm : X.mg "enumerate" = none) (ha : PA X [e] ta) (hs : starEach [e] X.env = [(false, eval e X.env)] := by rfl) :
    PI X (.Tuple elts kk tpos) (.Call (.Name "enumerate" p) [e] [] pos) (iEnumB X.K ta) := by
  refine ⟨fun pins s σ H R I h => ?_⟩
  refine Call_ (ld_blt I hg hm boot_enumerate (PyProof.Rows.callWith_type1 (thn (ha.run pos pins s σ H _ I h) fun us s1 ⟨vs, H1, I1, r1, q1⟩ => ?_) hs rfl))
  obtain ⟨a, xs, k, ex, hq, q⟩ := q1
  subst ex
  cases r1 with
  | cons r rr =>
    cases rr
    cases r
    obtain ⟨its, rv, p'⟩ := seqB I1 hq
    obtain ⟨ob, B, hB⟩ := beginsB k a its.toArray
    have hal := p'.lt
    refine PySem.PLx.enum_begin1 B p' fun h' he ho hsz hk => wpAny_pyIter_enum he ?_
    have I2 : Inv X pins σ H1 { s1 with heap := h' } := I1.kept (t' := s1.toks) hk
    refine ⟨s1.heap.objs.size + 1, [s1.heap.objs.size + 1, s1.heap.objs.size], _, _, H1, rfl, I2, turn_enumB k a (s1.heap.objs.size + 1) s1.heap.objs.size (Nat.ne_of_gt (Nat.lt_succ_of_lt hal)) (Nat.ne_of_lt hal) (Nat.succ_ne_self _), ⟨⟨.none, he⟩, hB _ _ ho⟩, fun b hb => ?_, q⟩
    have hle : s1.heap.objs.size ≤ b := by
      rcases List.mem_cons.mp hb with z | hb
      · rw [z]; omega
      · rw [List.mem_singleton.mp hb]; omega
    exact I1.fpOk hle (I1.hok.fresh hle)
/-! ### zip -/
def IzB (K : PySem.W.Frag) (k l : Bool) (a b : Addr) : It where
  go := fun i H => ∃ (xs ys : List V) (x y : V), SqB K k H a xs ∧ SqB K l H b ys ∧ xs[i]? = some x ∧ ys[i]? = some y
  yld := fun i H v H' => ∃ T x y, v = .ref T ∧ H T = none ∧ H' = upd H T (.tup [x, y]) ∧ (∀ xs, SqB K k H a xs → xs[i]? = some x) ∧ ∀ ys, SqB K l H b ys → ys[i]? = some y
  stop := fun i H => ∃ xs ys : List V, SqB K k H a xs ∧ SqB K l H b ys ∧ (xs.length ≤ i ∨ ys.length ≤ i)
structure Zp (z TI TO i1 i2 a b : Addr) : Prop where
  n1 : TI ≠ z
  n2 : TO ≠ z
  n3 : TI ≠ TO
  n4 : TI ≠ i1
  n5 : TI ≠ i2
  n6 : i1 ≠ z
  n7 : i2 ≠ z
  n8 : i1 ≠ TO
  n9 : i2 ≠ TO
  n10 : i1 ≠ i2
  a1 : a ≠ z ∧ a ≠ TO ∧ a ≠ i1 ∧ a ≠ i2
  b1 : b ≠ z ∧ b ≠ TO ∧ b ≠ i1 ∧ b ≠ i2
theorem zp_new {n a b : Nat} (ha : a < n) (hb : b < n) : Zp (n + 4) (n + 2) (n + 3) n (n + 1) a b := by
  have q : ∀ {i j : Nat}, (i < j ∨ j < i) → i ≠ j := fun h e => by omega
  exact ⟨q (by omega), q (by omega), q (by omega), q (by omega), q (by omega), q (by omega), q (by omega), q (by omega), q (by omega), q (by omega), ⟨q (by omega), q (by omega), q (by omega), q (by omega)⟩, ⟨q (by omega), q (by omega), q (by omega), q (by omega)⟩⟩
theorem Zp.sep {z TI TO i1 i2 a b : Addr} (D : Zp z TI TO i1 i2 a b) : ZipSep2 z TI TO i1 i2 [i1, a] [i2, b] where
  TIz := D.n1
  TOz := D.n2
  TITO := D.n3
  TIi1 := D.n4
  mem1 := by simp
  zf1 := by simp [D.n6.symm, D.a1.1.symm]
  Tf1 := by simp [D.n8.symm, D.a1.2.1.symm]
  TIi2 := D.n5
  mem2 := by simp
  zf2 := by simp [D.n7.symm, D.b1.1.symm]
  Tf2 := by simp [D.n9.symm, D.b1.2.1.symm]
  sep1_2 := by simp [D.n10, D.b1.2.2.1.symm]
  sep2_1 := by simp [D.n10.symm, D.a1.2.2.2.symm]
theorem turn_zipB {P : Program} {w : World} {K : PySem.W.Frag} {elts : List Expr} {kk : Nat} {tpos : Pos} {a b z TI TO i1 i2 : Addr} (k l : Bool) (D : Zp z TI TO i1 i2 a b) :
    Turn P w K (.Tuple elts kk tpos) (IzB K k l a b) [z, TI, TO, i1, i2] z (fun i h => IsZip h z TI TO .none ∧ IsTupOf2 h TI (.ref i1) (.ref i2) ∧ (∃ x y, IsTupOf2 h TO x y) ∧ ItB k h i1 a i ∧ ItB l h i2 b i) where
  mem := by simp
  obj := fun i h st c hc => by
    obtain ⟨hz, hTI, ⟨x, y, hTO⟩, h1, h2⟩ := st
    have e' : c = z ∨ c = TI ∨ c = TO ∨ c = i1 ∨ c = i2 := by simpa using hc
    rcases e' with rfl | rfl | rfl | rfl | rfl
    · exact ⟨_, hz, fun v q => nomatch q⟩
    · exact ⟨_, hTI, fun v q => nomatch q⟩
    · exact ⟨_, hTO, fun v q => nomatch q⟩
    · exact h1.obj
    · exact h2.obj
  keep := fun i h h' st q => by
    obtain ⟨hz, hTI, ⟨x, y, hTO⟩, h1, h2⟩ := st
    exact ⟨q z (by simp) _ hz, q TI (by simp) _ hTI, ⟨x, y, q TO (by simp) _ hTO⟩, h1.at fun o r => q i1 (by simp) o r, h2.at fun o r => q i2 (by simp) o r⟩
  item := by
    intro X hP hw hK hc i pins s σ H E I hf st hg
    subst hP
    subst hw
    subst hK
    obtain ⟨hz, hTI, ⟨x0, y0, hTO⟩, h1, h2⟩ := st
    obtain ⟨xs, ys, x, y, hqx, hqy, hx, hy⟩ := hg
    obtain ⟨its, rv, p⟩ := seqB I hqx
    obtain ⟨its2, rv2, p2⟩ := seqB I hqy
    obtain ⟨u, hu, ru⟩ := rv.get hx
    obtain ⟨u2, hu2, ru2⟩ := rv2.get hy
    have hzl : z < s.heap.objs.size := Heap.lt_size hz
    have l1 : i < its.toArray.size := by rw [List.size_toArray]; exact (List.getElem?_eq_some_iff.mp hu).1
    have l2 : i < its2.toArray.size := by rw [List.size_toArray]; exact (List.getElem?_eq_some_iff.mp hu2).1
    refine wpAny_pyNext_zipD2_item D.sep (drawsB (show X.A.in1.handled = none from I.ok.hd hc) k i1 a D.a1.2.2.1 its.toArray) (drawsB (show X.A.in1.handled = none from I.ok.hd hc) l i2 b D.b1.2.2.2 its2.toArray) hz hTI hTO ⟨h1, p⟩ ⟨h2, p2⟩ l1 l2 fun v1 v2 h' tk e1 e2 z' TO' s1' s2' hT hsz hk => ?_
    have ex1 : v1 = u := by
      have q : its.toArray[i]? = some u := by simpa using hu
      rw [q] at e1
      exact (Option.some.inj e1).symm
    have ex2 : v2 = u2 := by
      have q : its2.toArray[i]? = some u2 := by simpa using hu2
      rw [q] at e2
      exact (Option.some.inj e2).symm
    subst ex1
    subst ex2
    refine ⟨_, rfl, wpAny_letOwnedTupleGo_zip (s := { s with heap := h', toks := tk }) z' fun h'' z'' sb => ?_⟩
    have hT2 : h''.get? s.heap.objs.size = some { cls := .type "tuple", data := .seq #[v1, v2] } := (sb.2 _ (Nat.ne_of_gt hzl)).trans hT
    have new : ObjOk X.prog X.w (upd H s.heap.objs.size (.tup [x, y])) h'' s.heap.objs.size (.tup [x, y]) :=
      ⟨by show 2 ≤ sizeLine; rw [sizeLine_eq]; omega, [v1, v2], .cons ru (.cons ru2 .nil), ⟨_, hT2, rfl, _, rfl⟩⟩
    have I1 : Inv X pins σ (upd H s.heap.objs.size (.tup [x, y])) { s with heap := h'', toks := tk } :=
      I.turnedNew (t' := tk) (ch := [z, TI, TO, i1, i2]) (fun c o hb q => (sb.2 c fun r => hb (by rw [r]; simp)).trans (hk c o (fun r => hb (by rw [r]; simp)) (fun r => hb (by rw [r]; simp)) (fun r => hb (by rw [r]; simp)) (fun r => hb (by rw [r]; simp)) q)) hf (Nat.le_refl _) new
    refine ⟨.ref s.heap.objs.size, _, I1, rfl, ⟨_, x, y, rfl, I.hok.fresh (Nat.le_refl _), rfl, fun m hm => by rw [seqB_inj I hm hqx]; exact hx, fun m hm => by rw [seqB_inj I hm hqy]; exact hy⟩, ⟨z'', ?_, ⟨v1, v2, ?_⟩, ?_, ?_⟩, fun c hcm => ?_⟩
    · exact (sb.2 _ D.n1).trans (hk _ _ D.n1 D.n3 D.n4 D.n5 hTI)
    · exact (sb.2 _ D.n2).trans TO'
    · exact s1'.1.at fun o q => (sb.2 _ D.n6).trans q
    · exact s2'.1.at fun o q => (sb.2 _ D.n7).trans q
    · have hlt : c < s.heap.objs.size := by
        have e' : c = z ∨ c = TI ∨ c = TO ∨ c = i1 ∨ c = i2 := by simpa using hcm
        rcases e' with rfl | rfl | rfl | rfl | rfl
        · exact hzl
        · exact Heap.lt_size hTI
        · exact Heap.lt_size hTO
        · obtain ⟨_, q, _⟩ := h1.obj
          exact Heap.lt_size q
        · obtain ⟨_, q, _⟩ := h2.obj
          exact Heap.lt_size q
      rw [upd_ne (Nat.ne_of_lt hlt)]
      exact (hf c hcm).1
  done := by
    intro X hP hw hK hc i pins s σ H E I hf st hg
    subst hP
    subst hw
    subst hK
    obtain ⟨hz, hTI, ⟨x0, y0, hTO⟩, h1, h2⟩ := st
    obtain ⟨xs, ys, hqx, hqy, hend⟩ := hg
    obtain ⟨its, rv, p⟩ := seqB I hqx
    obtain ⟨its2, rv2, p2⟩ := seqB I hqy
    have m1 : its.toArray.size = xs.length := by rw [List.size_toArray, rv.length]
    have m2 : its2.toArray.size = ys.length := by rw [List.size_toArray, rv2.length]
    obtain ⟨m, Z, D1, hZ1, le1, hm1⟩ := drawsAt (prog := X.prog) (w := X.w) (show X.A.in1.handled = none from I.ok.hd hc) k i1 a D.a1.2.2.1 its.toArray i
    obtain ⟨m', Z', D2, hZ2, le2, hm2⟩ := drawsAt (prog := X.prog) (w := X.w) (show X.A.in1.handled = none from I.ok.hd hc) l i2 b D.b1.2.2.2 its2.toArray i
    exact wpAny_pyNext_zipD2_end D.sep D1 D2 hz hTI hTO (hZ1 _ h1 p) (hZ2 _ h2 p2) le1 le2 (by
      rcases hend with q | q
      · exact .inl (hm1 (by omega))
      · exact .inr (hm2 (by omega))) fun h' tk hk => ⟨rfl, I.turnedL (t' := tk) (ch := [z, TI, TO, i1, i2]) (fun c o hb q =>
      hk c o (fun r => hb (by rw [r]; simp)) (fun r => hb (by rw [r]; simp)) (fun r => hb (by rw [r]; simp)) (fun r => hb (by rw [r]; simp)) q) hf⟩
  self := fun A i s Q E st h => wpAny_pyIter_zip st.1 h
def iZipB (K : PySem.W.Frag) (ta : TA) : TI := fun σ H R => ta σ H fun vs H1 => ∃ a b xs ys k l, vs = [.ref a, .ref b] ∧ SqB K k H1 a xs ∧ SqB K l H1 b ys ∧ R (IzB K k l a b) H1
theorem pi_zipB {X : Cx} {e e2 : Expr} {ta : TA} {p pos tpos : Pos} {elts : List Expr} {kk : Nat} (hg : Gl X "zip") (hm : X.mg "zip" = none) (ha : PA X [e, e2] ta)
    (hs : starEach [e, e2] X.env = (false, eval e X.env) :: starEach [e2] X.env := by rfl) (hpl : (backTo pos (starEach [e2] X.env)).any (·.1) = false := by rfl) :
    PI X (.Tuple elts kk tpos) (.Call (.Name "zip" p) [e, e2] [] pos) (iZipB X.K ta) := by
  refine ⟨fun pins s σ H R I h => ?_⟩
  refine Call_ (ld_blt I hg hm PyProof.Rows.boot_zip (PyProof.Rows.callWith_type1 (thn (ha.run pos pins s σ H _ I h) fun us s1 ⟨vs, H1, I1, r1, q1⟩ => ?_) hs hpl))
  obtain ⟨a, b, xs, ys, k, l, ex, hqx, hqy, q⟩ := q1
  subst ex
  cases r1 with
  | cons r rr =>
    cases rr with
    | cons r' rr =>
      cases rr
      cases r
      cases r'
      obtain ⟨its, rv, p1⟩ := seqB I1 hqx
      obtain ⟨its2, rv2, p2⟩ := seqB I1 hqy
      obtain ⟨o1, B1, hB1⟩ := beginsB k a its.toArray
      obtain ⟨o2, B2, hB2⟩ := beginsB l b its2.toArray
      have la := p1.lt
      have lb := p2.lt
      refine zip_begins2 B1 B2 p1 p2 fun h' hz hTI hTO g1 g2 hsz hk => wpAny_pyIter_zip hz ?_
      have I2 : Inv X pins σ H1 { s1 with heap := h' } := I1.kept (t' := s1.toks) hk
      refine ⟨s1.heap.objs.size + 4, [s1.heap.objs.size + 4, s1.heap.objs.size + 2, s1.heap.objs.size + 3, s1.heap.objs.size, s1.heap.objs.size + 1], _, _, H1, rfl, I2, turn_zipB k l (zp_new la lb), ⟨hz, hTI, ⟨_, _, hTO⟩, hB1 _ _ g1, hB2 _ _ g2⟩, fun c hcm => ?_, q⟩
      have hle : s1.heap.objs.size ≤ c := by
        have e' : c = s1.heap.objs.size + 4 ∨ c = s1.heap.objs.size + 2 ∨ c = s1.heap.objs.size + 3 ∨ c = s1.heap.objs.size ∨ c = s1.heap.objs.size + 1 := by simpa using hcm
        rcases e' with q | q | q | q | q <;> (rw [q]; first | exact Nat.le_refl _ | exact Nat.le_add_right _ _)
      exact I1.fpOk hle (I1.hok.fresh hle)
end PL

set_option maxHeartbeats 4000000
/-! PP: zip, enumerate, *xs in a tuple, xs.index(b), list(range(n)), a try whose body raises nothing. -/
namespace PL
open PySem PySem.Spec PyProof.Rows L2
section
variable {W : Type} {X : Cx} {G : Gm W} {E : XK} {e a b l : Expr} {es : List Expr} {fa fb : Rho → M W T} {fr : Rho → M W (List T)} {pos : Pos} {F : Hp}
/-- a deep list or tuple -/
theorem seqB_of {K : PySem.W.Frag} {v : V} {t : T} {ts : List T} (r : Rep K F v t) (h : itemsT t = some ts) : ∃ p vs k, v = .ref p ∧ Reps K F vs ts ∧ ∀ (H F' : Hp) (ρ : Rho) (w : W) (σ : L2.St), Same F F' → Sd K G ρ w σ H F' → SqB K k H p vs := by
  cases t with
  | lst us =>
    cases h
    obtain ⟨p, vs, rfl, hF, rs⟩ := r.lst_inv
    exact ⟨p, vs, false, rfl, rs, fun H F' ρ w σ s S => SqL.of (S.sub _ _ (s _ _ hF))⟩
  | tup us =>
    cases h
    obtain ⟨p, vs, rfl, hF, rs⟩ := r.tup_inv
    exact ⟨p, vs, true, rfl, rs, fun H F' ρ w σ s S => Same.seqT (s.trans S.sub) hF⟩
  | _ => cases h
def enumTs : Nat → List T → List T
  | _, [] => []
  | k, t :: ts => .tup [.int (k : Nat), t] :: enumTs (k + 1) ts
theorem enumTs_get : ∀ (ts : List T) (k i : Nat), (enumTs k ts)[i]? = ts[i]?.map fun t => T.tup [.int ((k + i : Nat) : Int), t]
  | [], _, _ => by simp [enumTs]
  | t :: ts, k, 0 => by simp [enumTs]
  | t :: ts, k, i + 1 => by
    rw [enumTs, List.getElem?_cons_succ, List.getElem?_cons_succ, enumTs_get ts (k + 1) i]
    have : k + 1 + i = k + (i + 1) := by omega
    rw [this]
theorem enumTs_len : ∀ (ts : List T) (k : Nat), (enumTs k ts).length = ts.length
  | [], _ => rfl
  | t :: ts, k => by rw [enumTs, List.length_cons, List.length_cons, enumTs_len ts]
theorem walks_enum {K : PySem.W.Frag} {p : Addr} {vs : List V} {ts : List T} {k : Bool} (r : Reps K F vs ts) (hq : ∀ (H F' : Hp) (ρ : Rho) (w : W) (σ : L2.St), Same F F' → Sd K G ρ w σ H F' → SqB K k H p vs) : Walks K G (IeB K k p) F (enumTs 0 ts) := by
  refine ⟨fun i ρ w σ H F' s S t ht => ?_, fun i ρ w σ H F' s S hl => ⟨vs, hq H F' ρ w σ s S, by rw [enumTs_len] at hl; rw [r.length]; exact hl⟩⟩
  rw [enumTs_get] at ht
  obtain ⟨u, hu, rfl⟩ := Option.map_eq_some_iff.mp ht
  obtain ⟨v, hv, rv⟩ := r.get hu
  have hs := hq H F' ρ w σ s S
  refine ⟨⟨vs, v, hs, hv⟩, fun x H' hy => ?_⟩
  obtain ⟨Tn, y, rfl, hT, rfl, hall⟩ := hy
  have ey : y = v := by
    have := hall vs hs
    rw [hv] at this
    exact (Option.some.inj this).symm
  subst ey
  refine ⟨_, .laidF S hT, S.laidF hT, .tup (.of upd_same) ?_⟩
  have ez : ((0 + i : Nat) : Int) = ((i : Nat) : Int) := by omega
  rw [ez]
  exact .cons (.int _) (.cons ((rv.mono s).mono (Same.updN (S.sub.free hT))) .nil)
def fEnum (fa : Rho → M W T) : Rho → M W (List T) := fun ρ => bnd (fa ρ) fun t => bnd (lift (itemsT t)) fun ts => ret (enumTs 0 ts)
theorem pit_enum {elts : List Expr} {kk : Nat} {tpos p : Pos} (hg : Gl X "enumerate") (hm : X.mg "enumerate" = none) (ha : PV X G E l fa) (hs : starEach [l] X.env = [(false, eval l X.env)] := by rfl) (hs1 : starEach [l] X.env = (false, eval l X.env) :: starEach [] X.env := by rfl) :
    PIt X G E (.Tuple elts kk tpos) (.Call (.Name "enumerate" p) [l] [] pos) (fEnum fa) := ⟨(pi_enumB hg hm (pa_cons ha.run pa_nil hs1) hs).imp fun σ H R => by
  rintro ⟨ρ, w, F, r, w', S, hf, acc⟩
  have er : ∀ e, r = .er e → AccE X.K G E F e w' := fun e q => by subst q; exact acc
  refine tV.bind (X := X) S hf er fun t w1 v H1 F1 S1 s1 r1 hk => ?_
  rcases bnd_inv hk with ⟨ts, w2, h1, h2⟩ | ⟨e, h1, _⟩
  · obtain ⟨us, hz, hr, rfl⟩ := lift_inv h1
    cases hr
    obtain ⟨rfl, rfl⟩ := ret_inv h2
    obtain ⟨q, vs, k, rfl, rs, hq⟩ := seqB_of (G := G) r1 hz
    exact ⟨q, vs, k, rfl, hq H1 F1 ρ _ σ (Same.refl F1) S1, acc _ H1 F1 S1 s1 (walks_enum rs hq)⟩
  · obtain ⟨us, hz, hr, _⟩ := lift_inv h1
    cases hr⟩
def zipTs (ts us : List T) : List T := (ts.zip us).map fun p => .tup [p.1, p.2]
theorem walks_zip {K : PySem.W.Frag} {p q : Addr} {vs ws : List V} {ts us : List T} {k j : Bool} (r1 : Reps K F vs ts) (r2 : Reps K F ws us) (h1 : ∀ (H F' : Hp) (ρ : Rho) (w : W) (σ : L2.St), Same F F' → Sd K G ρ w σ H F' → SqB K k H p vs) (h2 : ∀ (H F' : Hp) (ρ : Rho) (w : W) (σ : L2.St), Same F F' → Sd K G ρ w σ H F' → SqB K j H q ws) :
    Walks K G (IzB K k j p q) F (zipTs ts us) := by
  refine ⟨fun i ρ w σ H F' s S t ht => ?_, fun i ρ w σ H F' s S hl => ⟨vs, ws, h1 H F' ρ w σ s S, h2 H F' ρ w σ s S, by unfold zipTs at hl; rw [List.length_map, List.length_zip] at hl; rw [r1.length, r2.length]; omega⟩⟩
  unfold zipTs at ht
  rw [List.getElem?_map] at ht
  obtain ⟨⟨t1, t2⟩, hu, rfl⟩ := Option.map_eq_some_iff.mp ht
  obtain ⟨hu1, hu2⟩ := List.getElem?_zip_eq_some.mp hu
  obtain ⟨v, hv, rv⟩ := r1.get hu1
  obtain ⟨x, hx, rx⟩ := r2.get hu2
  have hs1 := h1 H F' ρ w σ s S
  have hs2 := h2 H F' ρ w σ s S
  refine ⟨⟨vs, ws, v, x, hs1, hs2, hv, hx⟩, fun y H' hy => ?_⟩
  obtain ⟨Tn, y1, y2, rfl, hT, rfl, all1, all2⟩ := hy
  have e1 : y1 = v := by
    have := all1 vs hs1
    rw [hv] at this
    exact (Option.some.inj this).symm
  have e2 : y2 = x := by
    have := all2 ws hs2
    rw [hx] at this
    exact (Option.some.inj this).symm
  subst e1
  subst e2
  have m := Same.updN (o := .tup [y1, y2]) (S.sub.free hT)
  exact ⟨_, .laidF S hT, S.laidF hT, .tup (.of upd_same) (.cons ((rv.mono s).mono m) (.cons ((rx.mono s).mono m) .nil))⟩
def fZip (fa fb : Rho → M W T) : Rho → M W (List T) := fun ρ => bnd (fa ρ) fun t => bnd (fb ρ) fun u => bnd (lift (itemsT t)) fun ts => bnd (lift (itemsT u)) fun us => ret (zipTs ts us)
theorem pit_zip {elts : List Expr} {kk : Nat} {tpos p : Pos} (hg : Gl X "zip") (hm : X.mg "zip" = none) (ha : PV X G E a fa) (hb : PV X G E b fb) (hs : starEach [a, b] X.env = (false, eval a X.env) :: starEach [b] X.env := by rfl) (hs1 : starEach [b] X.env = (false, eval b X.env) :: starEach [] X.env := by rfl) (hpl : (backTo pos (starEach [b] X.env)).any (·.1) = false := by rfl) :
    PIt X G E (.Tuple elts kk tpos) (.Call (.Name "zip" p) [a, b] [] pos) (fZip fa fb) := ⟨(pi_zipB hg hm (pa_cons ha.run (pa_cons hb.run pa_nil hs1) hs) hs hpl).imp fun σ H R => by
  rintro ⟨ρ, w, F, r, w', S, hf, acc⟩
  have er : ∀ {F1 : Hp}, Same F F1 → ∀ e, r = .er e → AccE X.K G E F1 e w' := fun s e q => by subst q; exact AccE.mono (X := X) acc s
  refine tV.bind (X := X) S hf (er (Same.refl F)) fun t w1 v H1 F1 S1 s1 r1 hk => ?_
  refine tV.bind (X := X) S1 hk (er s1.same) fun u w2 x H2 F2 S2 s2 r2 hk2 => ?_
  rcases bnd_inv hk2 with ⟨ts, w3, h1, h2⟩ | ⟨e, h1, _⟩
  · obtain ⟨ys, hz, hr, rfl⟩ := lift_inv h1
    cases hr
    rcases bnd_inv h2 with ⟨us, w4, h3, h4⟩ | ⟨e, h3, _⟩
    · obtain ⟨zs, hz2, hr2, rfl⟩ := lift_inv h3
      cases hr2
      obtain ⟨rfl, rfl⟩ := ret_inv h4
      obtain ⟨p1, vs, k, rfl, rs, hq⟩ := seqB_of (G := G) (r1.mono s2.same) hz
      obtain ⟨p2, ws, j, rfl, rs2, hq2⟩ := seqB_of (G := G) r2 hz2
      exact ⟨p1, p2, vs, ws, k, j, rfl, hq H2 F2 ρ _ σ (Same.refl F2) S2, hq2 H2 F2 ρ _ σ (Same.refl F2) S2, acc _ H2 F2 S2 (s1.trans s2 S1.dH) (walks_zip rs rs2 hq hq2)⟩
    · obtain ⟨zs, hz2, hr2, _⟩ := lift_inv h3
      cases hr2
  · obtain ⟨ys, hz, hr, _⟩ := lift_inv h1
    cases hr⟩
end
end PL

set_option maxHeartbeats 4000000
/-! PQ: *xs in a tuple, xs.index(b), list(range(n)), a try whose body raises nothing. -/
namespace PL
open PySem PySem.Spec PyProof.Rows L2
section
variable {W : Type} {X : Cx} {G : Gm W} {E : XK} {e a b l o : Expr} {es : List Expr} {fa fb : Rho → M W T} {fr : Rho → M W (List T)} {pos : Pos}
def aStar (fa : Rho → M W T) (fr : Rho → M W (List T)) : Rho → M W (List T) := fun ρ => bnd (fa ρ) fun t => bnd (lift (itemsT t)) fun us => bnd (fr ρ) fun zs => ret (us ++ zs)
theorem pas_star {p : Pos} (ha : PV X G E e fa) (hr : PAs X G E es fr) (hs : starEach (.Starred e p :: es) X.env = (true, eval e X.env) :: starEach es X.env := by rfl) : PAs X G E (.Starred e p :: es) (aStar fa fr) := ⟨(StX.pa_star ha.run hr.run hs).imp fun σ H Q => by
  rintro ⟨ρ, w, F, r, w', S, hf, acc⟩
  refine tV.bind (X := X) S hf acc.er fun t w1 x H1 F1 S1 s1 r1 hk => ?_
  rcases bnd_inv hk with ⟨us, w2, h1, h2⟩ | ⟨e, h1, _⟩
  · obtain ⟨ys, hz, hr1, rfl⟩ := lift_inv h1
    cases hr1
    obtain ⟨q, vs, k, rfl, rs, hq⟩ := seqB_of (G := G) r1 hz
    have hs := hq H1 F1 ρ _ σ (Same.refl F1) S1
    refine ⟨q, vs, rfl, ?_, ?_⟩
    · cases k
      · exact .inr hs
      · exact .inl hs
    · refine tA.bind (X := X) S1 h2 (acc.mono s1 S1.dH).er fun ts w2 ws H2 F2 S2 s2 r2 hk => ?_
      obtain ⟨rfl, rfl⟩ := ret_inv hk
      exact acc (vs ++ ws) H2 F2 S2 (s1.trans s2 S1.dH) ((rs.mono s2.same).append r2)
  · obtain ⟨ys, hz, hr1, _⟩ := lift_inv h1
    cases hr1⟩
/-! ### xs.index(b), b True or False -/
def indexT : T → T → Option T
  | .lst ts, .bl b => (boolsT ts).bind fun bs => if b ∈ bs ∧ bs.length ≤ 1000 then some (.int ((bs.idxOf b : Nat) : Int)) else none
  | _, _ => none
theorem idx_first : ∀ (bs : List Bool) (b : Bool), b ∈ bs → bs[bs.idxOf b]? = some b ∧ ∀ m c, m < bs.idxOf b → bs[m]? = some c → (c == b) = false
  | [], b, h => by cases h
  | c :: bs, b, h => by
    by_cases hc : c = b
    · subst hc
      rw [List.idxOf_cons_self]
      exact ⟨rfl, fun m d hm => by omega⟩
    · have hb : b ∈ bs := by
        rcases List.mem_cons.mp h with z | z
        · exact absurd z.symm hc
        · exact z
      obtain ⟨h1, h2⟩ := idx_first bs b hb
      have hcb : (c == b) = false := by simpa using hc
      have e : (c :: bs).idxOf b = bs.idxOf b + 1 := by rw [List.idxOf_cons, hcb]; rfl
      rw [e]
      refine ⟨by rw [List.getElem?_cons_succ]; exact h1, fun m d hm hd => ?_⟩
      cases m with
      | zero =>
        have : c = d := by simpa using hd
        rw [← this]
        simpa using hc
      | succ m =>
        rw [List.getElem?_cons_succ] at hd
        exact h2 m d (by omega) hd
def fIndex (fa fb : Rho → M W T) : Rho → M W T := fun ρ => bnd (fa ρ) fun t => bnd (lstM t) fun ts => bnd (fb ρ) fun u => lift (indexT (.lst ts) u)
theorem pv_index {apos : Pos} (ha : PV X G E o fa) (hb : PV X G E e fb) (hs : starEach [e] X.env = (false, eval e X.env) :: starEach [] X.env := by rfl)
    (hpe : ∀ {te ta : TE}, PE X o te → PE X e ta → PE X (.Call (.Attribute o "index" apos) [e] [] pos) (tBM X.K "list" (rIndex X.K) te (tCons ta tNil))) :
    PV X G E (.Call (.Attribute o "index" apos) [e] [] pos) (fIndex fa fb) := ⟨(hpe ha.run hb.run).imp fun σ H Q => by
  rintro ⟨ρ, w, F, r, w', S, hf, acc⟩
  refine tV.bind (X := X) S hf acc.er fun t w1 x H1 F1 S1 s1 r1 hk => ?_
  obtain ⟨ts, rfl, hk⟩ := lstM_bnd hk
  obtain ⟨p, vs, rfl, hF, rs⟩ := r1.lst_inv
  refine ⟨.inl ⟨rfl, vs, .of (S1.sub _ _ hF)⟩, ?_⟩
  refine tV.bind (X := X) S1 hk (acc.mono s1 S1.dH).er fun u w2 y H2 F2 S2 s2 r2 hk2 => ?_
  obtain ⟨z, hz, rfl, rfl⟩ := lift_inv hk2
  cases u with
  | bl b =>
    obtain ⟨bs, hbs, hz⟩ := Option.bind_eq_some_iff.mp (show (boolsT ts).bind _ = some z from hz)
    split at hz
    · rename_i hb2
      cases hz
      obtain rfl := r2.bl_inv
      have hv := rs.bools hbs
      subst hv
      obtain ⟨i1, i2⟩ := idx_first bs b hb2.1
      refine ⟨p, bs.map V.bl, .bl b, bs.idxOf b, .bl b, rfl, rfl, .of (S2.sub _ _ (s2.same _ _ hF)), rfl, ?_, by rw [List.getElem?_map, i1]; rfl, ?_, fun m z' hm hz' => ?_, acc _ H2 F2 S2 (s1.trans s2 S1.dH) (.int _)⟩
      · rw [List.all_eq_true]
        intro v hv
        obtain ⟨c, _, rfl⟩ := List.mem_map.mp hv
        rfl
      · show (b == b) = true
        simp
      · rw [List.getElem?_map] at hz'
        obtain ⟨c, hc, rfl⟩ := Option.map_eq_some_iff.mp hz'
        exact i2 m c hm hc
    · cases hz
  | _ => cases hz⟩
/-! ### list(range(n)) -/
def fListR (fa : Rho → M W T) : Rho → M W (List T) := fun ρ => bnd (fa ρ) fun t => bnd (intM t) fun j => if 0 ≤ j ∧ j ≤ 1000 then ret (intsT 0 j.toNat) else stuck
theorem reps_rg {K : PySem.W.Frag} {F : Hp} (j : Int) : Reps K F (rgV 0 j) (intsT 0 j.toNat) := by
  unfold rgV intsT
  rw [Int.sub_zero]
  generalize List.range j.toNat = l
  induction l with
  | nil => exact .nil
  | cons i l ih => exact .cons (.int _) ih
theorem pf_listR {p p2 pos2 : Pos} (hc : X.calm = true) (hg : Gl X "list") (hm : X.mg "list" = none) (hg2 : Gl X "range") (hm2 : X.mg "range" = none) (ha : PV X G E a fa)
    (na : starEach [a] X.env = (false, eval a X.env) :: starEach [] X.env := by rfl) (na2 : starEach [.Call (.Name "range" p2) [a] [] pos2] X.env = (false, eval (.Call (.Name "range" p2) [a] [] pos2) X.env) :: starEach [] X.env := by rfl) :
    PF X G E (.Call (.Name "list" p) [.Call (.Name "range" p2) [a] [] pos2] [] pos) (fListR fa) := ⟨(pe_listRg hc hg hm (prg_1 hg2 hm2 ha.run na) na2).imp fun σ H Q => by
  rintro ⟨ρ, w, F, r, w', S, hf, acc⟩
  refine tV.bind (X := X) S hf acc.er fun t w1 x H1 F1 S1 s1 r1 hk => ?_
  obtain ⟨j, rfl, hk2⟩ := intM_bnd hk
  split at hk2
  · rename_i hj
    obtain ⟨rfl, rfl⟩ := ret_inv hk2
    obtain rfl := r1.int_inv
    exact ⟨j, rfl, .of_le (Int.le_refl _) (by omega) (by omega) hj.1, fun p hp => acc p _ _ F1 (S1.laid hp) (s1.trans (.laid hp) S1.dH) (s1.free0 S1.dH hp) upd_same (S1.sub.free hp) (S1.fresh hp).2.1 (S1.noSlot hp) (reps_rg j)⟩
  · cases hk2⟩
/-! ### a try whose body raises nothing -/
def dTryN (g : Rho → M W Fl) : Rho → M W Fl := fun ρ => noEr (g ρ)
theorem pd_tryN {body : List Stmt} {h₀ : ExceptHandler} {hs : List ExceptHandler} {g : Rho → M W Fl} (hb : PDs X.nox G (fun _ _ _ => False) body g) : PD X G E (.Try body (h₀ :: hs) [] [] pos) (dTryN g) := ⟨(ps_try_thru0 hb.run).imp fun D σ H => by
  rintro ⟨ρ, w, F, r, w', S, hf, acc⟩
  obtain ⟨f, rfl, h⟩ := noEr_inv hf
  exact ⟨ρ, w, F, .ok f, w', S, h, by cases f <;> exact acc⟩⟩
theorem passN : Passes (L2.CX X.prog X.w) X.nox (fun _ _ _ => False) := passes_call (X := X.nox) (W := fun _ _ _ _ => False) (fun u s' h => by
  obtain ⟨_, _, _, _, _, _, _, _, _, _, _, _, _, _, _, _, z⟩ := h
  exact z) fun _ _ _ _ h => h
end
end PL

set_option maxHeartbeats 4000000
/-! PRa: an own exception whose __init__ says super().__init__(text), then self.f = e. -/
namespace PL
open PySem PySem.Spec PyProof.Rows L2
/-- the context of such an __init__ -/
def supCx (CX : CXT) (P : Program) (w : World) (K : PySem.W.Frag) (mg : Str → Option Value) (base : Heap) (N : List Str) (qual : Str) (scope : Scope) (f : Addr) (cd : Value) (cc : Addr) (A : Around) (outer : List Env) (s : Shared) (H : Hp) (E : XK) : Cx where
  prog := P
  w := w
  K := K
  mg := mg
  base := base
  A := A.deeper (PySem.W.ksEnv qual scope s.heap.objs.size f cd cc)
  N := N
  s_0 := s
  H_0 := H
  env := PySem.W.ksEnv qual scope s.heap.objs.size f cd cc
  outer := outer
  stack := PySem.W.ksEnv qual scope s.heap.objs.size f cd cc :: outer
  ex := []
  calm := true
  fn := fun _ => false
  pn := []
  xe := fun e s' => wpAny (model P w) (A.deeper (PySem.W.ksEnv qual scope s.heap.objs.size f cd cc)) (leaving (PySem.W.ksEnv qual scope s.heap.objs.size f cd cc) e) (fun _ s'' => CX outer H s E e s'') (fun e' s'' => CX outer H s E e' s'') s'
theorem sup_start {CX : CXT} {P : Program} {w : World} {K : PySem.W.Frag} {mg : Str → Option Value} {base : Heap} {qual x y : Str} {scope : Scope} {f cc : Addr} {cd : Value} {A : Around} {outer : List Env} {s : Shared} {H : Hp} {E : XK} {u1 u2 : Value} {v1 v2 : V} {h₀ : Heap} {tk : Nat} {oc : Obj} {cv : Option Value}
    (hd : A.handled = none) (e0 : Env0 P w K mg base A outer s H) (r1 : L2.RelV v1 u1) (r2 : L2.RelV v2 u2) (nxy : x ≠ y) (kind : scope.kind = .function) (hx : scope.names.lookup x = some .local) (hy : scope.names.lookup y = some .local)
    (hcells : ∀ z ∈ scope.names, z.2 ≠ .cell ∧ (z.2 = .free → z.1 = "__class__")) (hcc : K.lookup cc = some oc) (hoc : oc.data = .cell cv)
    (hns : h₀.Ns s.heap.objs.size (fun z => ([(x, u1), (y, u2)] : List (Str × Value)).reverse.lookup z)) (hk : ∀ b o, s.heap.get? b = some o → h₀.get? b = some o) :
    Inv (supCx CX P w K mg base [x, y] qual scope f cd cc A outer s H E) [] [some v1, some v2] H { s with heap := h₀, toks := tk } := by
  have bcc := e0.mod.kin _ _ hcc
  obtain ⟨scc, ncc⟩ := e0.bs _ _ bcc
  have noA : ∀ b : Addr, b ∉ (supCx CX P w K mg base [x, y] qual scope f cd cc A outer s H E).ex := fun b z => absurd (show b ∈ ([] : List Addr) from z) (by simp)
  have lk : ∀ {z c}, (supCx CX P w K mg base [x, y] qual scope f cd cc A outer s H E).env.cells.lookup z = some c → z = "__class__" ∧ c = cc := fun {z c} e => by
    have e : ([("__class__", cc)] : List (Str × Addr)).lookup z = some c := e
    have hm := PySem.mem_of_lookup e
    simp only [List.mem_singleton, Prod.mk.injEq] at hm
    exact hm
  refine ⟨⟨e0.mod, kind, rfl, rfl, Nat.le_refl _, fun z z' c h1 h2 => (lk h1).1.trans (lk h2).1.symm, fun z hz => ?_, fun z c hf _ => (by cases (show false = true from hf)), fun _ => hd, Around.frames_deeper e0.frames, .inr ⟨rfl, rfl⟩, fun b z => absurd z (noA b), e0.bs, e0.bsz, fun b _ _ => noA b, fun b z => absurd z (noA b), e0.funs, e0.frf⟩,
    rfl, e0.bare, Un.kept hk, ⟨_, hns, fun i z v h1 h2 h3 => ?_⟩, fun z c h => ?_, e0.hok.fresh (Nat.le_refl _), fun z c h => ?_, fun p hp => absurd (show p ∈ ([] : List (Addr × Obj)) ++ [] from hp) (by simp), e0.hok.kept hk, rfl⟩
  · have hz : scope.names.lookup z = some .cell ∨ scope.names.lookup z = some .free := hz
    rcases hz with hz | hz
    · exact absurd rfl (hcells _ (PySem.mem_of_lookup hz)).1
    · have := (hcells _ (PySem.mem_of_lookup hz)).2 rfl
      exact ⟨cc, by show ([("__class__", cc)] : List (Str × Addr)).lookup z = some cc; rw [show z = "__class__" from this]; rfl⟩
  · match i, h1, h2 with
    | 0, h1, h2 =>
      cases h1
      cases h2
      exact ⟨u1, r1, .inl ⟨hx, by
        show ([(y, u2), (x, u1)] : List (Str × Value)).lookup x = some u1
        rw [List.lookup_cons, show (x == y) = false from beq_false_of_ne nxy]
        show ([(x, u1)] : List (Str × Value)).lookup x = some u1
        rw [List.lookup_cons, beq_self_eq_true]⟩⟩
    | 1, h1, h2 =>
      cases h1
      cases h2
      exact ⟨u2, r2, .inl ⟨hy, by
        show ([(y, u2), (x, u1)] : List (Str × Value)).lookup y = some u2
        rw [List.lookup_cons, beq_self_eq_true]⟩⟩
    | i + 2, h1, h2 => cases h1
  · obtain ⟨_, rfl⟩ := lk h
    exact ⟨cv, oc, hk _ _ scc, hoc⟩
  · obtain ⟨_, rfl⟩ := lk h
    exact ncc
section
variable {X : Cx} {pins : List (Addr × Obj)} {σ : L2.St} {H : Hp} {s : Shared} {a C u : Addr}
/-- ValueError.__init__ bound to the exception that is being made, called -/
theorem bwinit_ok {A : Around} {E : Value → Shared → Prop} {us : List Value} {Q : Value → Shared → Prop} (T : OexC X.K C) (I : Inv X pins σ H s) (e : H a = some (exo a C none)) (hu : s.heap.get? u = some (PySem.W.kxs_mw "ValueError.__init__" a)) (hl : us.length ≤ sizeLine) (h : ∀ s', Inv X pins σ H s' → Q .none s') :
    wpAny (model X.prog X.w) A (call (.ref u) us) Q E s := by
  obtain ⟨nm, q, N, bs, bm, sn, sub, ab, col, dd, k0, k1, k2, k3, k5, hC, hbm⟩ := T.cls
  obtain ⟨t1, ho⟩ := exo_at I.hok e
  have hCh := I.kIn _ _ hC
  have FB := PySem.F.excBase_ValueError
  obtain ⟨hp, g, d, t, os⟩ := s
  refine wpAny_call (codeAny_of_tree ?_)
  show wpAny _ A.in1 (callAny (.ref u) ⟨us, []⟩) _ _ _
  simp only [callAny]
  refine wpAny_bind (wpAny_load hu ?_)
  simp only [PySem.W.kxs_mw, show (Value.type "method-wrapper" == Value.type "method" || Value.type "method-wrapper" == Value.type "builtin_function_or_method" || Value.type "method-wrapper" == Value.type "method-wrapper") = true by decide, if_true]
  refine PySem.W.KFB.if_so (by decide) ?_
  refine wpAny_bind (PySem.W.check_bound_init FB.toExcCallFacts hCh ho rfl ?_)
  refine wpAny_bind (wpAny_pure (wpAny_pure ?_))
  refine ⟨plainId_quiet FB.init.plain _, codeAny_builtin FB.initEntry ?_⟩
  refine PySem.W.exc_init_tree (cls := .ref C) (t0 := t1) (dv := none) (c2 := .none) (c3 := .none) (b4 := .bool false) ho hl fun h' k hx _ => ?_
  have J := I.write (t' := t) (x := a) (e := a) (o := exo a C none) (by rw [e]; exact True.intro) (.inl rfl) k ⟨_, hx⟩ (exo_ok hx)
  have eu : upd H a (exo a C none) = H := by
    funext b
    by_cases hb : b = a
    · rw [hb, upd_same, e]
    · rw [upd_ne hb]
  rw [eu] at J
  exact h _ J
end

/-- what such an __init__ promises -/
def spX (C : Addr) (fld : Str) : Sp := fun vs H Q _ => ∃ a v, vs = [.ref a, v] ∧ H a = some (exo a C none) ∧ ∀ dx, H dx = none → dx ≠ a → Q .non (upd (upd H dx (exd dx [(fld, v)])) a (exo a C (some dx)))
/-- the class's facts, for super() -/
structure SupT (P : Program) (K : PySem.W.Frag) (mg : Str → Option Value) (C : Addr) (fld : Str) : Prop where
  T : OexC K C
  no : PySem.W.findIn K (.ref C) fld = some none
  sup : PySem.W.ks_superIn K C C "__init__" = some (some (.builtin "ValueError.__init__"))
  val : PySem.W.subIn K (.ref C) (.type "ValueError") = some true
  own : PySem.W.mroIn K C (.ref C) = some true
  third : PySem.W.nsIn K cStatics "thirdparty.any" = some none
  glob : mg "super" = none
  top : (P.main.scope.names.lookup ("super" : Str)).isSome = false
theorem boot_super : bootBuiltins "super" = some (.type "super") := by decide +kernel
theorem xinit_ok {CX : CXT} {P : Program} {w : World} {K : PySem.W.Frag} {mg : Str → Option Value} {base : Heap} {C fI cc cda : Addr} {name qual fld : Str} {params : Arguments} {scope : Scope} {dV kV doc pm ct oc : Value} {an od : Option Addr} {osl : Array (Option Value)}
    {msg : Str} {j : Nat} {p0 p1 p2 p3 p4 p5 q1 q2 q3 q4 : Pos} {ccl cl : Value} {cdd cld : Option Addr} {vs : Array Value} {file : Str} {tf : Tok} {ccs csl : Array (Option Value)} {ar : Arg}
    (S : SupT P K mg C fld)
    (lk : K.lookup fI = some ⟨oc, od, .func (PySem.W.ksFn name qual params [.Expr (.Call (.Attribute (.Call (.Name "super" p0) [] [] p1) "__init__" p2) [.Constant (.str msg) j p3] [] p4) p5, .Assign [.Attribute (.Name "self" q1) fld q2] (.Name fld q3) q4] scope dV kV doc pm an (.ref cda) ct cc), osl⟩)
    (hcd : PySem.W.codeIn K (.ref cda) qual = true)
    (hp : (params.posonlyargs ++ params.args).head? = some ar) (har : ar.arg = "self")
    (hcode : K.lookup cda = some ⟨ccl, cdd, .fields vs, ccs⟩) (hvs : vs[2]? = some (.str file tf)) (hfile : ((P.main.file : Str) == file) = true)
    (hcell : K.lookup cc = some ⟨cl, cld, .cell (some (.ref C)), csl⟩)
    (kind : scope.kind = .function) (co : scope.isCoroutine = false) (gen : scope.isGenerator = false) (hks : scope.names.lookup ("super" : Str) = some .globalImplicit) (hkc : scope.names.lookup ("__class__" : Str) = some .free)
    (hx : scope.names.lookup ("self" : Str) = some .local) (hy : scope.names.lookup fld = some .local) (nxy : ("self" : Str) ≠ fld) (hdf : (fld == ("__debug__" : Str)) = false) (hcf : (fld == ("__classdict__" : Str)) = false)
    (hcells : ∀ z ∈ scope.names, z.2 ≠ .cell ∧ (z.2 = .free → z.1 = "__class__"))
    {pl : Env → Sem Bool} (hev : ∀ env : Env, eval (.Call (.Attribute (.Call (.Name "super" p0) [] [] p1) "__init__" p2) [.Constant (.str msg) j p3] [] p4) env = (do
      let ov ← attributeBase (.Call (.Name "super" p0) [] [] p1) "__init__" env (eval (.Call (.Name "super" p0) [] [] p1) env)
      standAt p2.atName
      let (f, first) ← holding [ov] (getMethod ov "__init__" (pl env))
      callWith p4 f first (backTo p4 (starEach [.Constant (.str msg) j p3] env)) [])) :
    FnOk P w K mg base CX 1 fI (PySem.W.ksFn name qual params [.Expr (.Call (.Attribute (.Call (.Name "super" p0) [] [] p1) "__init__" p2) [.Constant (.str msg) j p3] [] p4) p5, .Assign [.Attribute (.Name "self" q1) fld q2] (.Name fld q3) q4] scope dV kV doc pm an (.ref cda) ct cc) ["self", fld] (spX C fld) := by
  refine ⟨fun vs H Q E h => by obtain ⟨_, _, rfl, _⟩ := h; rfl, fun A outer s H args us vs' Q E hr e0 hb r hsp => ?_⟩
  obtain ⟨a, v, rfl, ha, k⟩ := hsp
  obtain ⟨hp0, g, d, t, os⟩ := s
  have KX : K.In hp0 := e0.mod.kin.keeps fun b o e => (e0.bs b o e).1
  have lim : hp0.NoLimit := e0.mod.nolimit.keeps fun b o e => (e0.bs b o e).1
  obtain ⟨mb, hmb, hmbv⟩ := e0.mod.blt
  obtain ⟨nm, q, N, bs, bm, sn, sub, ab, col, dd, k0, k1, k2, k3, k5, hC, hbm⟩ := S.T.cls
  have hc : PySem.W.clsIn K C = some { name := nm, bases := bs, mro := .ref C :: bm, ns := N, qualname := q, hasDict := true, slotNames := sn, subclasses := sub, abstract := ab, collection := col, hasDel := false } := by unfold PySem.W.clsIn; rw [hC] <;> rfl
  cases r with
  | cons r1 r' =>
    cases r' with
    | cons r2 r'' =>
      cases r''
      rename_i u1 u2
      obtain rfl : u1 = Value.ref a := r1
      refine PySem.ks_codeAny_call_defAt hr.depth (KX _ _ lk) rfl lim (PySem.W.codeRec_of KX hcd) rfl hb (fun z hz => (hcells z hz).1) (fun z hz => ?_) (fun h₀ hns hk => ?_) co gen kind
      · simp only [List.zip_cons_cons, List.zip_nil_right, List.mem_cons, List.not_mem_nil, or_false] at hz
        rcases hz with rfl | rfl
        · exact hx
        · exact hy
      · have I0 : Inv (supCx CX P w K mg base ["self", fld] qual scope fI (.ref cda) cc A outer ⟨hp0, g, d, t, os⟩ H E) [] [some (.ref a), some v] H ⟨h₀, g, d, t + 2, os⟩ := sup_start (u1 := .ref a) hr.hd e0 rfl r2 nxy kind hx hy hcells hcell rfl hns hk
        obtain ⟨t1, ho⟩ := exo_at I0.hok ha
        have KH : K.In h₀ := KX.keeps hk
        have B : ∀ b o, base.get? b = some o → h₀.get? b = some o := fun b o e => hk _ _ (e0.bs b o e).1
        show PySem.wpAt (model P w) (A.deeper (PySem.W.ksEnv qual scope hp0.objs.size fI (.ref cda) cc)) (.func _ (PySem.W.ksEnv qual scope hp0.objs.size fI (.ref cda) cc)) (execs _ (PySem.W.ksEnv qual scope hp0.objs.size fI (.ref cda) cc)) _ _ _
        refine PySem.ks_wpAt_execs_cons (PySem.ks_wpAt_Expr_any (PySem.ks_wpAt_MethodCall ?_ (hev _)) (by unfold interactive; rw [show (PySem.W.ksEnv qual scope hp0.objs.size fI (Value.ref cda) cc).scope.kind = .function from kind]; rfl))
        refine PySem.ks_wpAt_super_base (env := PySem.W.ksEnv qual scope hp0.objs.size fI (.ref cda) cc) hks hkc (by decide +kernel) rfl (KH _ _ lk) rfl hp rfl (KH _ _ hcode) rfl hvs hfile S.top ?_
        refine PySem.W.ks_loadName_global kind hks (PySem.Calls.loadGlobal_builtin (env := PySem.W.ksEnv qual scope hp0.objs.size fI (.ref cda) cc) (e0.mod.glob.keeps B) S.glob (hmb.keeps B) ((hmbv _ (by decide +kernel)).trans boot_super) ⟨rfl, ?_⟩)
        refine wpAny_loadName_free kind hkc rfl ⟨_, KH _ _ hcell, rfl⟩ ?_
        rw [har]
        refine wpAny_loadName_local kind hx hns (v := .ref a) ?_ ?_
        · show ([(fld, u2), ("self", Value.ref a)] : List (Str × Value)).lookup ("self" : Str) = some (Value.ref a)
          rw [List.lookup_cons, show (("self" : Str) == fld) = false from beq_false_of_ne nxy]
          rfl
        refine PySem.ks_wpAny_isType_cls (KH _ _ hC) rfl ⟨rfl, ?_⟩
        refine PySem.ks_wpAny_call_super (KH _ _ hC) rfl ho rfl (fun c z => by cases z) (PySem.W.looks_mroIn KH S.own) (fun h1 e1 kk1 => ?_)
        have I1 := I0.kept (t' := t + 2) kk1
        have X1 : K.In h1 := I1.kIn
        have ia : PySem.W.InstAt h1 a _ C none := ⟨kk1 _ _ ho, rfl, rfl, trivial⟩
        have hf : PySem.W.alongIn K "__init__" (((Value.ref C :: bm).dropWhile (· != .ref C)).drop 1) = some (some (.builtin "ValueError.__init__")) := by
          have z := S.sup
          unfold PySem.W.ks_superIn at z
          rw [hc] at z
          exact z
        refine PySem.W.kxs_getMethod PySem.W.kxs_ValueError e1 (PySem.W.looks_opaque X1 S.third) (l₀ := .ref C :: bm) (fun A Q E s k q => wpAny_bind ((PySem.W.looks_clsIn X1 hc) A _ E s k (wpAny_pure q))) rfl X1 hf (ia.type.andThen (PySem.W.looks_subIn X1 S.val)) (PySem.W.ks_ne X1 ia hc) (by decide +kernel) ?_
        have hu : (h1.push (PySem.W.kxs_mw "ValueError.__init__" a)).get? h1.objs.size = some (PySem.W.kxs_mw "ValueError.__init__" a) := Heap.get?_push_size _ rfl
        have I2 := I1.kept (h' := h1.push (PySem.W.kxs_mw "ValueError.__init__" a)) (t' := t + 2 + 1) (fun b o e => Heap.get?_push_of_some _ e)
        have I3 : Inv (supCx CX P w K mg base ["self", fld] qual scope fI (.ref cda) cc A outer ⟨hp0, g, d, t, os⟩ H E) [(h1.objs.size, PySem.W.kxs_mw "ValueError.__init__" a)] [some (.ref a), some v] H ⟨h1.push (PySem.W.kxs_mw "ValueError.__init__" a), g, d, t + 2 + 1, os⟩ := I2.pins_of (fun p hp => by
          rcases List.mem_singleton.mp hp with rfl
          exact ⟨hu, I1.hok.fresh (Nat.le_refl _), Nat.ne_of_gt I1.lt, I1.nofs (Nat.le_refl _), fun v z => by cases z⟩)
        have he : starEach [.Constant (.str msg) j p3] (PySem.W.ksEnv qual scope hp0.objs.size fI (.ref cda) cc) = (false, eval (.Constant (.str msg) j p3) (PySem.W.ksEnv qual scope hp0.objs.size fI (.ref cda) cc)) :: starEach [] (PySem.W.ksEnv qual scope hp0.objs.size fI (.ref cda) cc) := rfl
        show wpAny _ _ (callWith p4 (.ref h1.objs.size) [] (backTo p4 (starEach [.Constant (.str msg) j p3] (PySem.W.ksEnv qual scope hp0.objs.size fI (.ref cda) cc))) []) _ _ _
        refine PySem.W.kxs_callWith (i := "ValueError.__init__") (x := a) rfl ?_
        rw [he]
        refine PySem.Calls.evalArgs_plain (thn ((pa_cons (X := supCx CX P w K mg base ["self", fld] qual scope fI (.ref cda) cc A outer ⟨hp0, g, d, t, os⟩ H E) pe_str pa_nil he).run p4 _ _ _ H (fun vs H1 => vs = [V.str msg] ∧ H1 = H) I3 ⟨rfl, rfl⟩) fun us s1 ⟨vs, H1, I4, r4, ev, eH⟩ => ?_)
        subst ev
        rw [eH] at I4
        have hu4 := (I4.pin _ (List.mem_append_right _ List.mem_cons_self)).1
        refine ⟨hu4, bwinit_ok S.T I4 ha hu4 ?_ fun s' J => ?_⟩
        · have := Paired.length r4
          have e1 : us.length = 1 := this.symm
          rw [show ([] ++ us : List Value) = us from rfl, e1, sizeLine_eq]
          omega
        · refine PySem.wpAt_of_wpAny ?_
          refine wpAny_mono ((pss_one (ps_ost (X := supCx CX P w K mg base ["self", fld] qual scope fI (.ref cda) cc A outer ⟨hp0, g, d, t, os⟩ H E) (pe_var (i := 0) rfl (Or.inl hx)) (pe_var (i := 1) rfl (Or.inl hy) hdf hcf))).run _ s' _ H { nx := fun _ H' => Q .non H', rt := Q } J
            ⟨v, rfl, .ref a, rfl, a, C, rfl, S.T, S.no, .inl ⟨ha, fun dx h1 h2 => k dx h1 h2⟩⟩) (fun fl s'' hsp => ?_) (fun e s'' z => z)
          cases fl with
          | ret u =>
            obtain ⟨v, σ', H', J', rv, qq⟩ := hsp
            exact ⟨v, H', J'.os, J'.bare, J'.base, J'.hok, rv, qq⟩
          | next =>
            obtain ⟨σ', H', J', qq⟩ := hsp
            exact ⟨.non, H', J'.os, J'.bare, J'.base, J'.hok, rfl, qq⟩
          | brk =>
            obtain ⟨_, _, _, qq⟩ := hsp
            exact False.elim qq
          | cont =>
            obtain ⟨_, _, _, qq⟩ := hsp
            exact False.elim qq
end PL

set_option maxHeartbeats 4000000
/-! PRb: raise; try: .. except X: return True / False. -/
namespace PL
open PySem PySem.Spec PyProof.Rows L2
section
variable {W : Type} {X : Cx} {G : Gm W} {E : XK} {ρ : Rho} {w w' : W} {σ : L2.St} {H F : Hp}
def raiseM {α : Type} (e : Er) : M W α := fun w => some (.er e, w)
/-- raise C(e), C's __init__ as in PRa -/
def dRaise1 (C : Addr) (fld : Str) (fa : Rho → M W T) : Rho → M W Fl := fun ρ => bnd (fa ρ) fun t => raiseM ⟨C, [fld], [t]⟩
/-- an own exception class with such an __init__ -/
structure XCls (P : Program) (w : World) (K : PySem.W.Frag) (mg : Str → Option Value) (base : Heap) (x : Str) (C : Addr) (fld : Str) : Prop where
  T : OexC K C
  at_ : mg x = some (.ref C)
  ex : ∃ fI fd, PySem.W.findIn K (.ref C) "__init__" = some (some (.ref fI)) ∧ PySem.W.typeIn K (.ref fI) = some (.type "function") ∧ FnOk P w K mg base (L2.CX P w) 1 fI fd ["self", fld] (spX C fld) ∧ L2.Binds K fd ["self", fld] []
theorem pd_raise1 {x : Str} {C : Addr} {fld : Str} {e : Expr} {fa : Rho → M W T} {p pos pos' : Pos} (S : XCls X.prog X.w X.K X.mg X.base x C fld) (hc : X.calm = true) (tk : Takes X fun cls d _ H => E cls d H) (hr : Room 2 X.A) (hg : Gl X x) (ha : PV X G E e fa)
    (hdb : (x == ("__debug__" : Str)) = false := by decide) (he : starEach [e] X.env = (false, eval e X.env) :: starEach [] X.env := by rfl) (hpl : (backTo pos (starEach [] X.env)).any (·.1) = false := by rfl) :
    PD X G E (.Raise (some (.Call (.Name x p) [e] [] pos)) none pos') (dRaise1 C fld fa) := by
  obtain ⟨fI, fd, iC, tI, F1, hb⟩ := S.ex
  have hm := pmk_oex (X := X) (ds := []) (dvs := []) S.T iC tI F1 hr hb .nil passL hg S.at_ (pa_cons ha.run pa_nil he) hdb he hpl (p := p)
  refine ⟨(ps_raise hc tk hm).imp fun D σ H => ?_⟩
  rintro ⟨ρ, w, F, r, w', S0, hf, acc⟩
  refine tV.bind (X := X) S0 hf acc.er fun t w1 v H1 F1 S1 s1 r1 hk => ?_
  cases hk
  refine ⟨by show 1 ≤ 1000; omega, fun a hn => ?_⟩
  refine ⟨a, v, rfl, upd_same, fun dx hd hne => ⟨rfl, dx, [(fld, v)], upd_same, by rw [upd_ne hne, upd_same], by rw [upd_ne hne] at hd; exact hd, ?_⟩⟩
  rw [upd_ne hne] at hd
  have eH : upd (del (upd (upd (upd H1 a (exo a C none)) dx (exd dx [(fld, v)])) a (exo a C (some dx))) a) dx (.xd [(fld, v)]) = upd H1 dx (.xd [(fld, v)]) := by
    funext b
    by_cases hb : b = dx
    · subst hb
      rw [upd_same, upd_same]
    · rw [upd_ne hb, upd_ne hb]
      by_cases ha : b = a
      · subst ha
        rw [del_same, hn]
      · rw [del_ne ha, upd_ne ha, upd_ne hb, upd_ne ha]
  rw [eH]
  have q : AccE X.K G E F ⟨C, [fld], [t]⟩ w' := acc
  exact q (some dx) _ F1 ρ σ (S1.laid hd) s1.same (.inr ⟨dx, [v], rfl, upd_same, rfl, .one r1⟩)
/-! ### try: body, except x: return b -/
/-- cs: the classes that may be raised, with whether the clause takes them -/
def dTryC (cs : List (Addr × Bool)) (t : T) (g : Rho → M W Fl) : Rho → M W Fl := fun ρ w => match g ρ w with
  | some (.er e, w') => match cs.lookup e.C with
    | some true => some (.ok (.rt t), w')
    | some false => some (.er e, w')
    | none => none
  | z => z
theorem mem_lk : ∀ {l : List (Addr × Bool)} {a : Addr} {b : Bool}, l.lookup a = some b → (a, b) ∈ l
  | [], _, _, h => by cases h
  | (c, d) :: l, a, b, h => by
    rw [List.lookup_cons] at h
    split at h
    · rename_i e
      cases h
      rw [eq_of_beq e]
      exact List.mem_cons_self
    · exact List.mem_cons_of_mem _ (mem_lk h)
theorem pd_tryC {x : Str} {c : Value} {k : Bool} {body : List Stmt} {np pos pos' p1 p2 : Pos} {j : Nat} {g : Rho → M W Fl} {cs : List (Addr × Bool)} (hs : X.stack = X.env :: X.outer) (hf : X.env.frame = some X.env.locals) (hc : Names X x c) (tk : Takes X fun cls d _ H => E cls d H)
    (hcs : ∀ p ∈ cs, PySem.W.exmOne X.K (.ref p.1) c = some p.2)
    (hb : ∀ (pn : List (Addr × Obj)) (xe : Value → Shared → Prop) (E' : XK), Passes (L2.CX X.prog X.w) (X.tr pn xe) E' → PassesOwn (model X.prog X.w) X.A X.env xe → PDs (X.tr pn xe) G E' body g) :
    PD X G E (.Try body [.ExceptHandler (some (.Name x np)) none [.Return (some (.Constant (.bool k) j p1)) p2] pos'] [] [] pos) (dTryC cs (.bl k) g) := by
  refine ⟨(ps_try_only (X := X) (c := c) (tb := fun W D σ H => ∃ E' : XK, (∀ cls d σ' H', E' cls d H' → W cls d σ' H') ∧ tS X.K G E' g D σ H) (ts := fun _ _ _ D σ H => D.rt (.bl k) H) hs hf hc tk
    (fun W pn xe tk' hp => ⟨fun pins s σ H D I ⟨E', hW, q⟩ => (hb pn xe E' (passes_call tk' hW) hp).run.run pins s σ H D I q⟩)
    (fun a oe cls d pn _ _ => pss_one (ps_ret pe_bl))).imp fun D σ H => ?_⟩
  rintro ⟨ρ, w, F, r, w', S, hf, acc⟩
  refine ⟨fun cls d H' => wOnly X.K c (fun _ _ _ D σ H => D.rt (.bl k) H) (fun cls d _ H => E cls d H) D cls d [] H', fun cls d σ' H' h => h, ?_⟩
  unfold dTryC at hf
  cases hg : g ρ w with
  | none => rw [hg] at hf; cases hf
  | some z =>
    obtain ⟨r1, w1⟩ := z
    rw [hg] at hf
    cases r1 with
    | ok fl =>
      cases hf
      exact ⟨ρ, w, F, .ok fl, w', S, hg, by cases fl <;> exact acc⟩
    | er e =>
      refine ⟨ρ, w, F, .er e, w1, S, hg, ?_⟩
      cases hl : cs.lookup e.C with
      | none => simp only [hl] at hf; cases hf
      | some b =>
        have hx := hcs _ (mem_lk hl)
        simp only [hl] at hf
        cases b with
        | true =>
          cases hf
          exact fun d H' F2 ρ' σ' S' s' ea => ⟨true, hx, fun _ a _ => acc (.bl k) ρ' σ' H' F2 S' s' (.bl k), fun z => nomatch z⟩
        | false =>
          cases hf
          exact fun d H' F2 ρ' σ' S' s' ea => ⟨false, hx, (fun z => nomatch z), fun _ => acc d H' F2 ρ' σ' S' s' ea⟩
end
end PL

set_option maxHeartbeats 4000000
/-! PRc: a def by two names in the other order; [..] * 2. -/
namespace PL
open PySem PySem.Spec PyProof.Rows L2
section
variable {W : Type} {X : Cx} {G : Gm W} {E : XK} {ρ : Rho} {w w' : W} {σ : L2.St} {H F : Hp}
structure DefOkKr (CX : CXT) (P : Program) (w : World) (K : PySem.W.Frag) (mg : Str → Option Value) (base : Heap) (k : Nat) (x : Str) (n : Nat) (ks : List Str) (Fn : List T → M W T) : Prop where
  ex : ∃ f fd ps, FnG P w K mg base CX k f fd ps (spF K n Fn) ∧ mg x = some (.ref f) ∧ PySem.W.keepIn K (.ref f) = true ∧ KBinds K fd ps ks (fun us ws => us ++ ws.reverse) (fun vs zs => vs ++ zs.reverse)
/-- by names, from the last parameter on -/
def fCallR (n : Nat) (fa : Rho → M W (List T)) (Fn : List T → M W T) : Rho → M W T := fun ρ => bnd (fa ρ) fun ts => if ts.length = n then Fn ts.reverse else stuck
theorem valsRev {vs : List V} {us : List Value} (r : Vals vs us) : Vals vs.reverse us.reverse := by
  induction vs generalizing us with
  | nil => cases r; exact .nil
  | cons v vs ih =>
    cases r with
    | cons h r =>
      rw [List.reverse_cons, List.reverse_cons]
      exact (ih r).append (.cons h .nil)
theorem pv_callNr {k j n : Nat} {x : Str} {kws : List Keyword} {ks : List Str} {fa : Rho → M W (List T)} {Fn : List T → M W T} {p pos : Pos} {tk : TA} (D : DefOkKr (L2.CX X.prog X.w) X.prog X.w X.K X.mg X.base k x n ks Fn) (hr : Room j X.A) (hgd : X.A.guards = some []) (hk : k ≤ j) (hg : Gl X x) (hx : Passes (L2.CX X.prog X.w) X E)
    (hkw : PK X kws tk) (htk : ∀ σ H Q, tA X.K G E fa σ H Q → tk σ H Q) (hall : (backToKw pos (keywordEach kws X.env)).all (·.1.isSome) = true := by rfl) (hks : (backToKw pos (keywordEach kws X.env)).filterMap (·.1) = ks := by rfl) (hdb : (x == ("__debug__" : Str)) = false := by decide)
    (hpl : ((backTo pos (starEach [] X.env)).any (·.1) || (backToKw pos (keywordEach kws X.env)).any (·.1.isNone)) = false := by rfl) :
    PV X G E (.Call (.Name x p) [] kws pos) (fCallR n fa Fn) := by
  obtain ⟨f, fd, ps, Fm, hm, hkp, hb⟩ := D.ex
  refine ⟨⟨fun pins s σ H Q I h => ?_⟩⟩
  obtain ⟨ρ, w, F, q, w', S, hf, acc⟩ := h
  refine wpAny_Call_Name_kw (ld_glob I hg hm ?_ hdb)
  refine PySem.W.callWith_KW0 (first := []) (h₀ := X.base) I.ok.mod.kin hkp hall (thn (hkw.run pos pins s σ H _ I (htk _ _ _ (tA.bind (X := X) (Q := fun vs H1 => spF X.K n Fn vs.reverse H1 Q E) S hf acc.er fun ts w1 vs H1 F1 S1 s1 r1 hk => ?_))) fun us s1 ⟨vs, H1, I1, r, q⟩ => ⟨I1.kIn, ?_⟩) hpl
  · split at hk
    · rename_i hl
      exact spF.of S1 r1.reverse (by rw [List.length_reverse]; exact hl) hk (fun t ht v H' F' S' s' rv => by subst ht; exact acc v H' F' S' (s1.trans s' S1.dH) rv) (acc.mono s1 S1.dH).er
    · cases hk
  · rw [hks]
    have r2 := hb.rel (vs := []) (us := []) .nil r
    have hl : (([] : List Value) ++ us.reverse).length = ps.length := by rw [← r2.length]; exact Fm.len _ _ _ _ q
    exact wpAny_call (FnG.out hx I1 (Fm.run X.A X.stack s1 H1 ⟨[], ks.zip us⟩ ([] ++ us.reverse) ([] ++ vs.reverse) Q E (hr.mono hk) hgd I1.env0 (hb.to s1 [] us I1.kIn hl) r2 q))
theorem tk_two {fa fb : Rho → M W T} : ∀ σ H Q, tA X.K G E (aCons fa (aCons fb aNil)) σ H Q → tCons (tV X.K G E fa) (tCons (tV X.K G E fb) tNil) σ H Q := fun σ H Q => by
  rintro ⟨ρ, w, F, r, w', S, hf, acc⟩
  refine tV.bind (X := X) S hf acc.er fun t w1 v H1 F1 S1 s1 r1 hk => ?_
  have e : bnd (fb ρ) (fun u => ret [t, u]) w1 = some (r, w') := by
    rw [← hk]
    show _ = bnd (bnd (fb ρ) fun u => bnd (ret []) fun ts => ret (u :: ts)) _ w1
    rw [bnd_assoc]
    rfl
  refine tV.bind (X := X) S1 e (acc.mono s1 S1.dH).er fun u w2 v2 H2 F2 S2 s2 r2 hk2 => ?_
  obtain ⟨rfl, rfl⟩ := ret_inv hk2
  exact acc [v, v2] H2 F2 S2 (s1.trans s2 S1.dH) (.cons (r1.mono s2.same) (.one r2))
/-- [..] * k, k written -/
def fRepN (k : Nat) (fa : Rho → M W (List T)) : Rho → M W (List T) := fun ρ => bnd (fa ρ) fun ts => if ts.length * k ≤ sizeLine then ret (List.replicate k ts).flatten else stuck
theorem Reps.rep {K : PySem.W.Frag} {F : Hp} {vs : List V} {ts : List T} (r : Reps K F vs ts) : ∀ k : Nat, Reps K F (List.replicate k vs).flatten (List.replicate k ts).flatten
  | 0 => .nil
  | k + 1 => by
    rw [List.replicate_succ, List.replicate_succ, List.flatten_cons, List.flatten_cons]
    exact r.append (Reps.rep r k)
theorem pf_rep {a : Expr} {k : Nat} {j : Nat} {p pos : Pos} {fa : Rho → M W (List T)} (hk : k < 1000) (ha : PF X G E a fa) : PF X G E (.BinOp a .Mult (.Constant (.int (k : Nat)) j p) pos) (fRepN k fa) :=
  ⟨(pe_op op_rep ha.run pe_int).imp fun σ H Q => by
    rintro ⟨ρ, w, F, r, w', S, hf, acc⟩
    refine tF.bind (X := X) S hf acc.er fun ts w1 p vs H1 F1 S1 s1 h0 h1 h2 h3 h4 h5 hk1 => ?_
    split at hk1
    · rename_i hl
      obtain ⟨rfl, rfl⟩ := ret_inv hk1
      refine ⟨p, (k : Nat), vs, rfl, rfl, h1, by omega, by omega, by rw [h5.length]; exact hl, fun p2 hp2 => ?_⟩
      have S2 := S1.laid (o := .lst (List.replicate k vs).flatten) hp2
      have e : H p2 = none := by
        cases z : H p2 with
        | none => rfl
        | some o =>
          by_cases d : G.O.D p2
          · exact absurd hp2 (G.O.live S1.wok d)
          · rw [s1.keep p2 o z d] at hp2; cases hp2
      exact acc p2 _ _ F1 S2 (s1.trans (.laid hp2) S1.dH) e upd_same (S1.sub.free hp2) (S1.fresh hp2).2.1 (S1.noSlot hp2) (h5.rep k)
    · cases hk1⟩
end
section
variable {W : Type} {P : Program} {w : World} {K : PySem.W.Frag} {mg : Str → Option Value} {base : Heap}
theorem def_okKr {x : Str} {st : Stmt} {N ps ks : List Str} {n m k : Nat} {g : Rho → M W Fl} (D : DefAt K mg x st) (S : FnScope N ps (defScope st)) (hps : ps.length = n) (hN : N.length = n + m)
    (hb : ∀ (kV doc pm : Value) (an : Option Addr) (cdv ct : Value) (us ws : List Value), (us ++ ws).length = ps.length → bindArgs (PySem.W.fnOf x x (defArgs st) (defBody st) (defScope st) .none kV doc pm an cdv ct) ⟨us, ks.zip ws⟩ = pure (ps.zip (us ++ ws.reverse)))
    (hbody : ∀ (f : Addr) (cdv : Value) (A : Around) (outer : List PySem.Env) (s : Shared) (H : Hp) (E : XK) (G : Gm W), Room k (A.deeper (envOfC x (defScope st) s.heap.objs.size f cdv)) → (A.deeper (envOfC x (defScope st) s.heap.objs.size f cdv)).guards = some [] →
      PDs (cxOf (L2.CX P w) P w K mg base N x (defScope st) f cdv A outer s H E) G E (defBody st) g) :
    DefOkKr (L2.CX P w) P w K mg base (k + 1) x n ks (run m g) := by
  obtain ⟨f, fd, F, hm⟩ := D.ex
  refine ⟨f, fd, ps, body_ok F S hps hN fun cdv A outer s H E G => hbody f cdv A outer s H E G, hm, F.kp, ⟨fun s us ws _ hl => ?_, fun r rz => r.append (valsRev rz)⟩⟩
  obtain ⟨oc, od, kV, doc, pm, an, cdv, ct, osl, rfl, lk, hcd⟩ := F.ex
  exact .of_eq (hb kV doc pm an cdv ct us ws (by simpa using hl))
end
end PL

/-! PRd: isinstance(e, a built-in type) of a value that may be an instance of an own class. -/
namespace PL
open PySem PySem.Spec PyProof.Rows L2
def isaI (C : Addr) (n : String) : T → Option T
  | .ins C' _ _ => if C' = C then some (.bl false) else none
  | t => isaT n t
section
variable {W : Type} {X : Cx} {G : Gm W} {E : XK} {e : Expr} {fa : Rho → M W T} {n : String} {ns : List Str} {C : Addr} {x y : Str} {p p2 pos : Pos}
theorem pv_isaI (c : ClsF X.K C ns) (one : PySem.W.kitOne X.K (.ref C) (.type n) = some false) (hg : Gl X "isinstance") (hm : X.mg "isinstance" = none) (hg2 : Gl X y) (hm2 : X.mg y = none) (hv2 : bootBuiltins y = some (.type n)) (ha : PVs X G E e fa) (hn2 : y ≠ "__name__" := by decide) (hd2 : (y == ("__debug__" : Str)) = false := by decide)
    (he : starEach [e, .Name y p2] X.env = (false, eval e X.env) :: starEach [.Name y p2] X.env := by rfl) (he2 : starEach [.Name y p2] X.env = (false, eval (.Name y p2) X.env) :: starEach [] X.env := by rfl) (hpl : (backTo pos (starEach [.Name y p2] X.env)).any (·.1) = false := by rfl) :
    PV X G E (.Call (.Name "isinstance" p) [e, .Name y p2] [] pos) (f1 (isaI C n) fa) :=
  ⟨(pe_callB call_isi hg hm PyProof.Rows.boot_isinstance (pa_cons ha.run (pa_cons (pe_bltn (v := .ty n) hg2 hm2 hv2 rfl hn2 hd2) pa_nil he2) he) (by decide) (by decide) he hpl).imp fun σ H Q => by
    rintro ⟨ρ, w, F, q, w', S, hf, acc⟩
    refine tVs.bind (X := X) S hf acc.er fun t w1 x H1 F1 S1 s1 r1 hk => ?_
    obtain ⟨z, hz, rfl, rfl⟩ := lift_inv hk
    have old : isaT n t = some z → ∃ u b, z = .bl b ∧ TyX X.K H1 x u ∧ PySem.W.kitOne X.K u (.type n) = some b := fun hz => by
      simp only [isaT, Option.bind_eq_some_iff, Option.map_eq_some_iff] at hz
      obtain ⟨a, e1, b, e2, rfl⟩ := hz
      exact ⟨.type a, b, rfl, r1.ty S1 e1, kit_ty e2⟩
    have all : ∃ u b, z = .bl b ∧ TyX X.K H1 x u ∧ PySem.W.kitOne X.K u (.type n) = some b := by
      cases t with
      | ins C' ns' ts =>
        have hz : (if C' = C then some (T.bl false) else none) = some z := hz
        by_cases hC : C' = C
        · subst hC
          rw [if_pos rfl] at hz
          refine ⟨.ref C', false, (Option.some.inj hz).symm, r1.tyC c S1 ?_, one⟩
          show (if C' = C' then some (Value.ref C') else none) = _
          rw [if_pos rfl]
        · rw [if_neg hC] at hz
          cases hz
      | non => exact old hz
      | bl _ => exact old hz
      | int _ => exact old hz
      | str _ => exact old hz
      | tup _ => exact old hz
      | lst _ => exact old hz
      | dct _ _ => exact old hz
      | raw _ => exact old hz
    obtain ⟨u, b, rfl, hT, hb⟩ := all
    exact ⟨x, .ty n, u, .type n, b, rfl, .ty n, hT, hb, acc _ H1 F1 S1 s1 (.bl _)⟩⟩
end
theorem kit_ins {K : PySem.W.Frag} {C : Addr} {n : String} (h1 : PySem.W.kitMeta n = true) (h2 : PySem.W.subIn K (.ref C) (.type n) = some false) : PySem.W.kitOne K (.ref C) (.type n) = some false := by
  unfold PySem.W.kitOne
  rw [if_neg (by simp)]
  show (if PySem.W.kitMeta n = true then PySem.W.subIn K (.ref C) (.type n) else none) = _
  rw [if_pos h1, h2]
end PL

set_option maxHeartbeats 2000000
/-! RFa: try: body / except x as n: suite, with what follows it: behind the suite the caught exception is still known (as a pin). Every exception of the body is of the class that is named. -/
namespace PL
open PySem PySem.Spec PyProof.Rows L2
theorem mem_swap {α : Type} {p q : α} {as bs : List α} (h : p ∈ as ++ q :: bs) : p ∈ q :: (as ++ bs) := by
  simp only [List.mem_append, List.mem_cons] at h ⊢
  rcases h with h | h | h
  · exact .inr (.inl h)
  · exact .inl h
  · exact .inr (.inr h)
theorem mem_less {α : Type} {p q : α} {as bs : List α} (h : p ∈ as ++ bs) : p ∈ as ++ q :: bs := by
  simp only [List.mem_append, List.mem_cons] at h ⊢
  exact h.imp id .inr
section
variable {X : Cx} {pins : List (Addr × Obj)} {σ : L2.St} {H : Hp} {s : Shared} {q : Addr × Obj}
/-- out of the suite, the exception kept among the pins -/
theorem out_kept {a : Addr} {more : List (Addr × Obj)} (I : Inv (X.suite a (q :: (X.pn ++ pins))) more σ H s) (ok : X.Ok) : Inv X (q :: pins) σ H s where
  ok := ok
  os := I.os
  bare := I.bare
  base := I.base
  loc := I.loc
  cell := I.cell
  free := I.free
  freeC := I.freeC
  pin := fun p hp => I.pin p (List.mem_append_left _ (mem_swap hp))
  hok := I.hok
  len := I.len
theorem one_less (I : Inv X (q :: pins) σ H s) : Inv X pins σ H s where
  ok := I.ok
  os := I.os
  bare := I.bare
  base := I.base
  loc := I.loc
  cell := I.cell
  free := I.free
  freeC := I.freeC
  pin := fun p hp => I.pin p (mem_less hp)
  hok := I.hok
  len := I.len
theorem sp_less {D : Ends} : ∀ {f : Flow}, SP X (q :: pins) D f s → SP X pins D f s
  | .next, ⟨_, _, J, k⟩ => ⟨_, _, one_less J, k⟩
  | .brk, ⟨_, _, J, k⟩ => ⟨_, _, one_less J, k⟩
  | .cont, ⟨_, _, J, k⟩ => ⟨_, _, one_less J, k⟩
  | .ret _, ⟨_, _, _, J, r, k⟩ => ⟨_, _, _, one_less J, r, k⟩
end
/-- ts: the suite's reading; tr: what follows, the exception being known -/
def wAsK (K : PySem.W.Frag) (c : Value) (m i : Nat) (ts tr : Addr → Value → Option Addr → TS) (D : Ends) : WX := fun cls d σ H =>
  PySem.W.exmOne K cls c = some true ∧ ∀ a, H a = none → σ.length = m → ts a cls d ⟨fun σ' H' => tr a cls d D (σ'.set i none) H', fun _ _ => False, fun _ _ => False, fun _ _ => False⟩ (σ.set i (some (.ref a))) H
section
variable {X : Cx} {x n : Str} {c : Value} {i : Nat} {suite rest : List Stmt} {b₀ : Stmt} {np pos' : Pos} {ts tr : Addr → Value → Option Addr → TS}
/-- the suite, entered with the exception at a in the name n, and what follows it -/
theorem suite_kept {a : Addr} {oe : Obj} {cls : Value} {d : Option Addr} {pins : List (Addr × Obj)} {σ : L2.St} {H : Hp} {s : Shared} {D : Ends} {R : Flow → Shared → Prop} (ok : X.Ok) (hN : X.N.Nodup) (hi : X.N[i]? = some n) (hln : X.env.kindOf n = some .local)
    (S : Inv (X.suite a ((a, oe) :: (X.pn ++ pins))) [] σ H s) (hz : Zc cls d oe) (hd : ∃ vs, oe.data = .fields vs)
    (hsu : PSs (X.suite a ((a, oe) :: (X.pn ++ pins))) (b₀ :: suite) (ts a cls d))
    (w : ts a cls d ⟨fun σ' H' => tr a cls d D (σ'.set i none) H', fun _ _ => False, fun _ _ => False, fun _ _ => False⟩ σ H)
    (hR : ∀ s7 σ7 H7, Inv X ((a, oe) :: pins) σ7 H7 s7 → tr a cls d D σ7 H7 → R .next s7) :
    wpAny (model X.prog X.w) (X.A.mark (some (.ref a))) (execs (b₀ :: suite) X.env) (fun f s6 => wpAny (model X.prog X.w) X.A (do bindName X.env n .none; unbindBehindTheSuite X.env n pos') (fun _ s7 => R f s7) X.xe s6) (fun _ _ => False) s := by
  refine wpAny_mono (hsu.run [] s σ H _ S w) (fun f s6 end6 => ?_) fun _ _ z => z
  match f, end6 with
  | .next, ⟨_, _, S6, k⟩ => exact gone_ok (out_kept S6 ok) hN hi hln fun s7 J7 => hR s7 _ _ J7 k
  | .brk, ⟨_, _, _, k⟩ => exact k.elim
  | .cont, ⟨_, _, _, k⟩ => exact k.elim
  | .ret _, ⟨_, _, _, _, _, k⟩ => exact k.elim
/-- an exception that leaves the body is caught -/
theorem caught_kept {W : WX} {xe : Value → Shared → Prop} {pins : List (Addr × Obj)} {u : Value} {s : Shared} {D : Ends} {R : Flow → Shared → Prop} (ok : X.Ok) (hs : X.stack = X.env :: X.outer) (hf : X.env.frame = some X.env.locals) (hN : X.N.Nodup) (hi : X.N[i]? = some n) (hln : X.env.kindOf n = some .local) (hc : Names X x c)
    (out : XE (X.tr (X.pn ++ pins) xe) W u s) (hW : ∀ cls d σ H, W cls d σ H → wAsK X.K c X.N.length i ts tr D cls d σ H)
    (hsu : ∀ (a : Addr) (oe : Obj) (cls : Value) (d : Option Addr) (pn : List (Addr × Obj)), Zc cls d oe → (∃ vs, oe.data = .fields vs) → PSs (X.suite a ((a, oe) :: pn)) (b₀ :: suite) (ts a cls d))
    (hR : ∀ (a : Addr) (oe : Obj) (cls : Value) (d : Option Addr), Zc cls d oe → (∃ vs, oe.data = .fields vs) → ∀ s7 σ7 H7, Inv X ((a, oe) :: pins) σ7 H7 s7 → tr a cls d D σ7 H7 → R .next s7) :
    wpAny (model X.prog X.w) X.A (noteFrame u X.env) (fun _ s₂ => wpAny (model X.prog X.w) X.A (setFlight u none) (fun _ s₃ => wpAny (model X.prog X.w) X.A (handleBy u X.env [.ExceptHandler (some (.Name x np)) (some n) (b₀ :: suite) pos']) R X.xe s₃) X.xe s₂) X.xe s := by
  obtain ⟨a, B, sI, pins', σ, H, cls, d, rfl, J0, nb, up, sky, na, os, ag, w⟩ := out
  obtain ⟨hm, w⟩ := hW _ _ _ _ w
  have J : Inv X pins σ H sI := J0.ofTry ok
  have frames : X.A.frames = some (X.env :: X.outer) := by rw [ok.frames, hs]
  have sky : Sky B (X.env :: X.outer) a (Zc cls d) X.env.locals s.heap := hs ▸ sky
  refine Sky.land Zc.steady frames hf sky fun h3 fly up3 => ?_
  have I3 : Inv X pins σ H { s with heap := h3 } := J.landed nb fly.1 (up.trans up3) os ag
  obtain ⟨o3, v3, at3, z3, f3⟩ := fly.there
  -- the exception stands in no frame
  have off : a ∉ frs (X.env :: X.outer) := fun hm => by
    obtain ⟨_, o, e, no⟩ := fly.2.2.1.mem hm
    have : o = o3 := Option.some.inj (e.symm.trans at3)
    exact no _ (this ▸ f3)
  have offL : a ≠ X.env.locals := fun z => off (List.mem_filterMap.mpr ⟨X.env, List.mem_cons_self, by rw [hf, z]⟩)
  have offF : a ∉ X.fs := fun hm => by
    obtain ⟨e, he, q⟩ := List.mem_filterMap.mp hm
    exact off (List.mem_filterMap.mpr ⟨e, List.mem_cons_of_mem _ he, q⟩)
  have I3s := I3.suite at3 f3 na offL offF
  have isIt : PySem.W.Looks (model X.prog X.w) h3 (typeOf (.ref a)) cls := fun A Q E s k q => wpAny_typeOf_ref (k _ _ at3) (by rw [z3.1]; exact q)
  refine wpAny_handleBy_cons (codeAny_handlers_test ?_) (by intro q; cases q)
  have named : ∀ {Q : Value → Shared → Prop} {E : Value → Shared → Prop}, Q c { s with heap := h3 } → wpAny (model X.prog X.w) (X.A.mark (some (.ref a))) (eval (.Name x np) X.env) Q E { s with heap := h3 } := fun {Q E} q => by
    rcases hc with ⟨hg, hdb, hm | ⟨hm, hv, hnn⟩⟩
    · exact ld_glob (X := X.suite a ((a, o3) :: (X.pn ++ pins))) I3s hg hm q hdb
    · exact ld_blt (X := X.suite a ((a, o3) :: (X.pn ++ pins))) I3s hg hm hv q hnn hdb
  refine named ((PySem.W.exm_one (M := model X.prog X.w) I3.kIn isIt hm).here (codeAny_handlers_suite_as (HandSPX.lands_againZ fly fun h4 fly4 up4 => ?_)))
  have I4 : Inv X pins σ H { s with heap := h4 } := J.landed nb fly4.1 ((up.trans up3).trans up4) os ag
  obtain ⟨o4, v4, at4, z4, f4⟩ := fly4.there
  refine store_ok (X := X.suite a ((a, o4) :: (X.pn ++ pins))) (v := .ref a) (I4.suite at4 f4 na offL offF) hN hi (.inl hln) rfl (fun s5 S5 => ?_) (.inr hln)
  refine wpAny_mono (suite_kept (pos' := pos') (D := D) (R := R) ok hN hi hln S5 z4 ⟨_, f4⟩ (hsu a o4 cls d _ z4 ⟨_, f4⟩) (w a na J.len) (hR a o4 cls d z4 ⟨_, f4⟩)) (fun f s6 q => ?_) fun _ _ z => z.elim
  cases f <;> exact q
variable {body : List Stmt} {pos : Pos} {tb : WX → TS} {u : TS}
theorem pss_try_asK (hs : X.stack = X.env :: X.outer) (hf : X.env.frame = some X.env.locals) (hN : X.N.Nodup) (hi : X.N[i]? = some n) (hln : X.env.kindOf n = some .local) (hc : Names X x c)
    (hb : ∀ (W : WX) (pn : List (Addr × Obj)) (xe : Value → Shared → Prop), Takes (X.tr pn xe) W → PSs (X.tr pn xe) body (tb W))
    (hsu : ∀ (a : Addr) (oe : Obj) (cls : Value) (d : Option Addr) (pn : List (Addr × Obj)), Zc cls d oe → (∃ vs, oe.data = .fields vs) → PSs (X.suite a ((a, oe) :: pn)) (b₀ :: suite) (ts a cls d))
    (hr0 : PSs X rest u)
    (hr : ∀ (a : Addr) (oe : Obj) (cls : Value) (d : Option Addr), Zc cls d oe → (∃ vs, oe.data = .fields vs) → ∀ (pins : List (Addr × Obj)) (s : Shared) (σ : L2.St) (H : Hp) (D : Ends), Inv X ((a, oe) :: pins) σ H s → tr a cls d D σ H → wpAny (model X.prog X.w) X.A (execs rest X.env) (SP X ((a, oe) :: pins) D) X.xe s) :
    PSs X (.Try body [.ExceptHandler (some (.Name x np)) (some n) (b₀ :: suite) pos'] [] [] pos :: rest) (fun D σ H => tb (wAsK X.K c X.N.length i ts tr D) { D with nx := u D } σ H) := by
  refine ⟨fun pins s σ H D I h => wpAny_execs_cons (Q := SP X pins D) (wpAny_Try_except ?_)⟩
  refine wpAny_mono ((hb (wAsK X.K c X.N.length i ts tr D) (X.pn ++ pins) _ fun v s' out => caught_kept (D := D) I.ok hs hf hN hi hln hc out (fun _ _ _ _ w => w) hsu fun a oe cls d hz hd s7 σ7 H7 J7 k => ?_).run [] s σ H { D with nx := u D } (I.toTry _) h) (fun f s1 fin => ?_) fun _ _ z => z
  · exact wpAny_mono (hr a oe cls d hz hd pins s7 σ7 H7 D J7 k) (fun _ _ q => sp_less q) fun _ _ z => z
  · match f, fin with
    | .next, ⟨σ', H', J, k⟩ => exact wpAny_execs_nil (hr0.run pins _ σ' H' D (J.ofTry I.ok) k)
    | .brk, ⟨σ', H', J, k⟩ => exact ⟨σ', H', J.ofTry I.ok, k⟩
    | .cont, ⟨σ', H', J, k⟩ => exact ⟨σ', H', J.ofTry I.ok, k⟩
    | .ret _, ⟨v, σ', H', J, r, k⟩ => exact ⟨v, σ', H', J.ofTry I.ok, r, k⟩
end
end PL

set_option maxHeartbeats 2000000
/-! RFb: an exception that a def got, asked: isinstance(e, c), e.f. -/
namespace PL
open PySem PySem.Spec PyProof.Rows L2
/-- at a there stands, wherever X holds, an exception of the class at D with the dict d -/
structure OldX (X : Cx) (a D : Addr) (d : Option Addr) (oe : Obj) : Prop where
  now : ∀ {pins : List (Addr × Obj)} {σ : L2.St} {H : Hp} {s : Shared}, Inv X pins σ H s → s.heap.get? a = some oe
  hz : Zc (.ref D) d oe
  hf : ∃ vs, oe.data = .fields vs
/-- what the class says -/
structure AskC (K : PySem.W.Frag) (D : Addr) : Prop where
  cl : (PySem.W.clsIn K D).isSome = true
  ga : PySem.W.findIn K (.ref D) "__getattribute__" = some (some (.builtin "BaseException.__getattribute__"))
  gg : PySem.W.findIn K (.ref D) "__getattr__" = some none
  bs : PySem.W.subIn K (.ref D) (.type "BaseException") = some true
  hd : PySem.W.hasDictIn K D = true
  ca : PySem.W.findIn K (.ref D) "__class__" = some (some (.builtin "object.__class__"))
  cg : PySem.W.specialIn K (.builtin "object.__class__") "__get__" = some (some (.builtin "getset_descriptor.__get__"))
  ct : PySem.W.takesIn K (.builtin "object.__class__") = some true
  ob : PySem.W.mroIn K D (.type "object") = some true
section
variable {X : Cx} {a D : Addr} {d : Option Addr} {oe : Obj} {pins : List (Addr × Obj)} {σ : L2.St} {H : Hp} {s : Shared}
theorem OldX.inst (O : OldX X a D d oe) (I : Inv X pins σ H s) (hd : ∀ dd, d = some dd → ∃ fs, H dd = some (.xd fs)) : ∃ od, PySem.W.InstAt s.heap a oe D od := by
  obtain ⟨vs, hf⟩ := O.hf
  cases d with
  | none => exact ⟨none, O.now I, O.hz.1, by unfold PySem.W.notCls; rw [hf] <;> rfl, by rw [O.hz.2]; trivial⟩
  | some dd =>
    obtain ⟨fs, e⟩ := hd dd rfl
    have hx : ObjOk X.prog X.w H s.heap dd (.xd fs) := I.hok dd _ e
    obtain ⟨mA, hns, _⟩ := hx
    obtain ⟨od, ho, _⟩ := lookIn_ns hns
    exact ⟨some od, O.now I, O.hz.1, by unfold PySem.W.notCls; rw [hf] <;> rfl, by rw [O.hz.2]; exact ho⟩
/-- isinstance(e, c) -/
def rIsX (K : PySem.W.Frag) (D a : Addr) (d : Option Addr) : List V → Hp → VK → Prop := fun xs H Q => ∃ (c : V) (cv : Value) (b : Bool), xs = [.ref a, c] ∧ (∀ u, RelV c u → u = cv) ∧ PySem.W.kitOne K (.ref D) cv = some b ∧ (∀ dd, d = some dd → ∃ fs, H dd = some (.xd fs)) ∧ Q (.bl b) H
theorem call_isX (C : AskC X.K D) (O : OldX X a D d oe) : CallR X (.builtin "isinstance") (rIsX X.K D a d) := by
  intro pins s σ H xs us Q I r h
  obtain ⟨c, cv, b, rfl, hcv, e, hd, q⟩ := h
  cases r with
  | cons rx rr =>
    cases rr with
    | cons rt rr =>
      cases rr
      cases rx
      have ec := hcv _ rt
      subst ec
      obtain ⟨od, J⟩ := O.inst I hd
      exact PySem.W.kia_one (PySem.W.kitx_exc C.cl C.ga C.gg C.bs C.ca C.cg C.ct C.ob) I.kIn J e (fun z => nomatch z) fun tk => ⟨.bl b, H, I.kept (t' := tk) fun _ _ z => z, rfl, q⟩
/-- e.f -/
def tXo (a : Addr) (d : Option Addr) (f : Str) (te : TE) : TE := fun σ H Q => te σ H fun x H1 => x = .ref a ∧ ∃ (dd : Addr) (fs : List (Str × V)) (v : V), d = some dd ∧ H1 dd = some (.xd fs) ∧ fs.lookup f = some v ∧ Q v H1
theorem pe_xo {e : Expr} {te : TE} {pos : Pos} {n : Str} (C : AskC X.K D) (O : OldX X a D d oe) (hno : PySem.W.findIn X.K (.ref D) n = some none) (he : PE X e te) (hb : attributeBase e n X.env (eval e X.env) = eval e X.env := by rfl) :
    PE X (.Attribute e n pos) (tXo a d n te) := by
  refine ⟨fun pins s σ H Q I h => ?_⟩
  refine attr_of hb (thn (he.run pins s σ H _ I h) fun u s1 hh => ?_)
  obtain ⟨x, H1, I1, rx, ex, dd, fs, v, ed, ea, l, q⟩ := hh
  subst ex
  obtain rfl : u = Value.ref a := rx
  subst ed
  obtain ⟨vs, hd⟩ := O.hf
  have hx : ObjOk X.prog X.w H1 s1.heap dd (.xd fs) := I1.hok dd _ ea
  obtain ⟨mA, hns, hr⟩ := hx
  obtain ⟨od, ho, hl⟩ := lookIn_ns hns
  obtain ⟨u, hu, ru⟩ := RelO.some_of (v := v) (o := mA n) (by rw [← l]; exact hr n)
  have J : PySem.W.InstAt s1.heap a oe D (some od) := ⟨O.now I1, O.hz.1, by unfold PySem.W.notCls; rw [hd] <;> rfl, by rw [O.hz.2]; exact ho⟩
  exact HandSPX.exc_get I1.kIn J C.ga C.gg C.bs (PySem.W.findObj_own C.hd hno rfl (by rw [hl, hu])) (handed_of ru) ⟨v, H1, I1.tok _, ru, q⟩
end
end PL

set_option maxHeartbeats 2000000
/-! RFc: in the PL layer: an exception that a def got (.raw (.ref a)): isinstance(e, c), e.f, e is None. -/
namespace PL
open PySem PySem.Spec PyProof.Rows L2
def isX (a : Addr) (b : Bool) : T → Option T
  | .raw (.ref a') => if a' = a then some (.bl b) else none
  | _ => none
def fldX (a : Addr) (o : Option T) : T → Option T
  | .raw (.ref a') => if a' = a then o else none
  | _ => none
theorem isX_inv {a : Addr} {b : Bool} {t z : T} (h : isX a b t = some z) : t = .raw (.ref a) ∧ z = .bl b := by
  unfold isX at h
  split at h
  · split at h
    · rename_i e
      subst e
      exact ⟨rfl, (Option.some.inj h).symm⟩
    · cases h
  · cases h
theorem fldX_inv {a : Addr} {o : Option T} {t z : T} (h : fldX a o t = some z) : t = .raw (.ref a) ∧ o = some z := by
  unfold fldX at h
  split at h
  · split at h
    · rename_i e
      subst e
      exact ⟨rfl, h⟩
    · cases h
  · cases h
/-- `is` where the left side may be such a value -/
def isR (neg : Bool) : T → T → Option T
  | .raw (.ref _), .non => some (.bl neg)
  | t, u => isT neg t u
section
variable {W : Type} {X : Cx} {G : Gm W} {E : XK} {e : Expr} {fa : Rho → M W T} {a D : Addr} {d : Option Addr} {oe : Obj} {x y : Str} {p p1 p2 pos : Pos}
structure XArg (X : Cx) (G : Gm W) (a D : Addr) (d : Option Addr) (oe : Obj) : Prop where
  C : AskC X.K D
  O : OldX X a D d oe
  B : ∀ dd, d = some dd → ∃ fs, G.B dd = some (.xd fs) ∧ ¬ G.O.D dd
theorem rep_raw {K : PySem.W.Frag} {F : Hp} {v u : V} (h : Rep K F v (.raw u)) : v = u := by cases h; rfl
theorem isRG {neg : Bool} : OpG X G (rIsA neg) (isR neg) := by
  intro ρ w σ H F x y t u z Q S hx hy hz k
  by_cases h : ∃ b, t = .raw (.ref b) ∧ u = .non
  · obtain ⟨b, rfl, rfl⟩ := h
    cases hz
    have e1 : x = .ref b := by
      rcases hx with hx | ⟨_, _, _, _, hx⟩ | ⟨_, _, _, _, _, hx⟩
      · exact rep_raw hx
      · cases hx
      · cases hx
    subst e1
    exact .inl ⟨hy.non, by have e : (if neg = true then !decide (V.ref b = V.non) else decide (V.ref b = V.non)) = neg := by cases neg <;> simp
                           rw [e]; exact k _ H F S .refl (.bl _)⟩
  · have hz' : isT neg t u = some z := by
      unfold isR at hz
      split at hz
      · exact absurd ⟨_, rfl, rfl⟩ h
      · exact hz
    exact isG ρ w σ H F x y t u z Q S hx hy hz' k
/-- isinstance(e, c), c an own class -/
theorem pv_isX {Ci : Addr} {b : Bool} (A : XArg X G a D d oe) (hb : PySem.W.kitOne X.K (.ref D) (.ref Ci) = some b) (hg : Gl X "isinstance") (hm : X.mg "isinstance" = none) (hg2 : Gl X y) (hm2 : X.mg y = some (.ref Ci)) (ha : PV X G E e fa) (hd2 : (y == ("__debug__" : Str)) = false := by decide)
    (he : starEach [e, .Name y p2] X.env = (false, eval e X.env) :: starEach [.Name y p2] X.env := by rfl) (he2 : starEach [.Name y p2] X.env = (false, eval (.Name y p2) X.env) :: starEach [] X.env := by rfl) (hpl : (backTo pos (starEach [.Name y p2] X.env)).any (·.1) = false := by rfl) :
    PV X G E (.Call (.Name "isinstance" p) [e, .Name y p2] [] pos) (f1 (isX a b) fa) :=
  ⟨(pe_callB (call_isX A.C A.O) hg hm PyProof.Rows.boot_isinstance (pa_cons ha.run (pa_cons (pe_glob (v := .ref Ci) hg2 hm2 rfl hd2) pa_nil he2) he) (by decide) (by decide) he hpl).imp fun σ H Q => by
    rintro ⟨ρ, w, F, q, w', S, hf, acc⟩
    refine tV.bind (X := X) S hf acc.er fun t w1 x H1 F1 S1 s1 r1 hk => ?_
    obtain ⟨z, hz, rfl, rfl⟩ := lift_inv hk
    obtain ⟨rfl, rfl⟩ := isX_inv hz
    obtain rfl := rep_raw r1
    exact ⟨.ref Ci, .ref Ci, b, rfl, fun u hu => hu, hb, fun dd e => by
      obtain ⟨fs, h1, h2⟩ := A.B dd e
      exact ⟨fs, S1.keep dd _ h1 h2⟩, acc _ H1 F1 S1 s1 (.bl _)⟩⟩
/-- isinstance(e, c), c a built-in class -/
theorem pv_isXB {n : String} {b : Bool} (A : XArg X G a D d oe) (hb : PySem.W.kitOne X.K (.ref D) (.type n) = some b) (hg : Gl X "isinstance") (hm : X.mg "isinstance" = none) (hg2 : Gl X y) (hm2 : X.mg y = none) (hv2 : bootBuiltins y = some (.type n)) (ha : PV X G E e fa) (hn2 : y ≠ "__name__" := by decide) (hd2 : (y == ("__debug__" : Str)) = false := by decide)
    (he : starEach [e, .Name y p2] X.env = (false, eval e X.env) :: starEach [.Name y p2] X.env := by rfl) (he2 : starEach [.Name y p2] X.env = (false, eval (.Name y p2) X.env) :: starEach [] X.env := by rfl) (hpl : (backTo pos (starEach [.Name y p2] X.env)).any (·.1) = false := by rfl) :
    PV X G E (.Call (.Name "isinstance" p) [e, .Name y p2] [] pos) (f1 (isX a b) fa) :=
  ⟨(pe_callB (call_isX A.C A.O) hg hm PyProof.Rows.boot_isinstance (pa_cons ha.run (pa_cons (pe_bltn (v := .ty n) hg2 hm2 hv2 rfl hn2 hd2) pa_nil he2) he) (by decide) (by decide) he hpl).imp fun σ H Q => by
    rintro ⟨ρ, w, F, q, w', S, hf, acc⟩
    refine tV.bind (X := X) S hf acc.er fun t w1 x H1 F1 S1 s1 r1 hk => ?_
    obtain ⟨z, hz, rfl, rfl⟩ := lift_inv hk
    obtain ⟨rfl, rfl⟩ := isX_inv hz
    obtain rfl := rep_raw r1
    exact ⟨.ty n, .type n, b, rfl, fun u hu => hu, hb, fun dd e => by
      obtain ⟨fs, h1, h2⟩ := A.B dd e
      exact ⟨fs, S1.keep dd _ h1 h2⟩, acc _ H1 F1 S1 s1 (.bl _)⟩⟩
/-- e.f, e in the i-th slot; o: what stands there, if anything -/
theorem pv_fldX {o : Option T} {f n : Str} (i : Nat) (A : XArg X G a D d oe) (ho : ∀ t, o = some t → PySem.W.findIn X.K (.ref D) f = some none ∧ ∃ dd fs v, d = some dd ∧ G.B dd = some (.xd fs) ∧ ¬ G.O.D dd ∧ fs.lookup f = some v ∧ Rep X.K G.F0 v t) (ha : PV X G E (.Name n p) (fVar i))
    (hb : attributeBase (.Name n p) f X.env (eval (.Name n p) X.env) = eval (.Name n p) X.env := by rfl) : PV X G E (.Attribute (.Name n p) f pos) (f1 (fldX a o) (fVar i)) := by
  cases o with
  | none =>
    refine ⟨⟨fun pins s σ H Q I h => ?_⟩⟩
    obtain ⟨ρ, w, F, r, w', S, hf, acc⟩ := h
    exfalso
    have hf : bnd (fVar i ρ) (fun t => lift (fldX a none t)) w = some (r, w') := hf
    rcases bnd_inv hf with ⟨t, w1, h1, h2⟩ | ⟨e, h1, rfl⟩
    · obtain ⟨z, hz, _, _⟩ := lift_inv h2
      obtain ⟨_, q⟩ := fldX_inv hz
      cases q
    · obtain ⟨z, _, q, _⟩ := lift_inv h1
      cases q
  | some t0 =>
    obtain ⟨hno, hd⟩ := ho t0 rfl
    exact ⟨(pe_xo A.C A.O hno ha.run hb).imp fun σ H Q => by
      rintro ⟨ρ, w, F, q, w', S, hf, acc⟩
      refine tV.bind (X := X) S hf acc.er fun t w1 x H1 F1 S1 s1 r1 hk => ?_
      obtain ⟨z, hz, rfl, rfl⟩ := lift_inv hk
      obtain ⟨rfl, h0⟩ := fldX_inv hz
      cases h0
      obtain rfl := rep_raw r1
      obtain ⟨dd, fs, v, h1, h2, h3, h4, h5⟩ := hd
      exact ⟨rfl, dd, fs, v, h1, S1.keep dd _ h2 h3, h4, acc v H1 F1 S1 s1 (h5.mono S1.grow)⟩⟩
end
end PL

set_option maxHeartbeats 2000000
/-! RFd: xs.count(b), b True or False. -/
namespace PL
open PySem PySem.Spec PyProof.Rows L2
section
variable {X : Cx}
def rCntB (K : PySem.W.Frag) : V → List V → Hp → VK → Prop := fun x xs H Q => ∃ (p : Addr) (bs : List Bool) (b : Bool), x = .ref p ∧ xs = [.bl b] ∧ SqL K H p (bs.map V.bl) ∧ Q (.int (bs.count b : Nat)) H
theorem count_bls {b : Bool} : ∀ {bs : List Bool} {us : List Value}, Vals (bs.map V.bl) us → us.countP (eqU (.bl b)) = bs.count b
  | [], us, r => by cases r; rfl
  | c :: bs, us, r => by
    cases r with
    | cons h t =>
      rw [List.countP_cons, List.count_cons, count_bls t, eqU_of h rfl]
      rfl
theorem mt_countB : MtR X "list.count" (rCntB X.K) := by
  intro pins s σ H x xs v us Q I rx rxs h
  obtain ⟨p, bs, b, rfl, rfl, hs, q⟩ := h
  cases rx
  obtain ⟨u, rfl, ru⟩ := rxs.one
  obtain ⟨its, rv, ⟨⟨cls, dd, data, sl⟩, n, ho, hc, hdn, hd⟩, hlen⟩ := I.list hs
  simp only at hc hd
  subst hc hd
  have flat : (bs.map V.bl).all flatV = true := by
    rw [List.all_eq_true]
    intro v hv
    obtain ⟨c, _, rfl⟩ := List.mem_map.mp hv
    rfl
  refine call_meets PySem.F.slot_list_count ⟨_, ho, rfl⟩ PySem.F.entry_list_count (PySem.F.args_list_count_2 _ _)
    (SeqAt.list_countAt p its.toArray n dd sl u (eqU (.bl b))) ⟨ho, fun y hy => mem_eqAt ru rfl rv flat y (by simpa using hy), ?_⟩
  refine ⟨.int (bs.count b : Nat), H, I.tok _, ⟨s.toks, ?_⟩, q⟩
  show Value.int ((its.toArray.toList.countP (eqU (.bl b)) : Nat) : Int) s.toks = _
  rw [show its.toArray.toList = its from rfl, count_bls rv]
end
def countT : T → T → Option T
  | .lst ts, .bl b => (boolsT ts).bind fun bs => some (.int ((bs.count b : Nat) : Int))
  | _, _ => none
section
variable {W : Type} {X : Cx} {G : Gm W} {E : XK} {o e : Expr} {fa fb : Rho → M W T} {pos apos : Pos}
def fCount (fa fb : Rho → M W T) : Rho → M W T := fun ρ => bnd (fa ρ) fun t => bnd (lstM t) fun ts => bnd (fb ρ) fun u => lift (countT (.lst ts) u)
theorem pv_count (ha : PV X G E o fa) (hb : PV X G E e fb) (hs : starEach [e] X.env = (false, eval e X.env) :: starEach [] X.env := by rfl)
    (hpe : ∀ {te ta : TE}, PE X o te → PE X e ta → PE X (.Call (.Attribute o "count" apos) [e] [] pos) (tBM X.K "list" (rCntB X.K) te (tCons ta tNil))) :
    PV X G E (.Call (.Attribute o "count" apos) [e] [] pos) (fCount fa fb) := ⟨(hpe ha.run hb.run).imp fun σ H Q => by
  rintro ⟨ρ, w, F, r, w', S, hf, acc⟩
  refine tV.bind (X := X) S hf acc.er fun t w1 x H1 F1 S1 s1 r1 hk => ?_
  obtain ⟨ts, rfl, hk⟩ := lstM_bnd hk
  obtain ⟨p, vs, rfl, hF, rs⟩ := r1.lst_inv
  refine ⟨.inl ⟨rfl, vs, .of (S1.sub _ _ hF)⟩, ?_⟩
  refine tV.bind (X := X) S1 hk (acc.mono s1 S1.dH).er fun u w2 y H2 F2 S2 s2 r2 hk2 => ?_
  obtain ⟨z, hz, rfl, rfl⟩ := lift_inv hk2
  cases u with
  | bl b =>
    obtain ⟨bs, hbs, hz⟩ := Option.bind_eq_some_iff.mp (show (boolsT ts).bind _ = some z from hz)
    cases hz
    obtain rfl := r2.bl_inv
    have hv := rs.bools hbs
    subst hv
    exact ⟨p, bs, b, rfl, rfl, .of (S2.sub _ _ (s2.same _ _ hF)), acc _ H2 F2 S2 (s1.trans s2 S1.dH) (.int _)⟩
  | _ => cases hz⟩
end
end PL

set_option maxHeartbeats 2000000
/-! RFe: a def called, its body told at the very state. -/
namespace PL
open PySem PySem.Spec PyProof.Rows L2
section
variable {W : Type} {P : Program} {w : World} {K : PySem.W.Frag} {mg : Str → Option Value} {base : Heap}
theorem body_at {x qual : Str} {st : Stmt} {f : Addr} {fd : FuncData} {N ps : List Str} {k : Nat} {g : Rho → M W Fl} {A : Around} {outer : List PySem.Env} {s : Shared} {H : Hp} {args : Args} {us : List Value} {vs : List V} {Q : VK} {E : XK} {G : Gm W}
    (F : Fun K x qual st f fd) (S : FnScope N ps (defScope st)) (hl : vs.length = ps.length) (hr : Room (k + 1) A) (hgd : A.guards = some []) (e0 : Env0 P w K mg base A outer s H) (hb : BindsTo s fd args (ps.zip us)) (r : Vals vs us)
    (hbody : ∀ cdv : Value, Room k (A.deeper (envOfC qual (defScope st) s.heap.objs.size f cdv)) → (A.deeper (envOfC qual (defScope st) s.heap.objs.size f cdv)).guards = some [] →
      PDs (cxOf (L2.CX P w) P w K mg base N qual (defScope st) f cdv A outer s H E) G E (defBody st) g)
    (hG : tS K G E g { nx := fun _ H' => Q .non H', rt := Q } (start N vs) H) : codeAny (model P w) A (.call (.ref f) args) (CR (L2.CX P w) outer P w H s Q E) s := by
  obtain ⟨oc, od, kV, doc, pm, an, cdv, ct, osl, rfl, lk, hcd⟩ := F.ex
  have KX : K.In s.heap := e0.mod.kin.keeps fun b o e => (e0.bs b o e).1
  have hkind : ∀ y ∈ ps.zip us, (defScope st).names.lookup y.1 = some .local ∨ ((defScope st).names.lookup y.1 = some .cell ∧ ((cellsFrom (s.heap.objs.size + 1) (defScope st).names []).lookup y.1).isSome = true) := fun ⟨z, v⟩ hy =>
    (S.par z (List.of_mem_zip hy).1).imp id fun q => ⟨q, PySem.W.cellsFrom_some _ _ _ (.inl q)⟩
  refine codeAny_call_function hr.depth (KX _ _ lk) rfl S.co S.gen rfl (PySem.W.codeRec_of KX hcd) (hb _ _ _ _ (wpAny_newFunctionEnv_cells S.kind hkind fun env he s1 e1 => ?_))
  subst he
  have I : Inv (cxOf (L2.CX P w) P w K mg base N qual (defScope st) f cdv A outer s H E) [] (start N vs) H s1 := inv_start S hr.hd e0 hl r e1
  refine ⟨(e0.mod.nolimit.keeps fun b o e => (e0.bs b o e).1).keeps e1.toInCall.keep, codeAny_func (wpAny_mono ((hbody cdv (hr.deeper _) hgd).run.run [] s1 (start N vs) H _ I hG) (fun fl s' hs => ?_) fun e s' hs => hs)⟩
  cases fl with
  | ret u =>
    obtain ⟨v, σ', H', J, rv, q⟩ := hs
    exact ⟨v, H', J.os, J.bare, J.base, J.hok, rv, q⟩
  | next =>
    obtain ⟨σ', H', J, q⟩ := hs
    exact ⟨.non, H', J.os, J.bare, J.base, J.hok, rfl, q⟩
  | brk =>
    obtain ⟨_, _, _, q⟩ := hs
    exact q.elim
  | cont =>
    obtain ⟨_, _, _, q⟩ := hs
    exact q.elim
end
section
variable {X : Cx} {a D : Addr} {d : Option Addr} {oe : Obj}
/-- an exception that stands when a def is entered is an old one there -/
theorem oldX_enter {CX : CXT} {P : Program} {w : World} {K : PySem.W.Frag} {mg : Str → Option Value} {base : Heap} {N : List Str} {qual : Str} {sc : Scope} {f : Addr} {cdv : Value} {A : Around} {outer : List PySem.Env} {s : Shared} {H : Hp} {E : XK}
    (h1 : s.heap.get? a = some oe) (h2 : H a = none) (h3 : a ∉ frs outer) (hz : Zc (.ref D) d oe) (hf : ∃ vs, oe.data = .fields vs) : OldX (cxOf CX P w K mg base N qual sc f cdv A outer s H E) a D d oe :=
  ⟨fun I => I.base.keep a oe h1 h2 h3 (fun z => nomatch (show a ∈ ([] : List Addr) from z)), hz, hf⟩
end
end PL

set_option maxHeartbeats 2000000
/-! RFf: return f(e), e an exception that is known as a pin. -/
namespace PL
open PySem PySem.Spec PyProof.Rows L2
/-- what a def does with an exception that it gets; KT: its reading -/
def AsksX (P : Program) (w : World) (K : PySem.W.Frag) (mg : Str → Option Value) (base : Heap) (k : Nat) (g : Addr) (fd : FuncData) (y : Str) (KT : Addr → Value → Option Addr → VK → Hp → Prop) : Prop :=
  ∀ (A : Around) (outer : List PySem.Env) (s : Shared) (H : Hp) (args : Args) (Q : VK) (a : Addr) (cls : Value) (d : Option Addr) (oe : Obj), Room k A → A.guards = some [] → Env0 P w K mg base A outer s H → BindsTo s fd args ([y].zip [.ref a]) →
    s.heap.get? a = some oe → H a = none → a ∉ frs outer → Zc cls d oe → (∃ vs, oe.data = .fields vs) → KT a cls d Q H → codeAny (model P w) A (.call (.ref g) args) (CR (L2.CX P w) outer P w H s Q fun _ _ _ => False) s
section
variable {X : Cx} {KT : Addr → Value → Option Addr → VK → Hp → Prop} {k i : Nat} {g : Addr} {fd : FuncData} {x y z : Str} {p1 p2 p3 p4 : Pos}
theorem ret_known (KF : AsksX X.prog X.w X.K X.mg X.base k g fd y KT) (hr : Room k X.A) (hgd : X.A.guards = some []) (hg : Gl X x) (hm : X.mg x = some (.ref g)) (hk : PySem.W.keepIn X.K (.ref g) = true) (hb : L2.Binds X.K fd [y] []) (hN : X.N[i]? = some z) (hv : Vis X.env.scope z)
    {a : Addr} {oe : Obj} {cls : Value} {d : Option Addr} (hz : Zc cls d oe) (hf : ∃ vs, oe.data = .fields vs) {pins : List (Addr × Obj)} {s : Shared} {σ : L2.St} {H : Hp} {D : Ends} (I : Inv X ((a, oe) :: pins) σ H s) (hs : σ[i]? = some (some (.ref a))) (hq : KT a cls d D.rt H)
    (hdb : (x == ("__debug__" : Str)) = false := by decide) (hd : (z == ("__debug__" : Str)) = false := by decide) (hcd : (z == ("__classdict__" : Str)) = false := by decide)
    (he : starEach [.Name z p2] X.env = (false, eval (.Name z p2) X.env) :: starEach [] X.env := by rfl) (hpl : (backTo p3 (starEach [] X.env)).any (·.1) = false := by rfl) :
    wpAny (model X.prog X.w) X.A (execs [.Return (some (.Call (.Name x p1) [.Name z p2] [] p3)) p4] X.env) (SP X ((a, oe) :: pins) D) X.xe s := by
  have call : wpAny (model X.prog X.w) X.A (eval (.Call (.Name x p1) [.Name z p2] [] p3) X.env) (EP X ((a, oe) :: pins) σ D.rt) X.xe s := by
    refine wpAny_Call_Name_kw (ld_glob I hg hm ?_ hdb)
    have args := (pa_cons (pe_var (pos := p2) hN hv hd hcd) pa_nil he).run p3 ((a, oe) :: pins) s σ H (fun vs H1 => vs = [.ref a] ∧ H1 = H) I ⟨.ref a, hs, rfl, rfl⟩
    refine PySem.W.callWith_K (h₀ := X.base) I.ok.mod.kin hk (thn args fun us s1 ⟨vs, H1, I1, r, q⟩ => ⟨I1.kIn, ?_⟩) he hpl
    obtain ⟨rfl, rfl⟩ := q
    obtain rfl := Vals.ref1 r
    obtain ⟨g1, g2, g3, g4, _⟩ := I1.pin (a, oe) (List.mem_append_right _ List.mem_cons_self)
    have off : a ∉ frs X.stack := fun z => (List.mem_cons.mp (I1.stkSub _ z)).elim g3 g4
    refine wpAny_call (codeAny_mono (KF X.A X.stack s1 H1 ⟨[.ref a], []⟩ D.rt a cls d oe hr hgd I1.env0 (hb s1 [.ref a] I1.kIn rfl) g1 g2 off hz hf hq) fun r s2 out => ?_)
    match r, out with
    | .error e, out =>
      obtain ⟨_, _, _, _, _, _, _, _, _, _, _, _, no⟩ := out
      exact no.elim
    | .ok (.ret u), out => exact I1.after out
    | .ok .next, out => exact out.elim
    | .ok .brk, out => exact out.elim
    | .ok .cont, out => exact out.elim
  refine wpAny_execs_cons (wpAny_Return_some (thn call fun v s1 ⟨u, H1, I1, r1, q1⟩ => ?_))
  exact ⟨u, σ, H1, I1, r1, q1⟩
end
end PL

set_option maxHeartbeats 2000000
/-! RFg: caught = None; try: work() / except C as e: caught = e; return kind(caught). -/
namespace PL
open PySem PySem.Spec PyProof.Rows L2 LamX
/-- what such a def makes of the reading of the lambda that it gets: KN of None, KT of what is caught -/
def TRef (K : PySem.W.Frag) (CS : Addr) (KN : VK → Hp → Prop) (KT : Addr → Value → Option Addr → VK → Hp → Prop) : (XK → Hp → VK → Prop) → Hp → VK → Prop := fun tl H Q =>
  tl (fun cls d H' => PySem.W.exmOne K cls (.ref CS) = some true ∧ ∀ a, H' a = none → KT a cls d Q H') H fun _ H' => KN Q H'
section
variable {X : Cx} {KN : VK → Hp → Prop} {KT : Addr → Value → Option Addr → VK → Hp → Prop} {k : Nat} {gk CS g : Addr} {fdk : FuncData} {x yk kd se wk cg er q : Str} {sg : Scope} {cdg : Value} {j0 : Nat} {p1 p2 p3 p4 p5 p6 p7 p8 p9 pa q1 q2 q3 q4 q5 q6 : Pos}
theorem refused_gives (KF : AsksX X.prog X.w X.K X.mg X.base k gk fdk yk KT) (KO : FnG X.prog X.w X.K X.mg X.base (L2.CX X.prog X.w) k gk fdk [yk] fun vs H Q _ => vs = [.non] ∧ KN Q H)
    (hr : Room (k + 1) X.A) (hgd : X.A.guards = some []) (mk : X.mg kd = some (.ref gk)) (kk : PySem.W.keepIn X.K (.ref gk) = true) (bk : L2.Binds X.K fdk [yk] []) (ms : X.mg se = some (.ref CS))
    (gs : sg.names.lookup se = some .globalImplicit) (gkd : sg.names.lookup kd = some .globalImplicit) (lc : sg.names.lookup cg = some .local) (le : sg.names.lookup er = some .local)
    (nd : [wk, cg, er].Nodup) (ds : (se == ("__debug__" : Str)) = false) (dk : (kd == ("__debug__" : Str)) = false) (dc : (cg == ("__debug__" : Str)) = false) (dcc : (cg == ("__classdict__" : Str)) = false) (de : (er == ("__debug__" : Str)) = false) (dec : (er == ("__classdict__" : Str)) = false) :
    GivesTo X [wk, cg, er] x sg g cdg
      [.Assign [.Name cg q1] (.Constant .none j0 q2) q3, .Try [.Expr (.Call (.Name wk p1) [] [] p2) p3] [.ExceptHandler (some (.Name se p4)) (some er) [.Assign [.Name cg q4] (.Name er q5) q6] p5] [] [] p6,
        .Return (some (.Call (.Name kd p7) [.Name cg p8] [] p9)) pa] wk q (TRef X.K CS KN KT) := by
  intro f c' s H Q tl act hc h
  let Z : Cx := (cxOf C8.CX0 X.prog X.w X.K X.mg X.base [wk, cg, er] x sg g cdg X.A X.stack s H C8.E0).nox
  have hrZ : Room k Z.A := hr.deeper _
  have gdZ : Z.A.guards = some [] := hgd
  have hx : Passes (L2.CX X.prog X.w) Z fun _ _ _ => False := fun _ _ _ _ _ _ _ out => by
    obtain ⟨_, _, _, _, _, _, _, _, _, _, _, _, no⟩ := out
    exact no.elim
  refine ⟨_, pss_cons (X := Z) (ps_set (i := 1) nd rfl (.inl lc) pe_non rfl (.inr lc)) (pss_try_asK (X := Z) (i := 2) (c := .ref CS)
    (tb := fun W D σ H => ∃ Ech : XK, (∀ cls d σ' H', Ech cls d H' → W cls d σ' H') ∧ σ[0]? = some (some (.ref f)) ∧ H c' = some (CodeO c' q) ∧ tl Ech H fun _ H' => D.nx σ H')
    (ts := fun a cls d D σ H => ∃ v, σ[2]? = some (some v) ∧ D.nx (σ.set 1 (some v)) H)
    (tr := fun a cls d D σ H => σ[1]? = some (some (.ref a)) ∧ KT a cls d D.rt H)
    rfl rfl nd rfl le ⟨gs, ds, .inl ms⟩ (fun W pn xe tk => ?_) (fun a oe cls d pn hz hf => ?_) (pss_one (ps_ret (pe_callG KO hrZ gdZ gkd mk kk bk hx (pa_cons (pe_var (i := 1) rfl (.inl lc) dc dcc) pa_nil) dk))) (fun a oe cls d hz hf pins s σ H D I k => ?_)), ?_⟩
  · refine ⟨fun pins s' σ H D I h' => ?_⟩
    obtain ⟨Ech, hW, h1, h2, h3⟩ := h'
    exact (pss_one (ps_expr (act W pn xe Ech p1 p2 tk hW))).run pins s' σ H D I ⟨h1, h2, h3⟩
  · exact (pss_one (ps_set (X := Z.suite a ((a, oe) :: pn)) (i := 1) nd rfl (.inl lc) (pe_var (i := 2) rfl (.inl le) de dec) rfl (.inr lc)))
  · exact ret_known (X := Z) KF hrZ gdZ gkd mk kk bk (i := 1) rfl (.inl lc) hz hf I k.1 k.2 dk dc dcc
  · have e : (fun (_ : V) (H' : Hp) => ∃ v, ((L2.start [wk, cg, er] [V.ref f]).set 1 (some V.non))[1]? = some (some v) ∧ [v] ++ [] = [V.non] ∧ KN Q H') = fun _ H' => KN Q H' := by
      funext _ H'
      exact propext ⟨fun ⟨_, _, _, h⟩ => h, fun h => ⟨.non, rfl, rfl, h⟩⟩
    refine ⟨fun cls d H' => PySem.W.exmOne X.K cls (.ref CS) = some true ∧ ∀ a, H' a = none → KT a cls d Q H', fun cls d σ' H' w => ⟨w.1, fun a na hl => ⟨.ref a, ?_, ?_, w.2 a na⟩⟩, rfl, hc, (congrArg (fun R => tl (fun cls d H' => PySem.W.exmOne X.K cls (.ref CS) = some true ∧ ∀ a, H' a = none → KT a cls d Q H') H R) e).mpr h⟩
    · have hl : σ'.length = 3 := hl
      rw [List.getElem?_set_self (by omega)]
    · have hl : σ'.length = 3 := hl
      show ((((σ'.set 2 _).set 1 _).set 2 none)[1]?) = _
      rw [List.getElem?_set_ne (by omega), List.getElem?_set_self (by rw [List.length_set]; omega)]
end
end PL
namespace PL
open PySem PySem.Spec PyProof.Rows L2
/-- what raises nothing may be said to raise anything -/
theorem noCR {P : Program} {w : World} {A : Around} {outer : List PySem.Env} {s : Shared} {H : Hp} {Q : VK} {E : XK} {cl : Code} (h : codeAny (model P w) A cl (CR (L2.CX P w) outer P w H s Q fun _ _ _ => False) s) : codeAny (model P w) A cl (CR (L2.CX P w) outer P w H s Q E) s := codeAny_mono h fun r s' out => by
  cases r with
  | error e =>
    obtain ⟨_, _, _, _, _, _, _, _, _, _, _, _, no⟩ := out
    exact no.elim
  | ok fl => cases fl <;> exact out
end PL

set_option maxHeartbeats 2000000
/-! RFh: a lambda made, all but its maker's table of code objects being kept. -/
namespace PL
open PySem PySem.Spec PyProof.Rows L2 LamX
section
variable {X : Cx} {pins : List (Addr × Obj)} {σ : L2.St} {H : Hp} {s : Shared}
/-- all but what stands at P is kept -/
def ExtP (P : Addr) (H H1 : Hp) : Prop := ∀ b o, b ≠ P → H b = some o → H1 b = some o
theorem ExtP.other {P P2 : Addr} {q : Str} {H1 : Hp} (e : ExtP P H H1) (n : P2 ≠ P) (hP : ∃ ps, H P = some (.tbl ps)) (t : TabS H P2 q) : TabS H1 P2 q := by
  obtain ⟨ps0, h0⟩ := hP
  obtain ⟨ps, h1, h2, h3⟩ := t
  refine ⟨ps, e _ _ n h1, h2, fun pos cv hc => ?_⟩
  obtain ⟨c, e1, e2⟩ := h3 pos cv hc
  refine ⟨c, e1, e _ _ (fun z => ?_) e2⟩
  rw [z, h0] at e2
  exact codeO_ne ps0 (Option.some.inj e2).symm
theorem new_off (I : Inv X pins σ H s) {f : Addr} (hf : s.heap.objs.size ≤ f) : f ∉ frs X.stack := fun hm => by
  rcases List.mem_cons.mp (I.stkSub _ hm) with e | e
  · have low := I.lt
    rw [← e] at low
    exact Nat.lt_irrefl f (Nat.lt_of_lt_of_le low hf)
  · exact I.nofs hf e
theorem lam_made {c P : Addr} {params : Arguments} {body : Expr} {scope : Scope} {pos : Pos} {E : Value → Shared → Prop} {Q : Value → Shared → Prop} (I : Inv X pins σ H s) (TB : TabB X.base X.mg c P) (hcode : X.env.code = .ref c)
    (tab : TabS H P (X.env.qual ++ "<lambda>")) (hdef : defaultsOf params X.env = ([], [])) (hfree : ∀ y ∈ scope.names, y.2 = .free → ∃ c, X.env.cells.lookup y.1 = some c)
    (h : ∀ (f c' : Addr) (pm ctv : Value) (H1 : Hp) (s' : Shared), Inv X pins σ H1 s' → ExtP P H H1 → TabS H1 P (X.env.qual ++ "<lambda>") →
      s'.heap.get? f = some (PySem.W.kla_obj "<lambda>" (X.env.qual ++ "<lambda>") params body scope (cloFrom X.env.cells scope.names []) pm c' ctv) → H1 f = none → f ∉ frs X.stack → H1 c' = some (CodeO c' (X.env.qual ++ "<lambda>")) → Q (.ref f) s') :
    wpAny (model X.prog X.w) X.A (eval (.Lambda params body scope pos) X.env) Q E s := by
  obtain ⟨ps, hP, ht, known⟩ := tab
  have here : s.heap.get? P = some { cls := .none, data := .fields ps } := I.hok P _ hP
  refine PySem.W.kla_eval hdef ?_
  match hc : codeAmong pos ps.toList with
  | some cv =>
    obtain ⟨c', rfl, hco⟩ := known pos cv hc
    refine PySem.W.kla_makeFunctionHit (mg := X.mg) (c := c) (P := P) (ps := ps) (closure_ok hfree) I.ok.glob (I.mod.glob.keeps I.bk) hcode (TB.code.keeps I.bk) here ht hc (TB.bm.keeps I.bk) fun ctv h' tk old size => ?_
    exact h _ c' _ ctv H _ (I.kept fun b o e => Heap.get?_push_of_some _ (old b o e)) (fun _ _ _ e => e) ⟨ps, hP, ht, known⟩ (Heap.get?_push_size _ rfl) (I.hok.fresh size) (new_off I size) hco
  | none =>
    refine PySem.W.kla_makeFunction (mg := X.mg) (c := c) (P := P) (ps := ps) (closure_ok hfree) I.ok.glob (I.mod.glob.keeps I.bk) hcode (TB.code.keeps I.bk) here ht hc TB.gP (TB.bm.keeps I.bk) fun c' ctv h' tk old size lt made there => ?_
    obtain ⟨_, oc, vs, t, e0, at_, isF, nm⟩ := made
    cases e0
    have size' : s.heap.objs.size ≤ h'.objs.size := by omega
    have noC : H c' = none := I.hok.fresh size
    have more : (ps ++ #[rawInt pos.line, rawInt pos.col, .ref c']).toList = ps.toList ++ [rawInt pos.line, rawInt pos.col, .ref c'] := by simp
    have J := inv_table (q := X.env.qual ++ "<lambda>") (t' := tk) (more := #[rawInt pos.line, rawInt pos.col, .ref c']) (h' := h'.push (PySem.W.kla_obj "<lambda>" (X.env.qual ++ "<lambda>") params body scope (cloFrom X.env.cells scope.names []) ((X.mg "__name__").getD .none) c' ctv)) I hP
      (fun b o n e => Heap.get?_push_of_some _ (old b o n e)) (Heap.get?_push_of_some _ there) size ⟨oc, vs, t, Heap.get?_push_of_some _ at_, isF, nm⟩
    have ext : ExtP P H (upd (upd H P (.tbl (ps ++ #[rawInt pos.line, rawInt pos.col, .ref c']))) c' (CodeO c' (X.env.qual ++ "<lambda>"))) := fun b o n e => by rw [upd_ne (ne_of_none e noC), upd_ne n, e]
    refine h _ c' _ ctv _ _ J ext ⟨_, by rw [upd_ne (ne_of_none hP noC), upd_same], by rw [more]; exact PySem.TriplesOk_snoc _ _ _ _ ht, fun p cv hcv => ?_⟩ (Heap.get?_push_size _ rfl) ?_ (new_off I size') upd_same
    · rw [more] at hcv
      rcases among_app _ ht hcv with k | rfl
      · obtain ⟨c0, e1, e2⟩ := known p cv k
        exact ⟨c0, e1, ext _ _ (fun z => codeO_ne ps (Option.some.inj ((z ▸ e2).symm.trans hP))) e2⟩
      · exact ⟨c', rfl, upd_same⟩
    · have fP : h'.objs.size ≠ P := Nat.ne_of_gt (Nat.lt_of_lt_of_le (Heap.lt_size here) size')
      rw [upd_ne (Nat.ne_of_gt lt), upd_ne fP]
      exact I.hok.fresh size'
end
end PL

set_option maxHeartbeats 2000000
/-! RFi: x(lambda: body), all but the maker's table being kept by the making. -/
namespace PL
open PySem PySem.Spec PyProof.Rows L2 LamX
def tLamP (P : Addr) (q : Str) (TT : (XK → Hp → VK → Prop) → Hp → VK → Prop) (t : XK → TE) : TE := fun σ H Q => TabS H P q ∧ ∀ H1, ExtP P H H1 → TabS H1 P q → TT (fun E H' Q' => t E σ H' Q') H1 Q
section
variable {X : Cx} {TT : (XK → Hp → VK → Prop) → Hp → VK → Prop} {x a : Str} {g c P : Addr} {k : Nat} {st : Stmt} {fd : FuncData} {Ng : List Str} {params : Arguments} {body : Expr} {scope : Scope} {t : XK → TE} {p lpos pos : Pos}
theorem pe_lamP (hg : Gl X x) (hm : X.mg x = some (.ref g)) (F : Fun X.K x x st g fd) (hb : L2.Binds X.K fd [a] []) (Sg : FnScope Ng [a] (defScope st)) (h0 : Ng[0]? = some a) (hva : Vis (defScope st) a)
    (hG : ∀ cdv : Value, GivesTo X Ng x (defScope st) g cdv (defBody st) a (X.env.qual ++ "<lambda>") TT)
    (TB : TabB X.base X.mg c P) (hcode : X.env.code = .ref c) (hr : Room (k + 2) X.A) (L : LamS X.env.scope scope) (hdef : defaultsOf params X.env = ([], []))
    (hbind : ∀ (q : Str) (cl : List (Str × Addr)) (pm cv ctv : Value), bindArgs (PySem.W.kla_fn "<lambda>" q params body scope cl pm cv ctv) ⟨[], []⟩ = pure [])
    (hbody : ∀ (A : Around) (outer : List PySem.Env) (s : Shared) (H : Hp) (E : XK) (f c' : Addr), Room k (A.deeper (lamEnv X scope s.heap.objs.size f c')) → PE (lamCx X A outer s H E scope f c') body (t E))
    (hdb : (x == ("__debug__" : Str)) = false := by decide) (hd : (a == ("__debug__" : Str)) = false := by decide) (hcd : (a == ("__classdict__" : Str)) = false := by decide) :
    PE X (.Call (.Name x p) [.Lambda params body scope lpos] [] pos) (tLamP P (X.env.qual ++ "<lambda>") TT t) := by
  obtain ⟨oc, od, kV, doc, pm0, an, cdv, ct, osl, rfl, lk, hcg⟩ := F.ex
  refine ⟨fun pins s σ H Q I h => wpAny_Call_Name_kw (ld_glob I hg hm (PySem.W.callWith_K (h₀ := X.base) I.ok.mod.kin F.kp ?_ (by rfl) (by rfl)) hdb)⟩
  show wpAny _ _ (spliced ((false, eval (.Lambda params body scope lpos) X.env) :: backTo pos (starEach [] X.env))) _ _ s
  refine Calls.spliced_cons (lam_made I TB hcode h.1 hdef (L.has I.ok) fun f c' pm ctv H1 s1 I1 ext tab1 here new off code => Calls.spliced_nil ⟨I1.kIn, wpAny_call (codeAny_mono (R := CR C8.CX0 X.stack X.prog X.w H1 s1 Q C8.E0) ?_ fun r s2 out => ?_)⟩)
  · refine run_ofS (N := Ng) (ps := [a]) (us := [.ref f]) (vs := [.ref f]) lk hcg Sg hr I1.env0 (hb s1 [.ref f] I1.kIn rfl) (.cons rfl .nil) rfl fun hr1 => ?_
    obtain ⟨u, hu, start⟩ := hG cdv f c' s1 H1 Q (fun E H' Q' => t E σ H' Q') (fun W pn xe E p1 p2 tk hW => pe_act (i := 0) I1 L here new off (hbind _ _ _ _ _) tk hW hr1 (fun A outer s H hr2 => hbody A outer s H E f c' hr2) h0 hva hd hcd) code (h.2 H1 ext tab1)
    exact ⟨u, hu.nox, start⟩
  · match r, out with
    | .ok (.ret u), out => exact I1.after out
    | .ok .next, out => exact out.elim
    | .ok .brk, out => exact out.elim
    | .ok .cont, out => exact out.elim
    | .error e, out => exact (show False from out).elim
end
end PL

set_option maxHeartbeats 2000000
/-! RFj: the state behind the making of a lambda, in the PL layer (with the world of tb/). -/
namespace PL
open PySem PySem.Spec PyProof.Rows L2 LamX
section
variable {W : Type} {K : PySem.W.Frag} {G : Gm W} {ρ : Rho} {w : W} {σ : L2.St} {H H1 F : Hp} {P : Addr} {q : Str}
/-- the world keeps the table at P -/
structure TabOk (G : Gm W) (P : Addr) (q : Str) : Prop where
  inD : G.O.D P
  get : ∀ {H : Hp} {w : W}, G.O.ok H w → TabS H P q
  put : ∀ {H H1 : Hp} {w : W}, G.O.ok H w → ExtP P H H1 → TabS H1 P q → G.O.ok H1 w
theorem Sd.made (TO : TabOk G P q) (S : Sd K G ρ w σ H F) (e : ExtP P H H1) (t : TabS H1 P q) : Sd K G ρ w σ H1 F := by
  obtain ⟨ps, hP, _⟩ := TO.get S.wok
  have nF : ∀ b o, F b = some o → b ≠ P := fun b o h z => by
    rw [z, S.dF P TO.inD] at h
    cases h
  refine ⟨fun b o h => e b o (nF b o h) (S.sub b o h), TO.put S.wok e t, S.dF, S.dB, fun b o h nd => e b o (fun z => nd (z ▸ TO.inD)) (S.keep b o h nd), S.grow, S.old, fun i s hs => ?_, S.apart, S.len⟩
  have k := S.slots i s hs
  have nL : ∀ p o, H p = some o → (∀ ps, o ≠ .tbl ps) → p ≠ P := fun p o h n z => by
    rw [z, hP] at h
    exact n ps (Option.some.inj h).symm
  cases s with
  | un => trivial
  | fz t => exact k
  | ow ts =>
    obtain ⟨p, vs, h1, h2, h3⟩ := k
    exact ⟨p, vs, h1, e p _ (nL p _ h2 (fun _ z => by cases z)) h2, h3⟩
  | od ks ts =>
    obtain ⟨p, vs, h1, h2, h3⟩ := k
    exact ⟨p, vs, h1, e p _ (nL p _ h2 (fun _ z => by cases z)) h2, h3⟩
/-- the draws' world with the table of P among its tables -/
theorem tabOk_dr {d l c : Addr} {T : List (Addr × Str)} {B F0 : Hp} (hm : (P, q) ∈ T) (hu : ∀ p ∈ T, p.1 = P → p.2 = q) : TabOk (⟨drWd d l c T, B, F0⟩ : Gm Dr) P q where
  inD := .inr ⟨(P, q), hm, rfl⟩
  get := fun h => h.2 _ hm
  put := fun {H H1 w} h e t => by
    obtain ⟨⟨a0, a1, a2, a3, h1, h2, h3, h4⟩, ht⟩ := h
    obtain ⟨ps, hP, _⟩ := ht _ hm
    have keep : ∀ p o, H p = some o → (∀ ps, o ≠ .tbl ps) → H1 p = some o := fun p o h n => e p o (fun z => by
      rw [z, hP] at h
      exact n ps (Option.some.inj h).symm) h
    refine ⟨⟨a0, a1, a2, a3, keep _ _ h1 (fun _ z => by cases z), keep _ _ h2 (fun _ z => by cases z), keep _ _ h3 (fun _ z => by cases z), h4⟩, fun p hp => ?_⟩
    by_cases hb : p.1 = P
    · rw [hu p hp hb, hb]
      exact t
    · exact e.other hb ⟨ps, hP⟩ (ht p hp)
end
end PL

set_option maxHeartbeats 2000000
/-! RFk: x(lambda: body) where no repr is under way (guards), in the PL layer: what is refused is told by a function of the exception. -/
namespace PL
open PySem PySem.Spec PyProof.Rows L2 LamX
section
variable {X : Cx} {TT : (XK → Hp → VK → Prop) → Hp → VK → Prop} {x a q : Str} {g c P f c' : Addr} {k i : Nat} {st : Stmt} {fd : FuncData} {Ng : List Str} {sg : Scope} {params : Arguments} {body : Expr} {scope : Scope} {p p1 p2 lpos pos : Pos} {pins : List (Addr × Obj)} {σ : L2.St} {H : Hp} {s : Shared} {cdg pm ctv : Value}
/-- the call of what was got, by the def that got it, guards told -/
theorem act_guarded {W : WX} {E : XK} {tb : TE} {xe : Value → Shared → Prop} {pn : List (Addr × Obj)} {Z : Cx} (I : Inv X pins σ H s) (L : LamS X.env.scope scope) (hgd : X.A.guards = some [])
    (here : s.heap.get? f = some (PySem.W.kla_obj "<lambda>" (X.env.qual ++ "<lambda>") params body scope (cloFrom X.env.cells scope.names []) pm c' ctv)) (new : H f = none) (off : f ∉ frs X.stack)
    (nobind : bindArgs (PySem.W.kla_fn "<lambda>" (X.env.qual ++ "<lambda>") params body scope (cloFrom X.env.cells scope.names []) pm (.ref c') ctv) ⟨[], []⟩ = pure [])
    (hZ : Z = (cxOf C8.CX0 X.prog X.w X.K X.mg X.base Ng q sg g cdg X.A X.stack s H C8.E0).tr pn xe) (tk : Takes Z W) (hW : ∀ cls d σ' H', E cls d H' → W cls d σ' H') (room : Room (k + 1) (X.A.deeper (envOfC q sg s.heap.objs.size g cdg)))
    (hbody : ∀ (A : Around) (outer : List Env) (s : Shared) (H : Hp), A.guards = some [] → Room k (A.deeper (lamEnv X scope s.heap.objs.size f c')) → PE (lamCx X A outer s H E scope f c') body tb)
    (hN : Ng[i]? = some a) (hv : Vis sg a) (hd : (a == ("__debug__" : Str)) = false) (hcd : (a == ("__classdict__" : Str)) = false) :
    PE Z (.Call (.Name a p1) [] [] p2) (fun σZ HZ Q => σZ[i]? = some (some (.ref f)) ∧ HZ c' = some (CodeO c' (X.env.qual ++ "<lambda>")) ∧ tb σ HZ Q) := by
  subst hZ
  refine ⟨fun pinsZ sZ σZ HZ Q IZ ⟨slot, code, want⟩ => wpAny_Call_Name_kw (thn ((pe_var (pos := p1) (i := i) hN hv hd hcd).run pinsZ sZ σZ HZ (fun v H1 => v = .ref f ∧ H1 = HZ) IZ ⟨.ref f, slot, rfl, rfl⟩) fun u s1 got => ?_)⟩
  obtain ⟨v, H1, I1, rv, rfl, rfl⟩ := got
  cases (show u = Value.ref f from rv)
  have keptF := I1.base.keep f _ here new off fun z => nomatch (show f ∈ ([] : List Addr) from z)
  obtain ⟨⟨oc, vs, t, at_, isF, nm⟩, _, _⟩ := I1.hok c' _ code
  have ran : codeAny (model X.prog X.w) (X.A.deeper (envOfC q sg s.heap.objs.size g cdg)) (.call (.ref f) ⟨[], []⟩) (CR (L2.CX X.prog X.w) (envOfC q sg s.heap.objs.size g cdg :: X.stack) X.prog X.w H1 s1 Q E) s1 := by
    refine PySem.W.kla_callFunE room.depth keptF rfl L.co L.gen rfl ⟨c', oc, vs, t, rfl, at_, isF, nm⟩ (nobind ▸ wpAny_pure (wpAny_newFunctionEnv (fun y hy => (L.own y hy).2) (fun y hy => absurd hy (by simp)) (fun h1 ns sb => ⟨I1.nolimit.fresh _ sb, ?_⟩) L.kind))
    have kp : ∀ b o, s1.heap.get? b = some o → h1.get? b = some o := fun b o e => sb.extBut b o (Nat.ne_of_lt (Heap.lt_size e)) (Heap.get?_push_of_some _ e)
    have J := lam_start2 (A := X.A.deeper (envOfC q sg s.heap.objs.size g cdg)) (outer := envOfC q sg s.heap.objs.size g cdg :: X.stack) (E := E) (f := f) (c' := c') (tk := s1.toks + ([] : List (Str × Value)).length) I L I1.env0 room.hd (I1.base : Un (frs X.stack) [] H H1 s.heap s1.heap) ns kp
    exact PySem.W.kla_codeExpr (wpAny_mono ((hbody (X.A.deeper (envOfC q sg s.heap.objs.size g cdg)) (envOfC q sg s.heap.objs.size g cdg :: X.stack) s1 H1 hgd (room.deeper _)).run [] _ _ H1 Q J want) (fun v s' hq => let ⟨w', H', J', rv, qq⟩ := hq; ⟨w', H', J'.os, J'.bare, J'.base, J'.hok, rv, qq⟩) fun e s' z => z)
  have passed := passes_call tk hW
  refine PySem.W.callWith_F0 ⟨_, _, _, _, keptF⟩ (wpAny_call (codeAny_mono ran fun r s' out => ?_))
  match r, out with
  | .error e, out => exact passed pinsZ σZ H1 s1 e s' I1 out
  | .ok (.ret u), out => exact I1.after out
  | .ok .next, out => exact out.elim
  | .ok .brk, out => exact out.elim
  | .ok .cont, out => exact out.elim
/-- x(lambda: body), as pe_lamP, guards told -/
theorem pe_lamG {t : XK → TE} (hg : Gl X x) (hm : X.mg x = some (.ref g)) (F : Fun X.K x x st g fd) (hb : L2.Binds X.K fd [a] []) (Sg : FnScope Ng [a] (defScope st)) (h0 : Ng[0]? = some a) (hva : Vis (defScope st) a)
    (hG : ∀ cdv : Value, GivesTo X Ng x (defScope st) g cdv (defBody st) a (X.env.qual ++ "<lambda>") TT)
    (TB : TabB X.base X.mg c P) (hcode : X.env.code = .ref c) (hr : Room (k + 2) X.A) (hgd : X.A.guards = some []) (L : LamS X.env.scope scope) (hdef : defaultsOf params X.env = ([], []))
    (nobind : ∀ (q : Str) (cl : List (Str × Addr)) (pm cv ctv : Value), bindArgs (PySem.W.kla_fn "<lambda>" q params body scope cl pm cv ctv) ⟨[], []⟩ = pure [])
    (hbody : ∀ (A : Around) (outer : List PySem.Env) (s : Shared) (H : Hp) (E : XK) (f c' : Addr), A.guards = some [] → Room k (A.deeper (lamEnv X scope s.heap.objs.size f c')) → PE (lamCx X A outer s H E scope f c') body (t E))
    (hdb : (x == ("__debug__" : Str)) = false := by decide) (hd : (a == ("__debug__" : Str)) = false := by decide) (hcd : (a == ("__classdict__" : Str)) = false := by decide) :
    PE X (.Call (.Name x p) [.Lambda params body scope lpos] [] pos) (tLamP P (X.env.qual ++ "<lambda>") TT t) := by
  obtain ⟨oc, od, kV, doc, pm0, an, cdv, ct, osl, rfl, lk, hcg⟩ := F.ex
  refine ⟨fun pins s σ H Q I h => wpAny_Call_Name_kw (ld_glob I hg hm (PySem.W.callWith_K (h₀ := X.base) I.ok.mod.kin F.kp (show wpAny _ _ (spliced ((false, eval (.Lambda params body scope lpos) X.env) :: backTo pos (starEach [] X.env))) _ _ s from ?_) (by rfl) (by rfl)) hdb)⟩
  refine Calls.spliced_cons (lam_made I TB hcode h.1 hdef (L.has I.ok) fun f c' pm ctv H1 s1 I1 ext tab1 here new off code => Calls.spliced_nil ⟨I1.kIn, wpAny_call (codeAny_mono (R := CR C8.CX0 X.stack X.prog X.w H1 s1 Q C8.E0) ?_ fun r s2 out => ?_)⟩)
  · refine run_ofS (N := Ng) (ps := [a]) (us := [.ref f]) (vs := [.ref f]) lk hcg Sg hr I1.env0 (hb s1 [.ref f] I1.kIn rfl) (.cons rfl .nil) rfl fun hr1 => ?_
    obtain ⟨u, hu, start⟩ := hG cdv f c' s1 H1 Q (fun E H' Q' => t E σ H' Q') (fun W pn xe E p1 p2 tk hW => act_guarded (i := 0) I1 L hgd here new off (nobind _ _ _ _ _) rfl tk hW hr1 (fun A outer s H gd hr2 => hbody A outer s H E f c' gd hr2) h0 hva hd hcd) code (h.2 H1 ext tab1)
    exact ⟨u, hu.nox, start⟩
  · match r, out with
    | .ok (.ret u), out => exact I1.after out
    | .ok .next, out => exact out.elim
    | .ok .brk, out => exact out.elim
    | .ok .cont, out => exact out.elim
    | .error e, out => exact (show False from out).elim
end
section
variable {W : Type}
/-- what is the body's own is not seen -/
def Sl.hid : Sl → Sl
  | .fz t => .fz t
  | _ => .un
/-- the work is done; what it raises is told by kd, else by kn -/
def fRef (kn : T → Option T) (kd : Er → Option T) (fb : Rho → M W T) : Rho → M W T := fun ρ w => match fb (ρ.map Sl.hid) w with
  | some (.ok t, w') => (kn t).map fun u => (.ok u, w')
  | some (.er e, w') => (kd e).map fun u => (.ok u, w')
  | none => none
def LamIn (K : PySem.W.Frag) (G : Gm W) (H F : Hp) (r : R T) (w' : W) (tl : XK → Hp → VK → Prop) : Prop := ∀ (E : XK) (Q' : VK), (match r with
  | .ok t => ∀ v ρ σ H' F', Sd K G ρ w' σ H' F' → Gr G H F H' F' → Rep K F' v t → Q' v H'
  | .er e => ∀ d H' F' ρ σ, Sd K G ρ w' σ H' F' → Gr G H F H' F' → ErAt K H' F' e d → E (.ref e.C) d H') → tl E H Q'
/-- what asks an exception tells kd of it, kn where there was none -/
structure KindOk (K : PySem.W.Frag) (O : Wd W) (TT : (XK → Hp → VK → Prop) → Hp → VK → Prop) (kn : T → Option T) (kd : Er → Option T) : Prop where
  gives : ∀ (tl : XK → Hp → VK → Prop) (G : Gm W) (H F : Hp) (Q : VK) (r : R T) (w' : W) (u : T), G.O = O → LamIn K G H F r w' tl → (match r with | .ok t => kn t | .er e => kd e) = some u →
    (∀ v ρ σ H' F', Sd K G ρ w' σ H' F' → Gr G H F H' F' → Rep K F' v u → Q v H') → TT tl H Q
theorem Sd.rooted {K : PySem.W.Frag} {G : Gm W} {ρ : Rho} {w : W} {σ : L2.St} {H F : Hp} (S : Sd K G ρ w σ H F) : Sd K ⟨G.O, H, F⟩ (ρ.map Sl.hid) w σ H F := by
  refine ⟨S.sub, S.wok, S.dF, fun b d => S.dH b d, fun b o e _ => e, Same.refl F, fun _ _ => rfl, fun i s hs => ?_, fun i j s t hs _ ho => ?_, by rw [List.length_map]; exact S.len⟩
  · rw [List.getElem?_map] at hs
    cases h : ρ[i]? with
    | none => rw [h] at hs; cases hs
    | some s0 =>
      rw [h] at hs
      have q := S.slots i s0 h
      cases s0 <;> cases hs <;> first | trivial | exact q
  · rw [List.getElem?_map] at hs
    cases h : ρ[i]? with
    | none => rw [h] at hs; cases hs
    | some s0 =>
      rw [h] at hs
      cases s0 <;> cases hs <;> cases ho
theorem Sd.back {K : PySem.W.Frag} {G : Gm W} {ρ ρ' : Rho} {w w' : W} {σ σ' : L2.St} {H F H' F' : Hp} (S : Sd K G ρ w σ H F) (S' : Sd K ⟨G.O, H, F⟩ ρ' w' σ' H' F') (g : Gr ⟨G.O, H, F⟩ H F H' F') : Sd K G ρ w' σ H' F' ∧ Gr G H F H' F' :=
  ⟨S.grown ⟨g.same, g.keep, g.nof⟩ S'.sub S'.wok S'.dF, ⟨g.same, g.keep, g.nof⟩⟩
theorem Gr.made {G : Gm W} {P : Addr} {q : Str} {H H1 F : Hp} (TO : TabOk G P q) (e : ExtP P H H1) : Gr G H F H1 F := ⟨Same.refl F, fun b o h nd => e b o (fun z => nd (z ▸ TO.inD)) h, fun _ _ => rfl⟩
section
variable {X : Cx} {G : Gm W} {E : XK} {TT : (XK → Hp → VK → Prop) → Hp → VK → Prop} {kn : T → Option T} {kd : Er → Option T} {fb : Rho → M W T} {x a : Str} {g c P : Addr} {k : Nat} {st : Stmt} {fd : FuncData} {Ng : List Str} {params : Arguments} {body : Expr} {scope : Scope} {p lpos pos : Pos}
theorem pv_refused (KO : KindOk X.K G.O TT kn kd) (TO : TabOk G P (X.env.qual ++ "<lambda>")) (hm : X.mg x = some (.ref g)) (F : Fun X.K x x st g fd) (hb : L2.Binds X.K fd [a] []) (Sg : FnScope Ng [a] (defScope st)) (h0 : Ng[0]? = some a) (hva : Vis (defScope st) a)
    (hG : ∀ cdv : Value, GivesTo X Ng x (defScope st) g cdv (defBody st) a (X.env.qual ++ "<lambda>") TT)
    (TB : TabB X.base X.mg c P) (hcode : X.env.code = .ref c) (hr : Room (k + 2) X.A) (hgd : X.A.guards = some []) (hg : Gl X x) (L : LamS X.env.scope scope) (hdef : defaultsOf params X.env = ([], []))
    (nobind : ∀ (q : Str) (cl : List (Str × Addr)) (pm cv ctv : Value), bindArgs (PySem.W.kla_fn "<lambda>" q params body scope cl pm cv ctv) ⟨[], []⟩ = pure [])
    (hbody : ∀ (A : Around) (outer : List PySem.Env) (s : Shared) (H : Hp) (E : XK) (f c' : Addr) (G : Gm W), (lamCx X A outer s H E scope f c').A.guards = some [] → Room k (lamCx X A outer s H E scope f c').A → PV (lamCx X A outer s H E scope f c') G E body fb)
    (hdb : (x == ("__debug__" : Str)) = false := by decide) (hd : (a == ("__debug__" : Str)) = false := by decide) (hcd : (a == ("__classdict__" : Str)) = false := by decide) :
    PV X G E (.Call (.Name x p) [.Lambda params body scope lpos] [] pos) (fRef kn kd fb) := by
  refine ⟨(pe_lamG (t := fun E σ H Q => ∃ G' : Gm W, tV X.K G' E fb σ H Q) hg hm F hb Sg h0 hva hG TB hcode hr hgd L hdef nobind (fun A outer s H E f c' gd hr2 => ⟨fun pins s' σ H' Q I ⟨G', h⟩ => (hbody A outer s H E f c' G' gd hr2).run.run pins s' σ H' Q I h⟩) hdb hd hcd).imp fun σ H Q => ?_⟩
  rintro ⟨ρ, w, F0, r, w', S, hf, acc⟩
  refine ⟨TO.get S.wok, fun H1 ext tab => ?_⟩
  have S1 := S.made TO ext tab
  have g1 : Gr G H F0 H1 F0 := Gr.made TO ext
  have R1 := S1.rooted
  have lam : ∀ (r0 : R T) (w1 : W), fb (ρ.map Sl.hid) w = some (r0, w1) → LamIn X.K ⟨G.O, H1, F0⟩ H1 F0 r0 w1 fun E H' Q' => ∃ G' : Gm W, tV X.K G' E fb σ H' Q' := fun r0 w1 e E' Q' hh => by
    refine ⟨⟨G.O, H1, F0⟩, ρ.map Sl.hid, w, F0, r0, w1, R1, e, ?_⟩
    cases r0 with
    | ok t => exact fun v H' F' S' g' rv => hh v _ _ H' F' S' g' rv
    | er e0 => exact fun d H' F' ρ' σ' S' s' ea => hh d H' F' ρ' σ' S' ⟨s', fun b o h nd => S'.keep b o h nd, fun b h => S'.old b h⟩ ea
  have fin : ∀ (w1 : W) (u : T), r = .ok u → w' = w1 → ∀ v ρ2 σ2 H' F', Sd X.K ⟨G.O, H1, F0⟩ ρ2 w1 σ2 H' F' → Gr ⟨G.O, H1, F0⟩ H1 F0 H' F' → Rep X.K F' v u → Q v H' := fun w1 u er ew v ρ2 σ2 H' F' S2 g2 rv => by
    subst er ew
    obtain ⟨S3, g3⟩ := S1.back S2 g2
    exact acc v H' F' S3 (g1.trans g3 S1.dH) rv
  unfold fRef at hf
  cases h : fb (ρ.map Sl.hid) w with
  | none => rw [h] at hf; cases hf
  | some q =>
    obtain ⟨r0, w1⟩ := q
    rw [h] at hf
    have l := lam r0 w1 h
    cases r0 with
    | ok t =>
      have hf : (kn t).map (fun u => (R.ok u, w1)) = some (r, w') := hf
      cases hk : kn t with
      | none => rw [hk] at hf; cases hf
      | some u =>
        rw [hk] at hf
        cases hf
        exact KO.gives _ ⟨G.O, H1, F0⟩ H1 F0 Q (.ok t) _ u rfl l hk (fin _ u rfl rfl)
    | er e0 =>
      have hf : (kd e0).map (fun u => (R.ok u, w1)) = some (r, w') := hf
      cases hk : kd e0 with
      | none => rw [hk] at hf; cases hf
      | some u =>
        rw [hk] at hf
        cases hf
        exact KO.gives _ ⟨G.O, H1, F0⟩ H1 F0 Q (.er e0) _ u rfl l hk (fin _ u rfl rfl)
end
/-! ### the asking of an exception, in general -/
section
variable {K : PySem.W.Frag} {O : Wd W} {N : List Str} {KB : Addr → (Str → Bool) → Prop} {gk : Addr → (Str → Bool) → (Str → Option T) → Rho → M W Fl} {CS : Addr}
def KTG (W : Type) (K : PySem.W.Frag) (N : List Str) (KB : Addr → (Str → Bool) → Prop) (gk : Addr → (Str → Bool) → (Str → Option T) → Rho → M W Fl) : Addr → Value → Option Addr → VK → Hp → Prop := fun a cls d Q H => ∃ (D : Addr) (G : Gm W) (xb : Str → Bool) (xf : Str → Option T), cls = .ref D ∧ AskC K D ∧ KB D xb ∧ (∀ dd, d = some dd → ∃ fs, G.B dd = some (.xd fs) ∧ ¬ G.O.D dd) ∧
  (∀ (fl : Str) (t : T), xf fl = some t → PySem.W.findIn K (.ref D) fl = some none ∧ ∃ dd fs v, d = some dd ∧ G.B dd = some (.xd fs) ∧ ¬ G.O.D dd ∧ fs.lookup fl = some v ∧ Rep K G.F0 v t) ∧
  tS K G (fun _ _ _ => False) (gk a xb xf) { nx := fun _ H' => Q .non H', rt := Q } (L2.start N [.ref a]) H
/-- what kd tells of an exception is what the asking gives -/
structure KdOk (W : Type) (K : PySem.W.Frag) (CS : Addr) (KB : Addr → (Str → Bool) → Prop) (m : Nat) (gk : Addr → (Str → Bool) → (Str → Option T) → Rho → M W Fl) (kd : Er → Option T) : Prop where
  at_ : ∀ e u, kd e = some u → AskC K e.C ∧ PySem.W.exmOne K (.ref e.C) (.ref CS) = some true ∧ (∀ fl ∈ e.ns, PySem.W.findIn K (.ref e.C) fl = some none) ∧ ∃ xb, KB e.C xb ∧ ∀ a : Addr, gk a xb (fun fl => lookT fl e.ns e.ts) (Sl.fz (.raw (.ref a)) :: List.replicate m Sl.un) = ret (.rt u)
/-- the world has no exceptions' dicts -/
def NoXd (O : Wd W) : Prop := ∀ H w dd fs, O.ok H w → H dd = some (.xd fs) → ¬ O.D dd
theorem kindOk_ref {n0 : List T → M W T} {u0 : T} {kd : Er → Option T} {m : Nat} (hN : N.length = m + 1) (NX : NoXd O) (h0 : n0 [.non] = ret u0) (KD : KdOk W K CS KB m gk kd) :
    KindOk K O (TRef K CS (fun Q H => spF K 1 n0 [.non] H Q fun _ _ _ => False) (KTG W K N KB gk)) (fun _ => some u0) kd := by
  refine ⟨fun tl G H F Q r w' u hO l hu fin => l _ _ ?_⟩
  subst hO
  cases r with
  | ok t =>
    cases hu
    exact fun v ρ σ H' F' S g rv => ⟨G.O, F', [.non], w', .ok u0, w', rfl, S.sub, S.wok, S.dF, .cons .non .nil, by rw [h0]; rfl, fun v2 H2 F2 o rv2 => by
      have S2 := S.grown (⟨o.same, o.keep, o.nof⟩ : Gr G H' F' H2 F2) o.sub o.wok o.dF
      exact fin v2 ρ σ H2 F2 S2 (g.trans ⟨o.same, o.keep, o.nof⟩ S.dH) rv2⟩
  | er e =>
    obtain ⟨ask, ex, nf, xb, kb, eval⟩ := KD.at_ e u hu
    refine fun d H' F' ρ σ S g ea => ⟨ex, fun a na => ⟨e.C, ⟨G.O, H', F'⟩, xb, fun fl => lookT fl e.ns e.ts, rfl, ask, kb, fun dd hd => ?_, fun fl t hl => ?_, ?_⟩⟩
    · rcases ea with ⟨_, _, q⟩ | ⟨dd', vs, q, hx, _, _⟩
      · rw [q] at hd; cases hd
      · rw [q] at hd
        cases hd
        exact ⟨_, hx, NX _ _ _ _ S.wok hx⟩
    · rcases ea with ⟨e1, e2, _⟩ | ⟨dd', vs, q, hx, hl2, rs⟩
      · have hl : lookT fl e.ns e.ts = some t := hl
        rw [e1] at hl
        cases hl
      · obtain ⟨v, h1, h2, h3⟩ := rs.look hl
        exact ⟨nf fl h3, dd', _, v, q, hx, NX _ _ _ _ S.wok hx, h1, h2⟩
    · have S0 := Sd.start (K := K) (N := N) (vs := [V.ref a]) (ts := [T.raw (.ref a)]) S.sub S.wok S.dF (.cons (.raw _) .nil) (by rw [hN]; simp)
      have em : N.length - [T.raw (.ref a)].length = m := by rw [hN]; rfl
      rw [em] at S0
      refine ⟨_, w', F', .ok (.rt u), w', S0, ?_, fun v ρ' σ' H2 F2 S2 s2 rv => ?_⟩
      · show gk a xb _ (Sl.fz (.raw (.ref a)) :: List.replicate m Sl.un) w' = _
        rw [eval a]
        rfl
      · have S3 := S.back (G := G) (H := H') (F := F') S2 ⟨s2, fun b o h nd => S2.keep b o h nd, fun b h => S2.old b h⟩
        exact fin v ρ σ H2 F2 S3.1 (g.trans S3.2 S.dH) rv
end
theorem noXd_dr {d l c : Addr} {T : List (Addr × Str)} : NoXd (drWd d l c T) := fun H w dd fs ⟨⟨_, _, _, _, h1, h2, h3, _⟩, ht⟩ hx hb => by
  rcases hb with (rfl | rfl | rfl) | ⟨p, hp, rfl⟩
  · rw [h1] at hx; cases hx
  · rw [h2] at hx; cases hx
  · rw [h3] at hx; cases hx
  · obtain ⟨ps, e, _⟩ := ht p hp
    rw [e] at hx; cases hx
end
end PL

set_option maxHeartbeats 4000000
/-! RGa: raise C("m"), C without an __init__ of its own; own lists: pop(e) as a statement, insert, x[e] = v; texts counted; dict displays. -/
namespace PL
open PySem PySem.Spec PyProof.Rows L2
section
variable {W : Type} {X : Cx} {G : Gm W} {E : XK} {ρ : Rho} {w w' : W} {σ : L2.St} {H F : Hp}
/-- an own exception class that takes what ValueError takes -/
structure XCls0 (K : PySem.W.Frag) (mg : Str → Option Value) (x : Str) (C : Addr) : Prop where
  ex : PySem.W.excIn K C [.type "ValueError", .type "Exception", .type "BaseException", .type "object"] "ValueError.__new__" = true
  at_ : mg x = some (.ref C)
  kp : PySem.W.keepIn K (.ref C) = true
  bs : PySem.W.subIn K (.ref C) (.type "BaseException") = some true
  ty : PySem.W.typeIn K (.ref C) = some (.type "type")
def dRaise0 (C : Addr) : Rho → M W Fl := fun _ => raiseM ⟨C, [], []⟩
theorem pd_raise0 {x m : Str} {C : Addr} {j : Nat} {p p2 pos pos' : Pos} (S : XCls0 X.K X.mg x C) (hc : X.calm = true) (tk : Takes X fun cls d _ H => E cls d H) (hg : Gl X x) (hdb : (x == ("__debug__" : Str)) = false := by decide) :
    PD X G E (.Raise (some (.Call (.Name x p) [.Constant (.str m) j p2] [] pos)) none pos') (dRaise0 C) := by
  refine ⟨(ps_raise hc tk (pmk_own PySem.F.excBase_ValueError S.ex S.at_ S.kp (raises_own S.bs S.ty) hg hdb)).imp fun D σ H => ?_⟩
  rintro ⟨ρ, w, F, r, w', S0, hf, acc⟩
  cases hf
  have q : AccE X.K G E F ⟨C, [], []⟩ _ := acc
  exact q none H F ρ σ S0 (Same.refl F) (.inl ⟨rfl, rfl, rfl⟩)
/-! ### own lists -/
section
variable {e e2 v : Expr} {fa fb fe fv : Rho → M W T} {pos : Pos}
/-- x.pop(e), for nothing -/
def dPopX (i : Nat) (fa : Rho → M W T) : Rho → M W Fl := fun ρ => owM i ρ fun _ => bnd (fa ρ) fun t => popAt i ρ t fun ρ' _ => ret (.nx ρ')
theorem pd_popX (i : Nat) {x : Str} {px ap cp : Pos} (ha : PV X G E e fa)
    (hpe : ∀ {te : TE}, PE X e te → PE X (.Call (.Attribute (.Name x px) "pop" ap) [e] [] cp) (tBM X.K "list" rPopAt (tVar i) (tCons te tNil)))
    (hs : swapsWith (.Call (.Attribute (.Name x px) "pop" ap) [e] [] cp) none pos.line X.env = pure false := by rfl) :
    PD X G E (.Expr (.Call (.Attribute (.Name x px) "pop" ap) [e] [] cp) pos) (dPopX i fa) :=
  ⟨(ps_expr (hpe ha.run) hs).imp fun D σ H => by
  rintro ⟨ρ, w, F, r, w', S, hf, acc⟩
  obtain ⟨ts, hi, hf⟩ := owM_inv hf
  obtain ⟨p, vs, h0, h1, h2, h3, rv⟩ := S.own hi
  refine ⟨.ref p, h0, .inl ⟨rfl, vs, .of h1⟩, ?_⟩
  refine tV.bind (X := X) S hf acc.er fun t w1 y H1 F1 S1 s1 r1 hk => ?_
  obtain ⟨ts', n, jj, u, k1, rfl, k3, k4, k5, k6, k7⟩ := popAt_inv hk
  rw [hi] at k1; cases k1
  obtain ⟨rfl, rfl⟩ := ret_inv k7
  obtain rfl := r1.int_inv
  have h1' : H1 p = some (.lst vs) := s1.keep p _ h1 (S.ndB h3)
  exact pop_core (te := fun _ _ _ => True) S1 hi h0 h1' (rv.mono s1.same) k3 k4 k5 k6 _ fun v rv' S' => acc _ _ F1 S' s1.same⟩
/-- x.insert(e, e2) -/
def dInsert (i : Nat) (fa fb : Rho → M W T) : Rho → M W Fl := fun ρ => owM i ρ fun ts => bnd (fa ρ) fun t => bnd (intM t) fun n => bnd (fb ρ) fun u => if ts.length < sizeLine ∧ 0 ≤ n ∧ n < 2 ^ 63 then ret (.nx (ρ.set i (.ow (ts.take n.toNat ++ [u] ++ ts.drop n.toNat)))) else stuck
theorem pd_insert (i : Nat) {x : Str} {px ap cp : Pos} (ha : PV X G E e fa) (hb : PV X G E e2 fb)
    (hpe : ∀ {te tu : TE}, PE X e te → PE X e2 tu → PE X (.Call (.Attribute (.Name x px) "insert" ap) [e, e2] [] cp) (tBM X.K "list" (fun x vs H Q => ∃ (l : Addr) (xs : List V) (i : Int) (y : V), x = .ref l ∧ vs = [.int i, y] ∧ H l = some (.lst xs) ∧ xs.length < sizeLine ∧ 0 ≤ i ∧ i < 2 ^ 63 ∧ Q .non (upd H l (.lst (xs.take i.toNat ++ [y] ++ xs.drop i.toNat)))) (tVar i) (tCons te (tCons tu tNil))))
    (hs : swapsWith (.Call (.Attribute (.Name x px) "insert" ap) [e, e2] [] cp) none pos.line X.env = pure false := by rfl) :
    PD X G E (.Expr (.Call (.Attribute (.Name x px) "insert" ap) [e, e2] [] cp) pos) (dInsert i fa fb) :=
  ⟨(ps_expr (hpe ha.run hb.run) hs).imp fun D σ H => by
  rintro ⟨ρ, w, F, r, w', S, hf, acc⟩
  obtain ⟨ts, hi, hf⟩ := owM_inv hf
  obtain ⟨p, vs, h0, h1, h2, h3, rv⟩ := S.own hi
  refine ⟨.ref p, h0, .inl ⟨rfl, vs, .of h1⟩, ?_⟩
  refine tV.bind (X := X) S hf acc.er fun t w1 y H1 F1 S1 s1 r1 hk => ?_
  obtain ⟨n, rfl, hk⟩ := intM_bnd hk
  refine tV.bind (X := X) S1 hk (AccD.mono (X := X) acc s1.same).er fun u w2 z H2 F2 S2 s2 r2 hk2 => ?_
  split at hk2
  · rename_i hl
    obtain ⟨rfl, rfl⟩ := ret_inv hk2
    obtain rfl := r1.int_inv
    have h2' : H2 p = some (.lst vs) := (s1.trans s2 S1.dH).keep p _ h1 (S.ndB h3)
    have rr := rv.mono (s1.same.trans s2.same)
    exact ⟨p, vs, n, z, rfl, rfl, h2', by rw [rv.length]; exact hl.1, hl.2.1, hl.2.2, acc _ _ F2 (S2.putL hi h0 h2' (((rr.take _).append (.one r2)).append (rr.drop _))) (s1.same.trans s2.same)⟩
  · cases hk2⟩
/-- x[e] = v, x a list of the body's own -/
def dSetIx (i : Nat) (fe fv : Rho → M W T) : Rho → M W Fl := fun ρ => bnd (fv ρ) fun t => owM i ρ fun _ => bnd (fe ρ) fun u => bnd (intM u) fun n => owM i ρ fun ts => match ixN ts.length n with
  | some j => ret (.nx (ρ.set i (.ow (ts.set j t))))
  | none => stuck
theorem pd_setIx (i : Nat) {x : Str} {px pos' : Pos} (hx : PE X (.Name x px) (tVar i)) (he : PV X G E e fe) (hv : PV X G E v fv)
    (has : ∀ z, assign (.Subscript (.Name x px) e pos') X.env z = (do let ov ← holding [z] (eval (.Name x px) X.env); let iv ← holding [z, ov] (eval e X.env); standAt pos'; holding [z, ov, iv] (setItem ov iv z); release [z, ov, iv] []) := by intro _; rfl)
    (hs : swapsWithSole [.Subscript (.Name x px) e pos'] v pos.line X.env = pure false := by rfl) (hw : swappedStores [.Subscript (.Name x px) e pos'] v X.env = pure none := by rfl) (h1 : (assignEach [.Subscript (.Name x px) e pos'] X.env).map (·.2) = [assign (.Subscript (.Name x px) e pos') X.env] := by rfl) :
    PD X G E (.Assign [.Subscript (.Name x px) e pos'] v pos) (dSetIx i fe fv) := ⟨(ps_asg hv.run (pg_sub hx he.run set_list has) hs hw h1).imp fun D σ H => by
  rintro ⟨ρ, w, F, r, w', S, hf, acc⟩
  refine tV.bind (X := X) S hf acc.er fun t w1 y H1 F1 S1 s1 r1 hk => ?_
  obtain ⟨ts, hi, hk⟩ := owM_inv hk
  obtain ⟨p, vs, h0, h1, h2, h3, rv⟩ := S1.own hi
  refine ⟨.ref p, h0, ?_⟩
  refine tV.bind (X := X) S1 hk (AccD.mono (X := X) acc s1.same).er fun u w2 z H2 F2 S2 s2 r2 hk2 => ?_
  obtain ⟨n, rfl, hk2⟩ := intM_bnd hk2
  obtain ⟨ts', hi', hk2⟩ := owM_inv hk2
  rw [hi] at hi'; cases hi'
  cases hj : ixN ts.length n with
  | none => rw [hj] at hk2; cases hk2
  | some j =>
    rw [hj] at hk2
    obtain ⟨rfl, rfl⟩ := ret_inv hk2
    obtain rfl := r2.int_inv
    have h2' : H2 p = some (.lst vs) := s2.keep p _ h1 (S1.ndB h3)
    exact ⟨p, vs, n, j, rfl, rfl, h2', by rw [rv.length]; exact hj, acc _ _ F2 (S2.putL hi h0 h2' ((rv.mono s2.same).set j (r1.mono s2.same))) (s1.same.trans s2.same)⟩⟩
end
end
end PL

set_option maxHeartbeats 4000000
/-! RGb: a def that calls the lambda that it gets, and asks what it caught in its own body. -/
namespace PL
open PySem PySem.Spec PyProof.Rows L2 LamX
/-- with one thing more that is known -/
def knw (X : Cx) (q : Addr × Obj) : Cx := { X with pn := q :: X.pn }
section
variable {X : Cx} {q : Addr × Obj} {pins : List (Addr × Obj)} {σ : L2.St} {H : Hp} {s : Shared}
theorem ok_knw (o : X.Ok) : (knw X q).Ok := ⟨o.mod, o.kind, o.glob, o.blt, o.above, o.inj, o.has, o.cab, o.hd, o.frames, o.stk, o.exf, o.bs, o.bsz, o.noex, o.exfs, o.funs, o.frf⟩
theorem ok_unk (o : (knw X q).Ok) : X.Ok := ⟨o.mod, o.kind, o.glob, o.blt, o.above, o.inj, o.has, o.cab, o.hd, o.frames, o.stk, o.exf, o.bs, o.bsz, o.noex, o.exfs, o.funs, o.frf⟩
theorem inv_knw (I : Inv X (q :: pins) σ H s) : Inv (knw X q) pins σ H s := ⟨ok_knw I.ok, I.os, I.bare, I.base, I.loc, I.cell, I.free, I.freeC, fun p hp => I.pin p (by
  have hp : p ∈ (q :: X.pn) ++ pins := hp
  simp only [List.mem_append, List.mem_cons] at hp ⊢
  rcases hp with (h | h) | h
  · exact .inr (.inl h)
  · exact .inl h
  · exact .inr (.inr h)), I.hok, I.len⟩
theorem inv_unk (I : Inv (knw X q) pins σ H s) : Inv X (q :: pins) σ H s := ⟨ok_unk I.ok, I.os, I.bare, I.base, I.loc, I.cell, I.free, I.freeC, fun p hp => I.pin p (by
  show p ∈ (q :: X.pn) ++ pins
  simp only [List.mem_append, List.mem_cons] at hp ⊢
  rcases hp with h | h | h
  · exact .inl (.inr h)
  · exact .inl (.inl h)
  · exact .inr h), I.hok, I.len⟩
theorem rest_knw {rest : List Stmt} {u : TS} (h : PSs (knw X q) rest u) {D : Ends} (I : Inv X (q :: pins) σ H s) (hu : u D σ H) : wpAny (model X.prog X.w) X.A (execs rest X.env) (SP X (q :: pins) D) X.xe s := by
  refine wpAny_mono (h.run pins s σ H D (inv_knw I) hu) (fun f s' hf => ?_) fun _ _ z => z
  match f, hf with
  | .next, ⟨_, _, J, k⟩ => exact ⟨_, _, inv_unk J, k⟩
  | .brk, ⟨_, _, J, k⟩ => exact ⟨_, _, inv_unk J, k⟩
  | .cont, ⟨_, _, J, k⟩ => exact ⟨_, _, inv_unk J, k⟩
  | .ret _, ⟨_, _, _, J, r, k⟩ => exact ⟨_, _, _, inv_unk J, r, k⟩
/-- what is known may be asked -/
theorem oldX_knw {a D : Addr} {d : Option Addr} {oe : Obj} (hz : Zc (.ref D) d oe) (hf : ∃ vs, oe.data = .fields vs) : OldX (knw X (a, oe)) a D d oe :=
  ⟨fun I => (I.pin (a, oe) (List.mem_append_left _ List.mem_cons_self)).1, hz, hf⟩
end
theorem _root_.L2.PE.mc {X : Cx} {e : Expr} {te : TE} (h : PE X e te) : PE X e (fun σ H Q => ∃ Q' : VK, te σ H Q' ∧ ∀ v H', Q' v H' → Q v H') := ⟨fun pins s σ H Q I ⟨Q', k, m⟩ => wpAny_mono (h.run pins s σ H Q' I k) (fun u s' ⟨v, H', J, r, z⟩ => ⟨v, H', J, r, m v H' z⟩) fun _ _ z => z⟩
/-- what such a def makes of the lambda's reading -/
def THd (K : PySem.W.Frag) (CS : Addr) (m ic : Nat) (io : Option Nat) (TN : V → TS) (TX : Addr → Value → Option Addr → TS) : (XK → Hp → VK → Prop) → Hp → VK → Prop := fun tl H Q =>
  tl (fun cls d H' => PySem.W.exmOne K cls (.ref CS) = some true ∧ ∀ a, H' a = none → ∀ σ : L2.St, σ.length = m → σ[ic]? = some (some (.ref a)) → TX a cls d { nx := fun _ H' => Q .non H', rt := Q } σ H') H
    fun v H' => ∀ σ : L2.St, σ.length = m → σ[ic]? = some (some .non) → (∀ i, io = some i → σ[i]? = some (some v)) → TN v { nx := fun _ H' => Q .non H', rt := Q } σ H'
section
variable {X : Cx} {TN : V → TS} {TX : Addr → Value → Option Addr → TS} {CS g : Addr} {x se wk fo cg er q : Str} {sg : Scope} {N : List Str} {cdg : Value} {j0 j1 k1 k2 ic ie io : Nat} {rest : List Stmt} {p1 p2 p3 p4 p5 p6 p7 p8 p9 pa q1 q2 q3 q4 q5 q6 q7 : Pos}
abbrev hZ (X : Cx) (N : List Str) (x : Str) (sg : Scope) (g : Addr) (cdg : Value) (s : Shared) (H : Hp) : Cx := (cxOf C8.CX0 X.prog X.w X.K X.mg X.base N x sg g cdg X.A X.stack s H C8.E0).nox
theorem start_len {N : List Str} {f : V} (h : 0 < N.length) : (L2.start N [f]).length = N.length := by unfold L2.start; simp; omega
/-- cg = None; try: wk() / except se as er: cg = er; rest -/
theorem heard1_gives (h0 : N[0]? = some wk) (hc : N[ic]? = some cg) (he : N[ie]? = some er) (ne : ic ≠ ie) (n0 : ic ≠ 0) (nd : N.Nodup)
    (ms : X.mg se = some (.ref CS)) (gs : sg.names.lookup se = some .globalImplicit) (lc : sg.names.lookup cg = some .local) (le : sg.names.lookup er = some .local) (ds : (se == ("__debug__" : Str)) = false) (de : (er == ("__debug__" : Str)) = false) (dec : (er == ("__classdict__" : Str)) = false)
    (hN : ∀ (s : Shared) (H : Hp) (v : V), PSs (hZ X N x sg g cdg s H) rest (TN v))
    (hX : ∀ (s : Shared) (H : Hp) (a : Addr) (oe : Obj) (cls : Value) (d : Option Addr), Zc cls d oe → (∃ vs, oe.data = .fields vs) → PSs (knw (hZ X N x sg g cdg s H) (a, oe)) rest (TX a cls d)) :
    GivesTo X N x sg g cdg (.Assign [.Name cg q1] (.Constant .none j0 q2) q3 :: .Try [.Expr (.Call (.Name wk p1) [] [] p2) p3] [.ExceptHandler (some (.Name se p4)) (some er) [.Assign [.Name cg q4] (.Name er q5) q6] p5] [] [] p6 :: rest) wk q (THd X.K CS N.length ic none (fun _ => TN .non) TX) := by
  intro f c' s H Q tl act hcd h
  have lic : ic < N.length := (List.getElem?_eq_some_iff.mp hc).1
  have lie : ie < N.length := (List.getElem?_eq_some_iff.mp he).1
  have hst := start_len (N := N) (f := V.ref f) (by omega)
  let Z : Cx := hZ X N x sg g cdg s H
  refine ⟨_, pss_cons (X := Z) (ps_set (i := ic) nd hc (.inl lc) pe_non rfl (.inr lc)) (pss_try_asK (X := Z) (i := ie) (c := .ref CS)
    (tb := fun W D σ H => ∃ Ech : XK, (∀ cls d σ' H', Ech cls d H' → W cls d σ' H') ∧ ∃ Q' : VK, (σ[0]? = some (some (.ref f)) ∧ H c' = some (CodeO c' q) ∧ tl Ech H Q') ∧ ∀ v H', Q' v H' → D.nx σ H')
    (ts := fun a cls d D σ H => ∃ v, σ[ie]? = some (some v) ∧ D.nx (σ.set ic (some v)) H)
    (tr := TX) (u := TN .non)
    rfl rfl nd he le ⟨gs, ds, .inl ms⟩ (fun W pn xe tk => ?_) (fun a oe cls d pn hz hf => ?_) (hN s H .non) (fun a oe cls d hz hf pins s' σ H' D I k => rest_knw (hX s H a oe cls d hz hf) I k)), ?_⟩
  · refine ⟨fun pins s' σ H D I h' => ?_⟩
    obtain ⟨Ech, hW, Q', h1, h2⟩ := h'
    exact (pss_one (ps_expr (act W pn xe Ech p1 p2 tk hW).mc)).run pins s' σ H D I ⟨Q', h1, h2⟩
  · exact (pss_one (ps_set (X := Z.suite a ((a, oe) :: pn)) (i := ic) nd hc (.inl lc) (pe_var (i := ie) he (.inl le) de dec) rfl (.inr lc)))
  · exact ⟨_, fun cls d σ' H' w => ⟨w.1, fun a na hl => ⟨.ref a, by rw [List.getElem?_set_self (by have hl : σ'.length = N.length := hl; omega)], w.2 a na _ (by have hl : σ'.length = N.length := hl; simp [hl]) (by have hl : σ'.length = N.length := hl; rw [List.getElem?_set_ne (Ne.symm ne), List.getElem?_set_self (by rw [List.length_set]; omega)])⟩⟩, _, ⟨by rw [List.getElem?_set_ne n0]; rfl, hcd, h⟩, fun v H' k => k _ (by rw [List.length_set, hst]) (by rw [List.getElem?_set_self (by omega)]) (fun i z => nomatch z)⟩
/-- fo, cg = None, None; try: fo = wk() / except se as er: cg = er; rest -/
theorem heard2_gives (h0 : N[0]? = some wk) (hc : N[ic]? = some cg) (he : N[ie]? = some er) (ho : N[io]? = some fo) (ne : ic ≠ ie) (n0 : ic ≠ 0) (o0 : io ≠ 0) (no : io ≠ ic) (nd : N.Nodup)
    (hw : ∀ (s : Shared) (H : Hp), swappedStores [.Tuple [.Name fo q1, .Name cg q2] k1 q3] (.Tuple [.Constant .none j0 p7, .Constant .none j1 p8] k2 q7) (hZ X N x sg g cdg s H).env = pure (some [fo, cg]))
    (ms : X.mg se = some (.ref CS)) (gs : sg.names.lookup se = some .globalImplicit) (lc : sg.names.lookup cg = some .local) (le : sg.names.lookup er = some .local) (lo : sg.names.lookup fo = some .local) (ds : (se == ("__debug__" : Str)) = false) (de : (er == ("__debug__" : Str)) = false) (dec : (er == ("__classdict__" : Str)) = false)
    (hN : ∀ (s : Shared) (H : Hp) (v : V), PSs (hZ X N x sg g cdg s H) rest (TN v))
    (hX : ∀ (s : Shared) (H : Hp) (a : Addr) (oe : Obj) (cls : Value) (d : Option Addr), Zc cls d oe → (∃ vs, oe.data = .fields vs) → PSs (knw (hZ X N x sg g cdg s H) (a, oe)) rest (TX a cls d)) :
    GivesTo X N x sg g cdg (.Assign [.Tuple [.Name fo q1, .Name cg q2] k1 q3] (.Tuple [.Constant .none j0 p7, .Constant .none j1 p8] k2 q7) p9 :: .Try [.Assign [.Name fo pa] (.Call (.Name wk p1) [] [] p2) p3] [.ExceptHandler (some (.Name se p4)) (some er) [.Assign [.Name cg q4] (.Name er q5) q6] p5] [] [] p6 :: rest) wk q (THd X.K CS N.length ic (some io) (fun _ D σ H => ∃ v : V, σ[io]? = some (some v) ∧ TN v D σ H) TX) := by
  intro f c' s H Q tl act hcd h
  have lic : ic < N.length := (List.getElem?_eq_some_iff.mp hc).1
  have lie : ie < N.length := (List.getElem?_eq_some_iff.mp he).1
  have lio : io < N.length := (List.getElem?_eq_some_iff.mp ho).1
  have hst := start_len (N := N) (f := V.ref f) (by omega)
  let Z : Cx := hZ X N x sg g cdg s H
  refine ⟨_, pss_cons (X := Z) (ps_par (i := io) (j := ic) (ta := tCons (tC .non) (tCons (tC .non) tNil)) rfl nd ho hc no lo lc (pa_cons pe_non (pa_cons pe_non pa_nil)) (hw s H)) (pss_try_asK (X := Z) (i := ie) (c := .ref CS)
    (tb := fun W D σ H => ∃ Ech : XK, (∀ cls d σ' H', Ech cls d H' → W cls d σ' H') ∧ ∃ Q' : VK, (σ[0]? = some (some (.ref f)) ∧ H c' = some (CodeO c' q) ∧ tl Ech H Q') ∧ ∀ v H', Q' v H' → D.nx (σ.set io (some v)) H')
    (ts := fun a cls d D σ H => ∃ v, σ[ie]? = some (some v) ∧ D.nx (σ.set ic (some v)) H)
    (tr := TX) (u := fun D σ H => ∃ v : V, σ[io]? = some (some v) ∧ TN v D σ H)
    rfl rfl nd he le ⟨gs, ds, .inl ms⟩ (fun W pn xe tk => ?_) (fun a oe cls d pn hz hf => ?_) ⟨fun pins s' σ H' D I ⟨v, _, k⟩ => (hN s H v).run pins s' σ H' D I k⟩ (fun a oe cls d hz hf pins s' σ H' D I k => rest_knw (hX s H a oe cls d hz hf) I k)), ?_⟩
  · refine ⟨fun pins s' σ H D I h' => ?_⟩
    obtain ⟨Ech, hW, Q', h1, h2⟩ := h'
    exact (pss_one (ps_set (X := Z.tr pn xe) (i := io) nd ho (.inl lo) (act W pn xe Ech p1 p2 tk hW).mc rfl (.inr lo))).run pins s' σ H D I ⟨Q', h1, h2⟩
  · exact (pss_one (ps_set (X := Z.suite a ((a, oe) :: pn)) (i := ic) nd hc (.inl lc) (pe_var (i := ie) he (.inl le) de dec) rfl (.inr lc)))
  · refine ⟨.non, .non, rfl, ?_⟩
    exact ⟨_, fun cls d σ' H' w => ⟨w.1, fun a na hl => ⟨.ref a, by rw [List.getElem?_set_self (by have hl : σ'.length = N.length := hl; omega)], w.2 a na _ (by have hl : σ'.length = N.length := hl; simp [hl]) (by have hl : σ'.length = N.length := hl; rw [List.getElem?_set_ne (Ne.symm ne), List.getElem?_set_self (by rw [List.length_set]; omega)])⟩⟩, _, ⟨by rw [List.getElem?_set_ne n0, List.getElem?_set_ne o0]; rfl, hcd, h⟩, fun v H' k => k _ (by simp [hst]) (by rw [List.getElem?_set_ne no, List.getElem?_set_self (by rw [List.length_set, hst]; omega)]) (fun i z => by cases z; rw [List.getElem?_set_self (by simp [hst]; omega)])⟩
end
end PL

set_option maxHeartbeats 4000000
/-! RGc: what such a def tells, by functions of what is raised and of what is found. -/
namespace PL
open PySem PySem.Spec PyProof.Rows L2 LamX
section
variable {W : Type} {K : PySem.W.Frag} {O : Wd W}
theorem Sd.blank {ρ : Rho} {w : W} {σ : L2.St} {H F : Hp} (sub : Same F H) (wok : O.ok H w) (dF : ∀ b, O.D b → F b = none) (hl : σ.length = ρ.length)
    (hs : ∀ (i : Nat) (s : Sl), ρ[i]? = some s → s = .un ∨ ∃ t v, s = .fz t ∧ σ[i]? = some (some v) ∧ Rep K F v t) : Sd K ⟨O, H, F⟩ ρ w σ H F := by
  refine ⟨sub, wok, dF, fun b d => O.live wok d, fun b o e _ => e, Same.refl F, fun _ _ => rfl, fun i s h => ?_, fun i j s t h _ ho => ?_, hl⟩
  · rcases hs i s h with rfl | ⟨t, v, rfl, h1, h2⟩
    · trivial
    · exact ⟨v, h1, h2⟩
  · rcases hs i s h with rfl | ⟨_, _, rfl, _⟩ <;> cases ho
def rho1 (m i : Nat) (t : T) : Rho := (List.replicate m Sl.un).set i (.fz t)
theorem rho1_at {m i : Nat} {t : T} : ∀ (j : Nat) (s : Sl), (rho1 m i t)[j]? = some s → s = .un ∨ (j = i ∧ s = .fz t) := fun j s h => by
  unfold rho1 at h
  rcases getElem?_set' h with ⟨rfl, rfl⟩ | ⟨_, h⟩
  · exact .inr ⟨rfl, rfl⟩
  · rw [List.getElem?_replicate] at h
    split at h
    · cases h; exact .inl rfl
    · cases h
theorem rho1_len {m i : Nat} {t : T} : (rho1 m i t).length = m := by unfold rho1; simp
/-- a def that asks in its own body: its mirror of an exception -/
def TXG (W : Type) (K : PySem.W.Frag) (KB : Addr → (Str → Bool) → Prop) (gk : Addr → (Str → Bool) → (Str → Option T) → Rho → M W Fl) : Addr → Value → Option Addr → TS := fun a cls d D σ H => ∃ (Dc : Addr) (G : Gm W) (xb : Str → Bool) (xf : Str → Option T), cls = .ref Dc ∧ AskC K Dc ∧ KB Dc xb ∧ (∀ dd, d = some dd → ∃ fs, G.B dd = some (.xd fs) ∧ ¬ G.O.D dd) ∧
  (∀ (fl : Str) (t : T), xf fl = some t → PySem.W.findIn K (.ref Dc) fl = some none ∧ ∃ dd fs v, d = some dd ∧ G.B dd = some (.xd fs) ∧ ¬ G.O.D dd ∧ fs.lookup fl = some v ∧ Rep K G.F0 v t) ∧
  tS K G (fun _ _ _ => False) (gk a xb xf) D σ H
def TNG (W : Type) (K : PySem.W.Frag) (g0 : Rho → M W Fl) : TS := fun D σ H => ∃ G : Gm W, tS K G (fun _ _ _ => False) g0 D σ H
theorem pss_TNG {X : Cx} {rest : List Stmt} {g0 : Rho → M W Fl} (h : ∀ G : Gm W, PDs X G (fun _ _ _ => False) rest g0) : PSs X rest (TNG W X.K g0) := ⟨fun pins s σ H D I ⟨G, q⟩ => (h G).run.run pins s σ H D I q⟩
theorem pss_TXG {X : Cx} {rest : List Stmt} {KB : Addr → (Str → Bool) → Prop} {gk : Addr → (Str → Bool) → (Str → Option T) → Rho → M W Fl} {a : Addr} {oe : Obj} {cls : Value} {d : Option Addr} (hz : Zc cls d oe) (hf : ∃ vs, oe.data = .fields vs)
    (h : ∀ (D : Addr) (G : Gm W) (xb : Str → Bool) (xf : Str → Option T), XArg (knw X (a, oe)) G a D d oe → KB D xb →
      (∀ (fl : Str) (t : T), xf fl = some t → PySem.W.findIn X.K (.ref D) fl = some none ∧ ∃ dd fs v, d = some dd ∧ G.B dd = some (.xd fs) ∧ ¬ G.O.D dd ∧ fs.lookup fl = some v ∧ Rep X.K G.F0 v t) → PDs (knw X (a, oe)) G (fun _ _ _ => False) rest (gk a xb xf)) :
    PSs (knw X (a, oe)) rest (TXG W X.K KB gk a cls d) := ⟨fun pins s σ H D I q => by
  obtain ⟨Dc, G, xb, xf, rfl, hA, hB, h1, h2, k⟩ := q
  exact (h Dc G xb xf ⟨hA, oldX_knw hz hf, h1⟩ hB h2).run.run pins s σ H D I k⟩
structure KdOk2 (W : Type) (K : PySem.W.Frag) (CS : Addr) (KB : Addr → (Str → Bool) → Prop) (m ic : Nat) (gk : Addr → (Str → Bool) → (Str → Option T) → Rho → M W Fl) (kd : Er → Option T) : Prop where
  at_ : ∀ e u, kd e = some u → AskC K e.C ∧ PySem.W.exmOne K (.ref e.C) (.ref CS) = some true ∧ (∀ fl ∈ e.ns, PySem.W.findIn K (.ref e.C) fl = some none) ∧ ∃ xb, KB e.C xb ∧ ∀ a : Addr, gk a xb (fun fl => lookT fl e.ns e.ts) (rho1 m ic (.raw (.ref a))) = ret (.rt u)
variable {KB : Addr → (Str → Bool) → Prop} {gk : Addr → (Str → Bool) → (Str → Option T) → Rho → M W Fl} {CS : Addr} {m ic : Nat} {g0 : Rho → M W Fl} {kn : T → Option T} {kd : Er → Option T}
theorem kind_er {G : Gm W} {H F : Hp} {Q : VK} {e : Er} {w' : W} {u : T} {tl : XK → Hp → VK → Prop} (NX : NoXd G.O) (KD : KdOk2 W K CS KB m ic gk kd) (hu : kd e = some u)
    (fin : ∀ v ρ σ H' F', Sd K G ρ w' σ H' F' → Gr G H F H' F' → Rep K F' v u → Q v H') : ∀ d H' F' ρ σ, Sd K G ρ w' σ H' F' → Gr G H F H' F' → ErAt K H' F' e d →
    PySem.W.exmOne K (.ref e.C) (.ref CS) = some true ∧ ∀ a, H' a = none → ∀ σ : L2.St, σ.length = m → σ[ic]? = some (some (.ref a)) → TXG W K KB gk a (.ref e.C) d { nx := fun _ H' => Q .non H', rt := Q } σ H' := by
  obtain ⟨ask, ex, nf, xb, kb, eval⟩ := KD.at_ e u hu
  refine fun d H' F' ρ σ S g ea => ⟨ex, fun a na σ2 hl hs => ⟨e.C, ⟨G.O, H', F'⟩, xb, fun fl => lookT fl e.ns e.ts, rfl, ask, kb, fun dd hd => ?_, fun fl t hl => ?_, ?_⟩⟩
  · rcases ea with ⟨_, _, q⟩ | ⟨dd', vs, q, hx, _, _⟩
    · rw [q] at hd; cases hd
    · rw [q] at hd
      cases hd
      exact ⟨_, hx, NX _ _ _ _ S.wok hx⟩
  · rcases ea with ⟨e1, e2, _⟩ | ⟨dd', vs, q, hx, hl2, rs⟩
    · have hl : lookT fl e.ns e.ts = some t := hl
      rw [e1] at hl
      cases hl
    · obtain ⟨v, h1, h2, h3⟩ := rs.look hl
      exact ⟨nf fl h3, dd', _, v, q, hx, NX _ _ _ _ S.wok hx, h1, h2⟩
  · have S0 := Sd.blank (K := K) (O := G.O) (ρ := rho1 m ic (.raw (.ref a))) S.sub S.wok S.dF (by rw [rho1_len]; exact hl) (fun j s h => by
      rcases rho1_at j s h with rfl | ⟨rfl, rfl⟩
      · exact .inl rfl
      · exact .inr ⟨_, _, rfl, hs, .raw _⟩)
    refine ⟨_, w', F', .ok (.rt u), w', S0, by rw [eval a]; rfl, fun v ρ' σ' H2 F2 S2 s2 rv => ?_⟩
    have S3 := S.back (G := G) (H := H') (F := F') S2 ⟨s2, fun b o h nd => S2.keep b o h nd, fun b h => S2.old b h⟩
    exact fin v ρ σ H2 F2 S3.1 (g.trans S3.2 S.dH) rv
theorem kind_ok {G : Gm W} {H F : Hp} {Q : VK} {w' : W} {u : T} {ρ0 : Rho} (fin : ∀ v ρ σ H' F', Sd K G ρ w' σ H' F' → Gr G H F H' F' → Rep K F' v u → Q v H') (eval : g0 ρ0 = ret (.rt u))
    {ρ : Rho} {σ σ2 : L2.St} {H' F' : Hp} (S : Sd K G ρ w' σ H' F') (g : Gr G H F H' F') (hl : σ2.length = ρ0.length) (hs : ∀ (i : Nat) (s : Sl), ρ0[i]? = some s → s = .un ∨ ∃ t v, s = .fz t ∧ σ2[i]? = some (some v) ∧ Rep K F' v t) :
    TNG W K g0 { nx := fun _ H' => Q .non H', rt := Q } σ2 H' := by
  have S0 := Sd.blank (K := K) (O := G.O) S.sub S.wok S.dF hl hs
  refine ⟨_, _, w', F', .ok (.rt u), w', S0, by rw [eval]; rfl, fun v ρ' σ' H2 F2 S2 s2 rv => ?_⟩
  have S3 := S.back (G := G) (H := H') (F := F') S2 ⟨s2, fun b o h nd => S2.keep b o h nd, fun b h => S2.old b h⟩
  exact fin v ρ σ H2 F2 S3.1 (g.trans S3.2 S.dH) rv
/-- nothing is made of what is found -/
theorem kindOk_heard1 {u0 : T} (NX : NoXd O) (h0 : g0 (rho1 m ic .non) = ret (.rt u0)) (KD : KdOk2 W K CS KB m ic gk kd) : KindOk K O (THd K CS m ic none (fun _ => TNG W K g0) (TXG W K KB gk)) (fun _ => some u0) kd := by
  refine ⟨fun tl G H F Q r w' u hO l hu fin => l _ _ ?_⟩
  subst hO
  cases r with
  | ok t =>
    cases hu
    exact fun v ρ σ H' F' S g rv σ2 hl hs _ => kind_ok fin h0 S g (by rw [rho1_len]; exact hl) fun j s h => by
      rcases rho1_at j s h with rfl | ⟨rfl, rfl⟩
      · exact .inl rfl
      · exact .inr ⟨_, _, rfl, hs, .non⟩
  | er e => exact kind_er (tl := tl) NX KD hu fin
/-- what is found is told by kn -/
theorem kindOk_heard2 {io : Nat} (NX : NoXd O) (hne : io ≠ ic) (h0 : ∀ t u, kn t = some u → g0 ((rho1 m ic .non).set io (.fz t)) = ret (.rt u)) (KD : KdOk2 W K CS KB m ic gk kd) :
    KindOk K O (THd K CS m ic (some io) (fun _ D σ H => ∃ v : V, σ[io]? = some (some v) ∧ TNG W K g0 D σ H) (TXG W K KB gk)) kn kd := by
  refine ⟨fun tl G H F Q r w' u hO l hu fin => l _ _ ?_⟩
  subst hO
  cases r with
  | ok t =>
    exact fun v ρ σ H' F' S g rv σ2 hl hs ho => ⟨v, ho io rfl, kind_ok fin (h0 t u hu) S g (by rw [List.length_set, rho1_len]; exact hl) fun j s h => by
      rcases getElem?_set' h with ⟨rfl, rfl⟩ | ⟨_, h⟩
      · exact .inr ⟨_, _, rfl, ho _ rfl, rv⟩
      · rcases rho1_at j s h with rfl | ⟨rfl, rfl⟩
        · exact .inl rfl
        · exact .inr ⟨_, _, rfl, hs, .non⟩⟩
  | er e => exact kind_er (tl := tl) NX KD hu fin
end
end PL

set_option maxHeartbeats 4000000
/-! RGd: cg = None; try: wk() / except se as er: cg = er.fl; rest. -/
namespace PL
open PySem PySem.Spec PyProof.Rows L2 LamX
def THf (W : Type) (K : PySem.W.Frag) (CS : Addr) (m ic : Nat) (fl : Str) (g0 : Rho → M W Fl) : (XK → Hp → VK → Prop) → Hp → VK → Prop := fun tl H Q =>
  tl (fun cls d H' => PySem.W.exmOne K cls (.ref CS) = some true ∧ ∃ (Dc dd : Addr) (fs : List (Str × V)) (v : V), cls = .ref Dc ∧ AskC K Dc ∧ PySem.W.findIn K (.ref Dc) fl = some none ∧ d = some dd ∧ H' dd = some (.xd fs) ∧ fs.lookup fl = some v ∧
      ∀ σ : L2.St, σ.length = m → σ[ic]? = some (some v) → TNG W K g0 { nx := fun _ H' => Q .non H', rt := Q } σ H') H
    fun v H' => ∀ σ : L2.St, σ.length = m → σ[ic]? = some (some .non) → TNG W K g0 { nx := fun _ H' => Q .non H', rt := Q } σ H'
section
variable {W : Type} {X : Cx} {CS g : Addr} {x se wk cg er q fl : Str} {sg : Scope} {N : List Str} {cdg : Value} {j0 ic ie : Nat} {rest : List Stmt} {g0 : Rho → M W Fl} {p1 p2 p3 p4 p5 p6 p7 p8 q1 q2 q3 q4 q5 q6 q7 : Pos}
theorem oldX_suite {Z : Cx} {a D : Addr} {d : Option Addr} {oe : Obj} {pn : List (Addr × Obj)} (hz : Zc (.ref D) d oe) (hf : ∃ vs, oe.data = .fields vs) : OldX (Z.suite a ((a, oe) :: pn)) a D d oe :=
  ⟨fun I => (I.pin (a, oe) (List.mem_append_left _ List.mem_cons_self)).1, hz, hf⟩
theorem heardF_gives (h0 : N[0]? = some wk) (hc : N[ic]? = some cg) (he : N[ie]? = some er) (ne : ic ≠ ie) (n0 : ic ≠ 0) (nd : N.Nodup)
    (ms : X.mg se = some (.ref CS)) (gs : sg.names.lookup se = some .globalImplicit) (lc : sg.names.lookup cg = some .local) (le : sg.names.lookup er = some .local) (ds : (se == ("__debug__" : Str)) = false) (de : (er == ("__debug__" : Str)) = false) (dec : (er == ("__classdict__" : Str)) = false)
    (hN : ∀ (s : Shared) (H : Hp) (G : Gm W), PDs (hZ X N x sg g cdg s H) G (fun _ _ _ => False) rest g0)
    (hb : ∀ (Z : Cx) (a : Addr) (oe : Obj) (pn : List (Addr × Obj)), attributeBase (.Name er q5) fl (Z.suite a ((a, oe) :: pn)).env (eval (.Name er q5) (Z.suite a ((a, oe) :: pn)).env) = eval (.Name er q5) (Z.suite a ((a, oe) :: pn)).env) :
    GivesTo X N x sg g cdg (.Assign [.Name cg q1] (.Constant .none j0 q2) q3 :: .Try [.Expr (.Call (.Name wk p1) [] [] p2) p3] [.ExceptHandler (some (.Name se p4)) (some er) [.Assign [.Name cg q4] (.Attribute (.Name er q5) fl q7) q6] p5] [] [] p6 :: rest) wk q (THf W X.K CS N.length ic fl g0) := by
  intro f c' s H Q tl act hcd h
  have lic : ic < N.length := (List.getElem?_eq_some_iff.mp hc).1
  have lie : ie < N.length := (List.getElem?_eq_some_iff.mp he).1
  have hst := start_len (N := N) (f := V.ref f) (by omega)
  let Z : Cx := hZ X N x sg g cdg s H
  refine ⟨_, pss_cons (X := Z) (ps_set (i := ic) nd hc (.inl lc) pe_non rfl (.inr lc)) (pss_try_asK (X := Z) (i := ie) (c := .ref CS)
    (tb := fun W D σ H => ∃ Ech : XK, (∀ cls d σ' H', Ech cls d H' → W cls d σ' H') ∧ ∃ Q' : VK, (σ[0]? = some (some (.ref f)) ∧ H c' = some (CodeO c' q) ∧ tl Ech H Q') ∧ ∀ v H', Q' v H' → D.nx σ H')
    (ts := fun a cls d D σ H => ∃ (Dc dd : Addr) (fs : List (Str × V)) (v : V), cls = .ref Dc ∧ AskC X.K Dc ∧ PySem.W.findIn X.K (.ref Dc) fl = some none ∧ d = some dd ∧ H dd = some (.xd fs) ∧ fs.lookup fl = some v ∧ σ[ie]? = some (some (.ref a)) ∧ D.nx (σ.set ic (some v)) H)
    (tr := fun _ _ _ => TNG W X.K g0) (u := TNG W X.K g0)
    rfl rfl nd he le ⟨gs, ds, .inl ms⟩ (fun W pn xe tk => ?_) (fun a oe cls d pn hz hf => ?_) (pss_TNG (hN s H)) (fun a oe cls d hz hf pins s' σ H' D I k => ?_)), ?_⟩
  · refine ⟨fun pins s' σ H D I h' => ?_⟩
    obtain ⟨Ech, hW, Q', h1, h2⟩ := h'
    exact (pss_one (ps_expr (act W pn xe Ech p1 p2 tk hW).mc)).run pins s' σ H D I ⟨Q', h1, h2⟩
  · refine ⟨fun pins s' σ H D I h' => ?_⟩
    obtain ⟨Dc, dd, fs, v, rfl, hA, hno, hd, hx, hl, hs, k⟩ := h'
    exact (pss_one (ps_set (X := Z.suite a ((a, oe) :: pn)) (i := ic) nd hc (.inl lc) (pe_xo (X := Z.suite a ((a, oe) :: pn)) (pos := q7) hA (oldX_suite hz hf) hno (pe_var (i := ie) he (.inl le) de dec) (hb Z a oe pn)) rfl (.inr lc))).run pins s' σ H D I ⟨.ref a, hs, rfl, dd, fs, v, hd, hx, hl, k⟩
  · exact wpAny_mono ((pss_TNG (X := Z) (hN s H)).run _ s' σ H' D I k) (fun _ _ z => z) fun _ _ z => z
  · exact ⟨_, fun cls d σ' H' w => ⟨w.1, fun a na hl => (by
        obtain ⟨Dc, dd, fs, v, e1, e2, e3, e4, e5, e6, k⟩ := w.2
        have hl : σ'.length = N.length := hl
        exact ⟨Dc, dd, fs, v, e1, e2, e3, e4, e5, e6, by rw [List.getElem?_set_self (by omega)], k _ (by simp [hl]) (by rw [List.getElem?_set_ne (Ne.symm ne), List.getElem?_set_self (by rw [List.length_set]; omega)])⟩)⟩,
      _, ⟨by rw [List.getElem?_set_ne n0]; rfl, hcd, h⟩, fun v H' k => k _ (by rw [List.length_set, hst]) (by rw [List.getElem?_set_self (by omega)])⟩
end
section
variable {W : Type} {K : PySem.W.Frag} {O : Wd W} {CS : Addr} {m ic : Nat} {g0 : Rho → M W Fl} {fl : Str} {kd : Er → Option T}
theorem kindOk_heardF {u0 : T} (NX : NoXd O) (h0 : g0 (rho1 m ic .non) = ret (.rt u0))
    (KD : ∀ e u, kd e = some u → PySem.W.exmOne K (.ref e.C) (.ref CS) = some true ∧ AskC K e.C ∧ PySem.W.findIn K (.ref e.C) fl = some none ∧ ∃ t, lookT fl e.ns e.ts = some t ∧ g0 (rho1 m ic t) = ret (.rt u)) :
    KindOk K O (THf W K CS m ic fl g0) (fun _ => some u0) kd := by
  refine ⟨fun tl G H F Q r w' u hO l hu fin => l _ _ ?_⟩
  subst hO
  cases r with
  | ok t =>
    cases hu
    exact fun v ρ σ H' F' S g rv σ2 hl hs => kind_ok fin h0 S g (by rw [rho1_len]; exact hl) fun j s h => by
      rcases rho1_at j s h with rfl | ⟨rfl, rfl⟩
      · exact .inl rfl
      · exact .inr ⟨_, _, rfl, hs, .non⟩
  | er e =>
    obtain ⟨ex, ask, nf, t, hlk, ev⟩ := KD e u hu
    refine fun d H' F' ρ σ S g ea => ⟨ex, ?_⟩
    rcases ea with ⟨e1, _, _⟩ | ⟨dd, vs, q, hx, hl2, rs⟩
    · rw [e1] at hlk
      cases hlk
    · obtain ⟨v, h1, h2, h3⟩ := rs.look hlk
      exact ⟨e.C, dd, _, v, rfl, ask, nf, q, hx, h1, fun σ2 hl hs => kind_ok fin ev S g (by rw [rho1_len]; exact hl) fun j s h => by
        rcases rho1_at j s h with rfl | ⟨rfl, rfl⟩
        · exact .inl rfl
        · exact .inr ⟨_, _, rfl, hs, h2⟩⟩
end
end PL

set_option maxHeartbeats 4000000
/-! RH: from the law's promise (FnG) to what the head asks, where defs have tables of code objects. -/
namespace PL
open PySem PySem.Spec PyProof.Rows L2 LamX
section
variable {K : PySem.W.Frag} {mg mb : Str → Option Value} {a : Addr} {cs : List (Addr × Addr)} {s1 : Shared} {vs : List Value} {ns : List Int}
/-- the law's start: the script and the tables -/
def H0 (K : PySem.W.Frag) (a : Addr) (vs : List Value) (ns : List Int) (cs : List (Addr × Addr)) : Hp := fun b => if cs.any (fun p => p.2 == b) = true then some (.tbl #[]) else if b = a ∧ K.lookup a = none then some (.frz { cls := .type "list", data := .seq vs.toArray } (.lst (ns.map V.int))) else none
theorem any_tab {b : Addr} (h : cs.any (fun p => p.2 == b) = true) : ∃ p ∈ cs, p.2 = b := by
  obtain ⟨p, hp, e⟩ := List.any_eq_true.mp h
  exact ⟨p, hp, by simpa using e⟩
theorem H0_tab {p : Addr × Addr} (hp : p ∈ cs) : H0 K a vs ns cs p.2 = some (.tbl #[]) := if_pos (List.any_eq_true.mpr ⟨p, hp, by simp⟩)
theorem H0_cases (b : Addr) : H0 K a vs ns cs b = none ∨ (∃ p ∈ cs, p.2 = b ∧ H0 K a vs ns cs b = some (.tbl #[])) ∨ (b = a ∧ K.lookup a = none ∧ H0 K a vs ns cs b = some (.frz { cls := .type "list", data := .seq vs.toArray } (.lst (ns.map V.int)))) := by
  by_cases h : cs.any (fun p => p.2 == b) = true
  · obtain ⟨p, hp, rfl⟩ := any_tab h
    exact .inr (.inl ⟨p, hp, rfl, if_pos h⟩)
  · by_cases h2 : b = a ∧ K.lookup a = none
    · exact .inr (.inr ⟨h2.1, h2.2, (if_neg h).trans (if_pos h2)⟩)
    · exact .inl ((if_neg h).trans (if_neg h2))
theorem law_callT {P : Program} {w : World} {CX : CXT} {k : Nat} {fa : Addr} {fd : FuncData} {x : Str} {sp : Sp}
    (KX : K.In s1.heap) (hns : s1.heap.Ns mainGlobals mg) (hb : s1.heap.Ns builtinsNs mb) (hbb : ∀ x : Str, x ≠ "__name__" → mb x = bootBuiltins x) (hlim : s1.heap.NoLimit) (hg : s1.gens = #[])
    (hT : ∀ p ∈ cs, PySem.W.CodeHd s1.heap p.1 p.2 ∧ s1.heap.get? p.2 = some (PySem.W.tabObj #[]) ∧ K.lookup p.2 = none)
    (hbm : ∃ (bm : Addr) (ob : Obj), mg "__builtins__" = some (.ref bm) ∧ bm ≠ builtinsNs ∧ s1.heap.get? bm = some ob ∧ ob.cls = .type "module" ∧ ob.dict = some builtinsNs ∧ ob.data = .plain)
    (ha : s1.heap.get? a = some { cls := .type "list", data := .seq vs.toArray }) (hi : IntsAre vs ns) (hl : ns.length ≤ sizeLine) (hr : Room k callerA)
    (F : ∀ base : Heap, K.In base → base.Ns mainGlobals mg → (∀ p ∈ cs, TabB base mg p.1 p.2) → FnG P w K mg base CX k fa fd [x] sp) (hbind : ∀ (s : Shared) (u : Value), BindsTo s fd ⟨[u], []⟩ [(x, u)])
    (hsp : ∀ H : Hp, (∀ p ∈ cs, H p.2 = some (.tbl #[])) → SqL K H a (ns.map V.int) → sp [.ref a] H (fun v _ => v = .bl true) fun _ _ _ => False)
    (hCX : ∀ H e s', CX [] H s1 (fun _ _ _ => False) e s' → False) :
    codeAny (model P w) callerA (.call (.ref fa) ⟨[.ref a], []⟩) (fun r s' => r = .ok (.ret (.bool true)) ∧ OldK s1.heap s'.heap ∧ s'.os = s1.os ∧ AllBare s'.gens) s1 := by
  have rv := vals_ints hi
  let H := H0 K a vs ns cs
  have taba : ∀ p ∈ cs, p.2 ≠ a := fun p hp z => by
    have e := (hT p hp).2.1
    rw [z, ha] at e
    cases e
  have hok : HOk P w H s1.heap := fun b o e => by
    rcases H0_cases (K := K) (a := a) (vs := vs) (ns := ns) (cs := cs) b with z | ⟨p, hp, rfl, z⟩ | ⟨rfl, _, z⟩
    · cases z.symm.trans e
    · cases z.symm.trans e
      exact (hT p hp).2.1
    · cases z.symm.trans e
      exact ⟨ha, by rw [List.length_map]; exact hl, vs, _, rv, ha⟩
  -- what is no list and no table is not tracked
  have out : ∀ {b : Addr} {o : Obj}, s1.heap.get? b = some o → (∀ z n, o.data = .seq z n → False) → (o.data = .fields #[] → False) → H b = none := fun {b o} e h1 h2 => by
    rcases H0_cases (K := K) (a := a) (vs := vs) (ns := ns) (cs := cs) b with z | ⟨p, hp, rfl, _⟩ | ⟨rfl, _, _⟩
    · exact z
    · rw [(hT p hp).2.1] at e
      cases e
      exact (h2 rfl).elim
    · rw [ha] at e
      cases e
      exact (h1 _ _ rfl).elim
  have nsK : ∀ {b : Addr} {m : Str → Option Value}, s1.heap.Ns b m → (hidT s1.heap H).Ns b m := fun {b m} ⟨o, es, ep, e, d, r⟩ => ⟨o, es, ep, hidT_get e (out e (fun z n q => by rw [d] at q; cases q) fun q => by rw [d] at q; cases q), d, r⟩
  have hKb : K.In (hidT s1.heap H) := fun b o e => hidT_get (KX b o e) (by
    rcases H0_cases (K := K) (a := a) (vs := vs) (ns := ns) (cs := cs) b with z | ⟨p, hp, rfl, _⟩ | ⟨rfl, q, _⟩
    · exact z
    · rw [(hT p hp).2.2] at e; cases e
    · rw [q] at e; cases e)
  have hM : Mod K mg (hidT s1.heap H) := ⟨hKb, nsK hns, ⟨mb, nsK hb, hbb⟩, let ⟨mc, h1, h2⟩ := hlim; ⟨mc, nsK h1, h2⟩⟩
  have noG : ∀ {b : Addr} {o : Obj}, s1.heap.get? b = some o → (∀ es ep, o.data = .dict es ep → False) → b ≠ mainGlobals := fun {b o} e h z => by
    obtain ⟨o', es, ep, e', d, _⟩ := hns
    rw [z, e'] at e
    cases e
    exact h es ep d
  have TB : ∀ p ∈ cs, TabB (hidT s1.heap H) mg p.1 p.2 := fun p hp => by
    obtain ⟨C, Tb, _⟩ := hT p hp
    refine ⟨?_, ?_, Ne.symm (noG Tb fun es ep z => by cases z)⟩
    · obtain ⟨o, us, file, tf, flags, tg, inF, text, tt, e1, r1, r2, r3, rest⟩ := C
      exact ⟨o, us, file, tf, flags, tg, inF, text, tt, hidT_get e1 (out e1 (fun z n q => by rw [r2] at q; cases q) fun q => by
        rw [r2] at q
        cases q
        simp at r3), r1, r2, r3, rest⟩
    · obtain ⟨bm, ob, b1, b2, b3, b4, b5, b6⟩ := hbm
      exact ⟨bm, ob, b1, b2, noG b3 (fun es ep z => by rw [b6] at z; cases z), (fun z => by rw [z, Tb] at b3; cases b3; cases b6),
        hidT_get b3 (out b3 (fun z n q => by rw [b6] at q; cases q) fun q => by rw [b6] at q; cases q), b4, b5, b6⟩
  have e0 : Env0 P w K mg (hidT s1.heap H) callerA [] s1 H := ⟨rfl, hM, fun b o e => of_hidT e, Nat.le_of_eq (hidT_size _ _), trivial, fun b hb => absurd (show b ∈ ([] : List Addr) from hb) (by simp), hok, .of_eq hg⟩
  have hS : SqL K H a (ns.map V.int) := by
    cases hk : K.lookup a with
    | some o =>
      have e := KX a o hk
      rw [ha] at e
      cases e
      exact .inr ⟨_, vs.toArray, _, hk, rfl, rfl, rfl, by rw [List.size_toArray, hi.length]; exact hl, by simpa using rv⟩
    | none => exact .inl (.inr ⟨{ cls := .type "list", data := .seq vs.toArray }, (if_neg (fun z => by
        obtain ⟨p, hp, e⟩ := any_tab z
        exact taba p hp e)).trans (if_pos ⟨rfl, hk⟩)⟩)
  refine codeAny_mono ((F _ hKb (nsK hns) TB).run callerA [] s1 H ⟨[.ref a], []⟩ [.ref a] [.ref a] _ _ hr rfl e0 (hbind s1 (.ref a)) (.cons rfl .nil) (hsp H (fun p hp => H0_tab hp) hS)) fun r s' h => ?_
  match r, h with
  | .error e, h => exact (hCX H e s' h).elim
  | .ok .next, h => exact h.elim
  | .ok .brk, h => exact h.elim
  | .ok .cont, h => exact h.elim
  | .ok (.ret u), ⟨v, H', os, bare, un, hok', r', q⟩ =>
    obtain rfl : v = .bl true := q
    obtain rfl : u = Value.bool true := r'
    have kept : ∀ b o, s1.heap.get? b = some o → s'.heap.get? b = some o ∨ ∃ p ∈ cs, p.2 = b ∧ ∃ more : Array Value, s'.heap.get? b = some (PySem.W.tabObj more) := fun b o e => by
      rcases H0_cases (K := K) (a := a) (vs := vs) (ns := ns) (cs := cs) b with z | ⟨p, hp, rfl, z⟩ | ⟨rfl, _, z⟩
      · exact .inl (un.keep b o e z (fun z => absurd (show b ∈ ([] : List Addr) from z) (by simp)) (by simp))
      · obtain ⟨more, g⟩ := un.tbls p.2 #[] z
        exact .inr ⟨p, hp, rfl, _, hok' p.2 _ g⟩
      · obtain ⟨e1, _⟩ := hok _ _ z
        obtain ⟨e2, _⟩ := hok' _ _ (un.frzs _ _ _ z)
        rw [e] at e1
        cases e1
        exact .inl e2
    refine ⟨rfl, ⟨fun b o e => ?_, fun b o e => ?_⟩, os, bare⟩
    · rcases kept b o e with k | ⟨p, hp, rfl, more, k⟩
      · exact .inl k
      · obtain ⟨C, Tb, _⟩ := hT p hp
        rw [Tb] at e
        cases e
        exact .inr (.inl ⟨(C.tab Tb).isCodeTable, rfl, #[], more, rfl, by rw [Array.empty_append]; exact k⟩)
    · rcases kept b o e with k | ⟨p, hp, rfl, more, k⟩
      · exact ⟨o, k⟩
      · exact ⟨_, k⟩
end
theorem walk_ofTG {l : PySem.W.OpenLaw} {n k : Nat} {q : Program} {loose : List Str} {XP : (Str → Option Value) → Heap → Prop} {YP : World → Heap → Prop} {d : DefRec} {K : Params → PySem.W.Frag} {CX : World → CXT} {sp : World → Sp} {x : Str} {cs : List (Addr × Addr)}
    (hn : l.most = some n) (hn2 : n ≤ sizeLine) (hdf : d.params.defaults = []) (hr : Room k callerA) (hY : ∀ (w : World) (h : Heap), YP w h → (K w.params).In h)
    (hT : ∀ (w : World) (h : Heap), YP w h → ∀ p ∈ cs, PySem.W.CodeHd h p.1 p.2 ∧ h.get? p.2 = some (PySem.W.tabObj #[]) ∧ (K w.params).lookup p.2 = none)
    (F : ∀ (w : World) (mg : Str → Option Value) (fa : Addr) (h : Heap), (K w.params).In h → h.Ns mainGlobals mg → mg d.name = some (.ref fa) →
      ∃ fd : FuncData, (∀ (s : Shared) (u : Value), BindsTo s fd ⟨[u], []⟩ [(x, u)]) ∧
        ∀ base : Heap, (K w.params).In base → base.Ns mainGlobals mg → (∀ p ∈ cs, TabB base mg p.1 p.2) → FnG l.prog w (K w.params) mg base (CX w) k fa fd [x] (sp w))
    (hsp : ∀ (w : World) (H : Hp) (a : Addr) (ns : List Int), ns.length ≤ n → (∀ p ∈ cs, H p.2 = some (.tbl #[])) → SqL (K w.params) H a (ns.map V.int) → sp w [.ref a] H (fun v _ => v = .bl true) fun _ _ _ => False)
    (hCX : ∀ (w : World) (H : Hp) (s : Shared) (e : Value) (s' : Shared), CX w [] H s (fun _ _ _ => False) e s' → False) :
    PySem.W.WalkO q loose XP YP l.row.toRowW d [] (fun f vs => PySem.call f vs) := by
  refine Att.attach_call hn hdf fun w s0 s1 mg mb fa o pm cd doc a vs ns G Y ho hd hcd hmg hobj hints hlen hg => ?_
  have KX := hY w _ Y
  obtain ⟨fd, hb, hF⟩ := F w mg fa _ KX G.T.g hmg
  exact law_callT KX G.T.g G.T.b G.T.builtins G.T.nolimit hg (hT w _ Y) G.T.bmain hobj hints (Nat.le_trans hlen hn2) hr hF hb (fun H h1 hS => hsp w H a ns hlen h1 hS) fun H e s' => hCX w H s1 e s'
end PL

set_option maxHeartbeats 4000000
/-! RI: defs that make lambdas: they want a world that keeps the tables of their code objects. -/
namespace PL
open PySem PySem.Spec PyProof.Rows L2 LamX
/-- the world keeps these tables, and has no exceptions' dicts -/
def CW {W : Type} (Ts : List (Addr × Str)) (O : Wd W) : Prop := (∀ p ∈ Ts, ∀ B F0 : Hp, TabOk (⟨O, B, F0⟩ : Gm W) p.1 p.2) ∧ NoXd O
section
variable {W : Type} {P : Program} {w : World} {K : PySem.W.Frag} {mg : Str → Option Value} {base : Heap} {Ts : List (Addr × Str)}
theorem CW.tab {G : Gm W} (h : CW Ts G.O) {P : Addr} {q : Str} (hm : (P, q) ∈ Ts) : TabOk G P q := h.1 (P, q) hm G.B G.F0
def spFT (K : PySem.W.Frag) (Ts : List (Addr × Str)) (n : Nat) (Fn : List T → M W T) : Sp := fun vs H Q E => ∃ (O : Wd W) (F : Hp) (ts : List T) (w : W) (r : R T) (w' : W), CW Ts O ∧ vs.length = n ∧ Same F H ∧ O.ok H w ∧ (∀ b, O.D b → F b = none) ∧ Reps K F vs ts ∧ Fn ts w = some (r, w') ∧ AccC K O E H F Q r w'
theorem spFT.len {n : Nat} {Fn : List T → M W T} : ∀ vs H Q E, spFT K Ts n Fn vs H Q E → vs.length = n := fun _ _ _ _ ⟨_, _, _, _, _, _, _, h, _⟩ => h
structure DefOkT (P : Program) (w : World) (K : PySem.W.Frag) (mg : Str → Option Value) (base : Heap) (Ts : List (Addr × Str)) (k : Nat) (x : Str) (n : Nat) (Fn : List T → M W T) : Prop where
  ex : ∃ f fd ps, FnG P w K mg base (L2.CX P w) k f fd ps (spFT K Ts n Fn) ∧ mg x = some (.ref f) ∧ PySem.W.keepIn K (.ref f) = true ∧ Binds K fd ps []
/-- a def whose code object stands at c -/
structure DefAtC (K : PySem.W.Frag) (mg : Str → Option Value) (x : Str) (st : Stmt) (c : Addr) : Prop where
  ex : ∃ (f : Addr) (oc kV doc pm ct : Value) (od an : Option Addr) (osl : Array (Option Value)), K.lookup f = some ⟨oc, od, .func (PySem.W.fnOf x x (defArgs st) (defBody st) (defScope st) .none kV doc pm an (.ref c) ct), osl⟩ ∧ PySem.W.codeIn K (.ref c) x = true ∧ PySem.W.keepIn K (.ref f) = true ∧ mg x = some (.ref f)
theorem def_okT {x : Str} {st : Stmt} {c : Addr} {N ps : List Str} {n m k : Nat} {g : Rho → M W Fl} (D : DefAtC K mg x st c) (S : FnScope N ps (defScope st)) (hps : ps.length = n) (hN : N.length = n + m)
    (hb : ∀ (kV doc pm : Value) (an : Option Addr) (cdv ct : Value) (us : List Value), us.length = ps.length → bindArgs (PySem.W.fnOf x x (defArgs st) (defBody st) (defScope st) .none kV doc pm an cdv ct) ⟨us, []⟩ = pure (ps.zip us))
    (hbody : ∀ (f : Addr) (A : Around) (outer : List PySem.Env) (s : Shared) (H : Hp) (E : XK) (G : Gm W), CW Ts G.O → Room k (A.deeper (envOfC x (defScope st) s.heap.objs.size f (.ref c))) → (A.deeper (envOfC x (defScope st) s.heap.objs.size f (.ref c))).guards = some [] →
      PDs (cxOf (L2.CX P w) P w K mg base N x (defScope st) f (.ref c) A outer s H E) G E (defBody st) g) :
    DefOkT P w K mg base Ts (k + 1) x n (run m g) := by
  obtain ⟨f, oc, kV, doc, pm, ct, od, an, osl, lk, hcd, kp, hm⟩ := D.ex
  refine ⟨f, _, ps, ⟨fun vs H Q E h => by rw [spFT.len _ _ _ _ h, hps], fun A outer s H args us vs Q E hr hgd e0 hbi r hsp => ?_⟩, hm, kp, (fun_mk lk hcd kp).binds hb⟩
  have KX : K.In s.heap := e0.mod.kin.keeps fun b o e => (e0.bs b o e).1
  have hkind : ∀ y ∈ ps.zip us, (defScope st).names.lookup y.1 = some .local ∨ ((defScope st).names.lookup y.1 = some .cell ∧ ((cellsFrom (s.heap.objs.size + 1) (defScope st).names []).lookup y.1).isSome = true) := fun ⟨z, v⟩ hy =>
    (S.par z (List.of_mem_zip hy).1).imp id fun q => ⟨q, PySem.W.cellsFrom_some _ _ _ (.inl q)⟩
  refine codeAny_call_function hr.depth (KX _ _ lk) rfl S.co S.gen rfl (PySem.W.codeRec_of KX hcd) (hbi _ _ _ _ (wpAny_newFunctionEnv_cells S.kind hkind fun env he s1 e1 => ?_))
  subst he
  obtain ⟨O, F, ts, w1, r1, w2, hC, hl, sub, wok, dF, rs, e, acc⟩ := hsp
  obtain ⟨G, hGC, hG⟩ : ∃ G : Gm W, CW Ts G.O ∧ tS K G E g { nx := fun _ H' => Q .non H', rt := Q } (L2.start N vs) H := by
    have hts : ts.length = n := by rw [← rs.length]; exact hl
    have S0 := Sd.start (K := K) (N := N) sub wok dF rs (by omega)
    have hm : N.length - ts.length = m := by omega
    rw [hm] at S0
    refine ⟨⟨O, H, F⟩, hC, ts.map Sl.fz ++ List.replicate m Sl.un, w1, F, ?_⟩
    have out : ∀ {ρ' : Rho} {σ' : L2.St} {H' F' : Hp} {w' : W}, Sd K ⟨O, H, F⟩ ρ' w' σ' H' F' → Same F F' → Out O H F w' H' F' := fun S' s' => ⟨S'.sub, s', S'.old, S'.keep, S'.wok, S'.dF⟩
    rcases bnd_inv e with ⟨fl, w3, h1, h2⟩ | ⟨er, h1, rfl⟩
    · refine ⟨.ok fl, w3, S0, h1, ?_⟩
      cases fl with
      | nx ρ' =>
        obtain ⟨rfl, rfl⟩ := ret_inv h2
        exact fun σ' H' F' S' s' => acc _ H' F' (out S' s') .non
      | rt t =>
        obtain ⟨rfl, rfl⟩ := ret_inv h2
        exact fun v ρ' σ' H' F' S' s' rv => acc v H' F' (out S' s') rv
      | bk ρ' => cases h2
      | ct ρ' => cases h2
    · exact ⟨.er er, w2, S0, h1, fun d H' F' ρ' σ' S' s' ea => acc d H' F' (out S' s') ea⟩
  have I : Inv (cxOf (L2.CX P w) P w K mg base N x (defScope st) f (.ref c) A outer s H E) [] (L2.start N vs) H s1 := inv_start S hr.hd e0 (by rw [hl, hps]) r e1
  refine ⟨(e0.mod.nolimit.keeps fun b o e => (e0.bs b o e).1).keeps e1.toInCall.keep, codeAny_func (wpAny_mono ((hbody f A outer s H E G hGC (hr.deeper _) hgd).run.run [] s1 (L2.start N vs) H _ I hG) (fun fl s' hs => ?_) fun e s' hs => hs)⟩
  match fl, hs with
  | .ret u, ⟨v, σ', H', J, rv, q⟩ => exact ⟨v, H', J.os, J.bare, J.base, J.hok, rv, q⟩
  | .next, ⟨σ', H', J, q⟩ => exact ⟨.non, H', J.os, J.bare, J.base, J.hok, rfl, q⟩
  | .brk, ⟨_, _, _, q⟩ => exact q.elim
  | .cont, ⟨_, _, _, q⟩ => exact q.elim
end
theorem fn_ofGC {P : Program} {w : World} {K : PySem.W.Frag} {mg : Str → Option Value} {base : Heap} {x : Str} {st : Stmt} {f c : Addr} {N ps : List Str} {k : Nat} {sp : Sp} {oc kV doc pm ct : Value} {od an : Option Addr} {osl : Array (Option Value)}
    (lk : K.lookup f = some ⟨oc, od, .func (PySem.W.fnOf x x (defArgs st) (defBody st) (defScope st) .none kV doc pm an (.ref c) ct), osl⟩) (hcd : PySem.W.codeIn K (.ref c) x = true) (S : FnScope N ps (defScope st)) (hlen : ∀ vs H Q E, sp vs H Q E → vs.length = ps.length)
    (hbody : ∀ (A : Around) (outer : List PySem.Env) (s : Shared) (H : Hp) (vs : List V) (Q : VK) (E : XK), Room k (A.deeper (envOfC x (defScope st) s.heap.objs.size f (.ref c))) → (A.deeper (envOfC x (defScope st) s.heap.objs.size f (.ref c))).guards = some [] → sp vs H Q E →
      ∃ t, PSs (cxOf (L2.CX P w) P w K mg base N x (defScope st) f (.ref c) A outer s H E) (defBody st) t ∧ t { nx := fun _ H' => Q .non H', rt := Q } (L2.start N vs) H) :
    FnG P w K mg base (L2.CX P w) (k + 1) f (PySem.W.fnOf x x (defArgs st) (defBody st) (defScope st) .none kV doc pm an (.ref c) ct) ps sp := by
  refine ⟨hlen, fun A outer s H args us vs Q E hr hgd e0 hb r hsp => ?_⟩
  have inK : K.In s.heap := e0.mod.kin.keeps fun b o e => (e0.bs b o e).1
  have kinds : ∀ y ∈ ps.zip us, (defScope st).names.lookup y.1 = some .local ∨ ((defScope st).names.lookup y.1 = some .cell ∧ ((cellsFrom (s.heap.objs.size + 1) (defScope st).names []).lookup y.1).isSome = true) := fun ⟨z, v⟩ hy =>
    (S.par z (List.of_mem_zip hy).1).imp id fun q => ⟨q, PySem.W.cellsFrom_some _ _ _ (.inl q)⟩
  refine codeAny_call_function hr.depth (inK _ _ lk) rfl S.co S.gen rfl (PySem.W.codeRec_of inK hcd) (hb _ _ _ _ (wpAny_newFunctionEnv_cells S.kind kinds fun env he s1 e1 => ?_))
  subst he
  obtain ⟨t, ht, hq⟩ := hbody A outer s H vs Q E (hr.deeper _) hgd hsp
  have I : Inv (cxOf (L2.CX P w) P w K mg base N x (defScope st) f (.ref c) A outer s H E) [] (L2.start N vs) H s1 := inv_start S hr.hd e0 (hlen _ _ _ _ hsp) r e1
  refine ⟨(e0.mod.nolimit.keeps fun b o e => (e0.bs b o e).1).keeps e1.toInCall.keep, codeAny_func (wpAny_mono (ht.run [] s1 (L2.start N vs) H _ I hq) (fun fl s' hs => ?_) fun e s' hs => hs)⟩
  match fl, hs with
  | .ret u, ⟨v, σ', H', J, rv, q⟩ => exact ⟨v, H', J.os, J.bare, J.base, J.hok, rv, q⟩
  | .next, ⟨σ', H', J, q⟩ => exact ⟨.non, H', J.os, J.bare, J.base, J.hok, rfl, q⟩
  | .brk, ⟨_, _, _, q⟩ => exact q.elim
  | .cont, ⟨_, _, _, q⟩ => exact q.elim
section
variable {W : Type} {X : Cx} {G : Gm W} {E : XK} {Ts : List (Addr × Str)} {k j n : Nat} {x : Str} {e : Expr} {es : List Expr} {fa : Rho → M W (List T)} {Fn : List T → M W T} {p pos : Pos}
theorem pv_callT (hC : CW Ts G.O) (D : DefOkT X.prog X.w X.K X.mg X.base Ts k x n Fn) (hr : Room j X.A) (hgd : X.A.guards = some []) (hk : k ≤ j) (hg : Gl X x) (hx : Passes (L2.CX X.prog X.w) X E) (ha : PAs X G E (e :: es) fa)
    (hdb : (x == ("__debug__" : Str)) = false := by decide) (he : starEach (e :: es) X.env = (false, eval e X.env) :: starEach es X.env := by rfl) (hpl : (backTo pos (starEach es X.env)).any (·.1) = false := by rfl) :
    PV X G E (.Call (.Name x p) (e :: es) [] pos) (fCall n fa Fn) := by
  obtain ⟨f, fd, ps, hF, hm, hkp, hb⟩ := D.ex
  refine ⟨(pe_callG hF (hr.mono hk) hgd hg hm hkp hb hx ha.run hdb he hpl).imp fun σ H Q => ?_⟩
  rintro ⟨ρ, w, F, r, w', S, hf, acc⟩
  refine tA.bind (X := X) S hf acc.er fun ts w1 vs H1 F1 S1 s1 r1 hk => ?_
  split at hk
  · rename_i hl
    rw [List.append_nil]
    obtain ⟨O, F2, ts2, w2, r2, w3, h⟩ := spF.of (Fn := Fn) S1 r1 hl hk (Q := _) (fun t ht v H' F' S' s' rv => by subst ht; exact acc v H' F' S' (s1.trans s' S1.dH) rv) (acc.mono s1 S1.dH).er
    refine ⟨G.O, F1, ts, w1, r, w', hC, by rw [r1.length]; exact hl, S1.sub, S1.wok, S1.dF, r1, hk, ?_⟩
    cases r with
    | ok t => exact fun v H' F' o rv => acc v H' F' (o.sd S1) (s1.trans o.gr S1.dH) rv
    | er e' => exact fun d H' F' o ea => (acc.mono s1 S1.dH).er e' rfl d H' F' ρ σ (o.sd S1) o.same ea
  · cases hk
end
theorem cw_dr {d l c : Addr} {T : List (Addr × Str)} (hu : ∀ p ∈ T, ∀ q ∈ T, q.1 = p.1 → q.2 = p.2) : CW T (drWd d l c T) := ⟨fun p hp B F0 => tabOk_dr (show (p.1, p.2) ∈ T from hp) fun q hq e => hu p hp q hq e, noXd_dr⟩
end PL

set_option maxHeartbeats 4000000
/-! RK: == with an empty side; isinstance(x, (A, B)); a display of one pair; list(text); an own list that is seen for a while. -/
namespace PL
open PySem PySem.Spec PyProof.Rows L2
section
variable {W : Type} {X : Cx} {G : Gm W} {E : XK} {ρ : Rho} {w w' : W} {σ : L2.St} {H F : Hp} {a b e : Expr} {fa fb : Rho → M W T} {pos : Pos}
/-! ### == () and == [] -/
def eqE (neg : Bool) (t u : T) : Option T := match u with
  | .tup [] => match t with
    | .tup ts => some (.bl (if neg then !ts.isEmpty else ts.isEmpty))
    | _ => none
  | .lst [] => match t with
    | .lst ts => some (.bl (if neg then !ts.isEmpty else ts.isEmpty))
    | _ => none
  | _ => none
def rEqE (K : PySem.W.Frag) (neg : Bool) : R2 := fun x y H Q => ∃ (a b : Addr) (vs : List V), x = .ref a ∧ y = .ref b ∧ ((SqT K H a vs ∧ SqT K H b []) ∨ (SqL K H a vs ∧ SqL K H b [])) ∧ Q (.bl (if neg then !vs.isEmpty else vs.isEmpty)) H
theorem vals_nil {us : List Value} (r : Vals [] us) : us = [] := by cases r; rfl
theorem vals_emp {vs : List V} {us : List Value} (r : Vals vs us) : us.isEmpty = vs.isEmpty := by
  have := r.length
  cases vs <;> cases us <;> simp_all
theorem op_eqE (hu : X.A.units + 200 < cLine) : OpR X (compareOp .Eq) (rEqE X.K false) := by
  intro pins s σ H x y v u Q I rx ry h
  obtain ⟨a, b, vs, rfl, rfl, hs, q⟩ := h
  cases (show v = Value.ref a from rx)
  cases (show u = Value.ref b from ry)
  rcases hs with ⟨h1, h2⟩ | ⟨h1, h2⟩
  · obtain ⟨us, r1, p1, _⟩ := I.tuple h1
    obtain ⟨ws, r2, p2, _⟩ := I.tuple h2
    cases vals_nil r2
    have q' := SeqAt.RcAt.tuples (A := X.A) (e := fun _ => true) p1 p2 (by omega) (fun j h1 h2 => absurd h2 (by simp))
    refine q' X.prog X.w _ _ ⟨.bl _, H, I, ?_, q⟩
    show _ = _
    rw [← vals_emp r1]
    cases us <;> simp
  · obtain ⟨us, r1, p1, _⟩ := I.list h1
    obtain ⟨ws, r2, p2, _⟩ := I.list h2
    cases vals_nil r2
    by_cases hz : us = []
    · subst hz
      have q' := SeqAt.RcAt.lists (A := X.A) (e := fun _ => true) p1.isList p2.isList rfl (by omega) (fun j h1 h2 => absurd h2 (by simp))
      refine q' X.prog X.w _ _ ⟨.bl _, H, I, ?_, q⟩
      show _ = _
      rw [← vals_emp r1]
      rfl
    · have q' := SeqAt.RcAt.lists_lengths (A := X.A) p1.isList p2.isList (by cases us <;> simp_all) (by omega)
      refine q' X.prog X.w _ _ ⟨.bl _, H, I, ?_, q⟩
      show _ = _
      rw [← vals_emp r1]
      cases us <;> simp_all
theorem op_neE (hu : X.A.units + 200 < cLine) : OpR X (compareOp .NotEq) (rEqE X.K true) := by
  intro pins s σ H x y v u Q I rx ry h
  obtain ⟨a, b, vs, rfl, rfl, hs, q⟩ := h
  cases (show v = Value.ref a from rx)
  cases (show u = Value.ref b from ry)
  rcases hs with ⟨h1, h2⟩ | ⟨h1, h2⟩
  · obtain ⟨us, r1, p1, _⟩ := I.tuple h1
    obtain ⟨ws, r2, p2, _⟩ := I.tuple h2
    cases vals_nil r2
    have q' := SeqAt.RcNeAt.tuples (A := X.A) (e := fun _ => true) p1 p2 (by omega) (fun j h1 h2 => absurd h2 (by simp))
    refine q' X.prog X.w _ _ ⟨.bl _, H, I, ?_, q⟩
    show _ = _
    rw [← vals_emp r1]
    cases us <;> simp
  · obtain ⟨us, r1, p1, _⟩ := I.list h1
    obtain ⟨ws, r2, p2, _⟩ := I.list h2
    cases vals_nil r2
    by_cases hz : us = []
    · subst hz
      have q' := SeqAt.RcNeAt.lists (A := X.A) (e := fun _ => true) p1.isList p2.isList rfl (by omega) (fun j h1 h2 => absurd h2 (by simp))
      refine q' X.prog X.w _ _ ⟨.bl _, H, I, ?_, q⟩
      show _ = _
      rw [← vals_emp r1]
      rfl
    · have q' := SeqAt.RcNeAt.lists_lengths (A := X.A) p1.isList p2.isList (by cases us <;> simp_all) (by omega)
      refine q' X.prog X.w _ _ ⟨.bl _, H, I, ?_, q⟩
      show _ = _
      rw [← vals_emp r1]
      cases us <;> simp_all
theorem reps_emp {K : PySem.W.Frag} {vs : List V} {ts : List T} (r : Reps K F vs ts) : vs.isEmpty = ts.isEmpty := by
  have := r.length
  cases vs <;> cases ts <;> simp_all
theorem eqEG {neg : Bool} : OpG X G (rEqE X.K neg) (eqE neg) := by
  intro ρ w σ H F x y t u z Q S hx hy hz k
  unfold eqE at hz
  split at hz
  · split at hz
    · cases hz
      obtain ⟨a, vs, rfl, _, hH, r1⟩ := hx.tup S
      obtain ⟨b, us, rfl, _, hH2, r2⟩ := hy.tup S
      cases r2
      exact ⟨a, b, vs, rfl, rfl, .inl ⟨hH, hH2⟩, by rw [reps_emp r1]; exact k _ H F S .refl (.bl _)⟩
    · cases hz
  · split at hz
    · cases hz
      obtain ⟨a, vs, rfl, hH, r1⟩ := hx.lst S
      obtain ⟨b, us, rfl, hH2, r2⟩ := hy.lst S
      cases r2
      exact ⟨a, b, vs, rfl, rfl, .inr ⟨.of hH, .of hH2⟩, by rw [reps_emp r1]; exact k _ H F S .refl (.bl _)⟩
    · cases hz
  · cases hz
theorem pv_eqE (hu : X.A.units + 200 < cLine) (ha : PVs X G E a fa) (hb : PVs X G E b fb) : PV X G E (.Compare a [.Eq] [b] pos) (f2 (eqE false) fa fb) := pv_cmp (op_eqE hu) eqEG ha hb (nomark b)
theorem pv_neE (hu : X.A.units + 200 < cLine) (ha : PVs X G E a fa) (hb : PVs X G E b fb) : PV X G E (.Compare a [.NotEq] [b] pos) (f2 (eqE true) fa fb) := pv_cmp (op_neE hu) eqEG ha hb (nomark b)
theorem pb_eqE (hu : X.A.units + 200 < cLine) (ha : PVs X G E a fa) (hb : PVs X G E b fb) : PB X G E (.Compare a [.Eq] [b] pos) (fB (f2 (eqE false) fa fb)) := pb_cmp (op_eqE hu) eqEG ha hb (nomark b)
theorem pb_neE (hu : X.A.units + 200 < cLine) (ha : PVs X G E a fa) (hb : PVs X G E b fb) : PB X G E (.Compare a [.NotEq] [b] pos) (fB (f2 (eqE true) fa fb)) := pb_cmp (op_neE hu) eqEG ha hb (nomark b)
/-! ### isinstance(x, (A, B)) -/
def isaTT (n m : String) (t : T) : Option T := (isaT n t).bind fun u => (isaT m t).map fun v => match u, v with
  | .bl p, .bl q => .bl (p || q)
  | _, _ => .bl false
theorem kitAny2 {K : PySem.W.Frag} {t c d : Value} {p q : Bool} (h1 : PySem.W.kitOne K t c = some p) (h2 : PySem.W.kitOne K t d = some q) : PySem.W.kitAny K t [c, d] = some (p || q) :=
  kitAny_cons h1 (fun hp => by
    subst hp
    exact kitAny_cons h2 (fun hq => by subst hq; rfl) fun hq => by subst hq; rfl) fun hp => by subst hp; rfl
theorem pv_isaTT {y z : Str} {n m : String} {p p2 p3 p4 : Pos} {jj : Nat} (hg : Gl X "isinstance") (hm : X.mg "isinstance" = none) (hg2 : Gl X y) (hm2 : X.mg y = none) (hv2 : bootBuiltins y = some (.type n)) (hg3 : Gl X z) (hm3 : X.mg z = none) (hv3 : bootBuiltins z = some (.type m)) (ha : PVs X G E e fa)
    (hn2 : y ≠ "__name__" := by decide) (hd2 : (y == ("__debug__" : Str)) = false := by decide) (hn3 : z ≠ "__name__" := by decide) (hd3 : (z == ("__debug__" : Str)) = false := by decide)
    (he : starEach [e, .Tuple [.Name y p2, .Name z p3] jj p4] X.env = (false, eval e X.env) :: starEach [.Tuple [.Name y p2, .Name z p3] jj p4] X.env := by rfl)
    (he2 : starEach [.Tuple [.Name y p2, .Name z p3] jj p4] X.env = (false, eval (.Tuple [.Name y p2, .Name z p3] jj p4) X.env) :: starEach [] X.env := by rfl)
    (he3 : starEach [.Name y p2, .Name z p3] X.env = (false, eval (.Name y p2) X.env) :: starEach [.Name z p3] X.env := by rfl) (he4 : starEach [.Name z p3] X.env = (false, eval (.Name z p3) X.env) :: starEach [] X.env := by rfl)
    (hpl : (backTo pos (starEach [.Tuple [.Name y p2, .Name z p3] jj p4] X.env)).any (·.1) = false := by rfl) :
    PV X G E (.Call (.Name "isinstance" p) [e, .Tuple [.Name y p2, .Name z p3] jj p4] [] pos) (f1 (isaTT n m) fa) :=
  ⟨(pe_callB call_isiT hg hm PyProof.Rows.boot_isinstance (pa_cons ha.run (pa_cons (pe_tup (pa_cons (pe_bltn (v := .ty n) hg2 hm2 hv2 rfl hn2 hd2) (pa_cons (pe_bltn (v := .ty m) hg3 hm3 hv3 rfl hn3 hd3) pa_nil he4) he3)) pa_nil he2) he) (by decide) (by decide) he hpl).imp fun σ H Q => by
    rintro ⟨ρ, w, F, q, w', S, hf, acc⟩
    refine tVs.bind (X := X) S hf acc.er fun t w1 x H1 F1 S1 s1 r1 hk => ?_
    obtain ⟨z, hz, rfl, rfl⟩ := lift_inv hk
    simp only [isaTT, Option.bind_eq_some_iff, Option.map_eq_some_iff] at hz
    obtain ⟨u, hu, v, hv, rfl⟩ := hz
    simp only [isaT, Option.bind_eq_some_iff, Option.map_eq_some_iff] at hu hv
    obtain ⟨a, e1, b1, e2, rfl⟩ := hu
    obtain ⟨a', e1', b2, e2', rfl⟩ := hv
    rw [e1] at e1'
    cases e1'
    refine ⟨by rw [sizeLine_eq]; simp, fun tp hp => ?_⟩
    have S2 := S1.laid (o := .tup [V.ty n, V.ty m]) hp
    exact ⟨x, tp, [.ty n, .ty m], .type a, [.type n, .type m], b1 || b2, rfl, upd_same, .cons (.ty n) (.cons (.ty m) .nil), (r1.ty S2 e1), kitAny2 (kit_ty e2) (kit_ty e2'), acc _ _ F1 S2 (s1.trans (.laid hp) S1.dH) (.bl _)⟩⟩
/-! ### {"a": "b"} -/
theorem upd_upd {H : Hp} {p : Addr} {o o' : HO} : upd (upd H p o) p o' = upd H p o' := by
  funext b
  by_cases h : b = p
  · subst h; rw [upd_same, upd_same]
  · rw [upd_ne h, upd_ne h, upd_ne h]
theorem pv_dct1 {k v : Str} {j1 j2 : Nat} {p1 p2 : Pos} : PV X G E (.Dict [some (.Constant (.str k) j1 p1)] [.Constant (.str v) j2 p2] pos) (fC (.dct [.inr k] [.str v])) := ⟨(pe_disp (pps_cons pe_str (pe_str (x := v)) pps_nil) rfl rfl (by simp) (by simp)).imp fun σ H Q => by
  rintro ⟨ρ, w, F, r, w', S, hf, acc⟩
  obtain ⟨rfl, rfl⟩ := ret_inv hf
  intro p hp
  refine ⟨upd_same, [(.inr k, .str v)], rfl, by simp, ?_⟩
  rw [upd_upd]
  exact acc (.ref p) _ _ (S.laidF hp) (.laidF S hp) (.dct (vs := [.str v]) (.inl upd_same) rfl (.cons (.str v) .nil))⟩
/-! ### list(text) -/
def charsV (z : Str) : List V := z.cps.toList.map fun c => .str ⟨#[c]⟩
def itemsS : T → Option (List T)
  | .str z => if z.cps.size ≤ sizeLine then some (signs z) else none
  | _ => none
theorem reps_chars {K : PySem.W.Frag} (z : Str) : Reps K F (charsV z) (signs z) := by
  unfold charsV signs
  generalize z.cps.toList = l
  induction l with
  | nil => exact .nil
  | cons c l ih => exact .cons (.str _) ih
theorem call_listS (hc : X.calm = true) : CallR X (.type "list") (fun xs H Q => ∃ z, xs = [.str z] ∧ z.cps.size ≤ sizeLine ∧ ∀ l, H l = none → Q (.ref l) (upd H l (.lst (charsV z)))) := by
  intro pins s σ H xs us Q I r h
  obtain ⟨z, rfl, hz, q⟩ := h
  obtain ⟨u, rfl, t, rfl⟩ := vals1 r
  refine call_list_str (I.ok.hd hc) z t (fun h' tk acc' c' kp e hi => ?_) hz
  have rv : Vals (charsV z) acc'.toList := by
    obtain ⟨hn, hi⟩ := hi
    have at_ : ∀ (n : Nat) (l : List Nat) (us : List Value), us.length = l.length → (∀ (j : Nat) (v : Value), us[j]? = some v → ∃ (c : Nat) (u : Tok), l[j]? = some c ∧ v = Value.str ⟨#[c]⟩ u) → Vals (l.map fun c => V.str ⟨#[c]⟩) us := by
      intro n l
      induction l with
      | nil =>
        intro us hl _
        cases us with
        | nil => exact .nil
        | cons u us => cases hl
      | cons c l ih =>
        intro us hl h
        cases us with
        | nil => cases hl
        | cons u us =>
          obtain ⟨c', t', e1, rfl⟩ := h 0 u rfl
          cases e1
          exact .cons ⟨t', rfl⟩ (ih us (by simpa using hl) fun j v e => by simpa using h (j + 1) v (by simpa using e))
    exact at_ 0 _ _ (by simp [hn]) fun j v e => by
      obtain ⟨c, t2, h1, h2⟩ := hi j v (by simpa using e)
      exact ⟨c, t2, by simpa using h1, h2⟩
  exact ⟨.ref s.heap.objs.size, _, I.laid (t' := tk) kp (Nat.le_refl _) (show ObjOk X.prog X.w _ h' _ (.lst (charsV z)) from ⟨by unfold charsV; simp; exact hz, acc'.toList, c', rv, by simpa using e⟩), rfl, q _ (I.hok.fresh (Nat.le_refl _))⟩
theorem lstSG : CallF X G (fun xs H Q => ∃ z, xs = [V.str z] ∧ z.cps.size ≤ sizeLine ∧ ∀ l, H l = none → Q (.ref l) (upd H l (.lst (charsV z)))) itemsS := by
  intro ρ w σ H F x t z Q S hx hz k
  unfold itemsS at hz
  split at hz
  · split at hz
    · rename_i hl
      cases hz
      exact ⟨_, by rw [hx.str], hl, fun p hp => k p _ hp (reps_chars _)⟩
    · cases hz
  · cases hz
/-! ### an own list that is seen for a while -/
def scal : T → Bool
  | .non => true
  | .bl _ => true
  | .int _ => true
  | .str _ => true
  | _ => false
theorem Rep.scal {K : PySem.W.Frag} {F F' : Hp} {v : V} {t : T} (r : Rep K F v t) (h : scal t = true) : Rep K F' v t := by
  cases r <;> first | (cases h; done) | constructor
/-- e, with the i-th slot's own list as a frozen one; a scalar comes out -/
def fView (i : Nat) (fa : Rho → M W T) : Rho → M W T := fun ρ => bnd (noEr (fa (frzAt i ρ))) fun t => if scal t = true then ret t else stuck
theorem Sd.view {K : PySem.W.Frag} (S : Sd K G ρ w σ H F) (i : Nat) : ∃ F1, Same F F1 ∧ Sd K G (frzAt i ρ) w σ H F1 ∧ ∀ (w' : W) (H' F' : Hp), Sd K G (frzAt i ρ) w' σ H' F' → Gr G H F1 H' F' → ∃ F2, Sd K G ρ w' σ H' F2 ∧ Gr G H F H' F2 := by
  obtain ⟨F1, sf, S1⟩ := S.frz i
  refine ⟨F1, sf, S1, fun w' H' F' S' g => ?_⟩
  let F2 : Hp := fun b => if H b = none then F' b else F b
  have e2 : ∀ b, H b ≠ none → F2 b = F b := fun b h => if_neg h
  have s2 : Same F F2 := fun b o e => by
    rw [e2 b (by rw [S.sub b o e]; simp)]; exact e
  have sub : Same F2 H' := fun b o e => by
    by_cases h : H b = none
    · have : F2 b = F' b := if_pos h
      rw [this] at e
      exact S'.sub b o e
    · rw [e2 b h] at e
      exact S'.sub b o (g.same b o (sf b o e))
  have nD : ∀ b, G.O.D b → F2 b = none := fun b d => by
    rw [e2 b (S.dH b d)]; exact S.dF b d
  exact ⟨F2, S.later sub S'.wok s2 g.keep e2 nD, s2, g.keep, e2⟩
theorem passF : Passes (L2.CX X.prog X.w) X (fun _ _ _ => False) := passes_call (X := X) (W := fun _ _ _ _ => False) (fun u s' h => by
  obtain ⟨_, _, _, _, _, _, _, _, _, _, _, _, _, _, _, _, z⟩ := h
  exact z.elim) fun _ _ _ _ h => h
theorem pv_view (i : Nat) (ha : PV X G (fun _ _ _ => False) e fa) : PV X G E e (fView i fa) := ⟨ha.run.imp fun σ H Q => by
  rintro ⟨ρ, w, F, r, w', S, hf, acc⟩
  obtain ⟨t, w1, h1, h2⟩ := noEr_bnd hf
  split at h2
  · rename_i hs
    obtain ⟨rfl, rfl⟩ := ret_inv h2
    obtain ⟨F1, sf, S1, back⟩ := S.view i
    refine ⟨_, w, F1, .ok t, _, S1, h1, fun v H' F' S' g rv => ?_⟩
    obtain ⟨F2, S2, g2⟩ := back _ H' F' S' g
    exact acc v H' F2 S2 g2 (rv.scal hs)
  · cases h2⟩
end
end PL

set_option maxHeartbeats 4000000
/-! EV: the mirrors computed by simp. -/
namespace PL
open PySem L2
section
variable {W α β : Type}
@[simp] theorem ev_bnd_ret (a : α) (k : α → M W β) : bnd (ret a) k = k a := (rfl)
@[simp] theorem ev_bnd_raise (e : Er) (k : α → M W β) : bnd (raiseM e) k = raiseM e := (rfl)
@[simp] theorem ev_lift_some (a : α) : (lift (some a) : M W α) = ret a := (rfl)
@[simp] theorem ev_noEr_ret (a : α) : noEr (ret a : M W α) = ret a := (rfl)
variable {ρ : Rho} {g h : Rho → M W Fl} {fa fb fc : Rho → M W T} {gc gd : Rho → M W Bool} {fl fr : Rho → M W (List T)} {fp fq : Rho → M W (Option Int)} {fx fy fz : Rho → M W Sl} {t u : T} {i j k n m : Nat}
def seqK (h : Rho → M W Fl) : Fl → M W Fl := fun fl => match fl with
  | .nx ρ' => h ρ'
  | o => ret o
@[simp] theorem seqK_nx : seqK h (.nx ρ) = h ρ := (rfl)
@[simp] theorem seqK_rt : seqK h (.rt t) = ret (.rt t) := (rfl)
@[simp ↓] theorem ev_seqD : seqD g h ρ = bnd (g ρ) (seqK h) := (rfl)
def ifK (g h : Rho → M W β) (ρ : Rho) : Bool → M W β := fun c => if c = true then g ρ else h ρ
@[simp] theorem ifK_t {g h : Rho → M W β} : ifK g h ρ true = g ρ := (rfl)
@[simp] theorem ifK_f {g h : Rho → M W β} : ifK g h ρ false = h ρ := (rfl)
@[simp ↓] theorem ev_dIf : dIf gc g h ρ = bnd (gc ρ) (ifK g h ρ) := (rfl)
@[simp ↓] theorem ev_fIf : fIf gc fa fb ρ = bnd (gc ρ) (ifK fa fb ρ) := (rfl)
@[simp ↓] theorem ev_dRet : dRet fa ρ = bnd (fa ρ) fun t => ret (.rt t) := (rfl)
@[simp ↓] theorem ev_dExpr : dExpr fa ρ = bnd (fa ρ) fun _ => ret (.nx ρ) := (rfl)
@[simp ↓] theorem ev_dSet : dSet i fx ρ = bnd (fx ρ) fun s => ret (.nx (ρ.set i s)) := (rfl)
@[simp ↓] theorem ev_dPar : dPar i j fx fy ρ = bnd (fx ρ) fun s => bnd (fy ρ) fun t => ret (.nx ((ρ.set i s).set j t)) := (rfl)
@[simp ↓] theorem ev_dPar3 : dPar3 i j k fx fy fz ρ = bnd (fx ρ) fun s => bnd (fy ρ) fun t => bnd (fz ρ) fun u => ret (.nx (((ρ.set i s).set j t).set k u)) := (rfl)
@[simp ↓] theorem ev_xFz : xFz fa ρ = bnd (fa ρ) fun t => ret (.fz t) := (rfl)
@[simp ↓] theorem ev_xOw : xOw fl ρ = bnd (fl ρ) fun t => ret (.ow t) := (rfl)
@[simp] theorem ev_xOd : (xOd ρ : M W Sl) = ret (.od [] []) := (rfl)
@[simp] theorem ev_fVar : (fVar i ρ : M W T) = lift (slotV ρ[i]?) := (rfl)
@[simp] theorem ev_fVarS : (fVarS i ρ : M W T) = lift (slotS ρ[i]?) := (rfl)
@[simp] theorem ev_slotV : slotV (some (.fz t)) = some t := (rfl)
@[simp] theorem ev_slotS : slotS (some (.fz t)) = some t := (rfl)
@[simp] theorem ev_slotSo {ts : List T} : slotS (some (.ow ts)) = some (.lst ts) := (rfl)
@[simp] theorem ev_slotSd {ks : List Key} {ts : List T} : slotS (some (.od ks ts)) = some (.dct ks ts) := (rfl)
@[simp] theorem ev_fC : (fC t ρ : M W T) = ret t := (rfl)
variable {op op2 : T → T → Option T} {o1 : T → Option T} {o1l : T → Option (List T)} {o2l : T → T → Option (List T)}
@[simp ↓] theorem ev_f1 : f1 o1 fa ρ = bnd (fa ρ) fun t => lift (o1 t) := (rfl)
@[simp ↓] theorem ev_f1l : f1l o1l fa ρ = bnd (fa ρ) fun t => lift (o1l t) := (rfl)
@[simp ↓] theorem ev_f2 : f2 op fa fb ρ = bnd (fa ρ) fun t => bnd (fb ρ) fun u => lift (op t u) := (rfl)
@[simp ↓] theorem ev_f2l : f2l o2l fa fb ρ = bnd (fa ρ) fun t => bnd (fb ρ) fun u => lift (o2l t u) := (rfl)
@[simp ↓] theorem ev_fB : fB fa ρ = bnd (fa ρ) boolM := (rfl)
@[simp] theorem ev_boolM {b : Bool} : (boolM (.bl b) : M W Bool) = ret b := (rfl)
@[simp ↓] theorem ev_fAnd : fAnd fa fb ρ = bnd (fa ρ) fun t => bnd (boolM t) (ifK fb (fun _ => ret (.bl false)) ρ) := (rfl)
@[simp ↓] theorem ev_fOr : fOr fa fb ρ = bnd (fa ρ) fun t => bnd (boolM t) (ifK (fun _ => ret (.bl true)) fb ρ) := (rfl)
@[simp ↓] theorem ev_fNot : fNot fa ρ = bnd (fa ρ) fun t => bnd (boolM t) fun b => ret (.bl (!b)) := (rfl)
@[simp ↓] theorem ev_bAnd : bAnd gc gd ρ = bnd (gc ρ) (ifK gd (fun _ => ret false) ρ) := (rfl)
@[simp ↓] theorem ev_bOr : bOr gc gd ρ = bnd (gc ρ) (ifK (fun _ => ret true) gd ρ) := (rfl)
@[simp ↓] theorem ev_bNot : bNot gc ρ = bnd (gc ρ) fun b => ret (!b) := (rfl)
@[simp ↓] theorem ev_fChain : fChain op op2 fa fb fc ρ = bnd (fa ρ) fun t => bnd (fb ρ) fun u => bnd (lift (op t u)) fun z => bnd (boolM z) (ifK (fun ρ => bnd (fc ρ) fun v => lift (op2 u v)) (fun _ => ret (.bl false)) ρ) := (rfl)
@[simp] theorem ev_aNil : (aNil ρ : M W (List T)) = ret [] := (rfl)
@[simp ↓] theorem ev_aCons : aCons fa fr ρ = bnd (fa ρ) fun t => bnd (fr ρ) fun ts => ret (t :: ts) := (rfl)
@[simp ↓] theorem ev_aStar : aStar fa fr ρ = bnd (fa ρ) fun t => bnd (lift (itemsT t)) fun us => bnd (fr ρ) fun zs => ret (us ++ zs) := (rfl)
@[simp ↓] theorem ev_asL : asL fl ρ = bnd (fl ρ) fun ts => ret (.lst ts) := (rfl)
def szK (n : Nat) (k : M W β) : M W β := if n ≤ sizeLine then k else stuck
@[simp ↓] theorem ev_fTup : fTup fl ρ = bnd (fl ρ) fun ts => szK ts.length (ret (.tup ts)) := (rfl)
@[simp ↓] theorem ev_fLst : fLst fl ρ = bnd (fl ρ) fun ts => szK ts.length (ret ts) := (rfl)
@[simp] theorem szK_ok {k : M W β} (h : n ≤ 1000000) : szK n k = k := if_pos (by rw [sizeLine_eq]; omega)
variable {Fn : List T → M W T} {Fl : List T → M W (List T)} {ts us : List T}
def argK (n : Nat) (Fn : List T → M W β) (ts : List T) : M W β := if ts.length = n then Fn ts else stuck
@[simp ↓] theorem ev_fCall : fCall n fl Fn ρ = bnd (fl ρ) (argK n Fn) := (rfl)
theorem argK_ok {F : List T → M W β} (h : ts.length = n) : argK n F ts = F ts := if_pos h
@[simp] theorem argK0 {F : List T → M W β} : argK 0 F [] = F [] := (rfl)
@[simp] theorem argK1 {F : List T → M W β} {a : T} : argK 1 F [a] = F [a] := (rfl)
@[simp] theorem argK2 {F : List T → M W β} {a b : T} : argK 2 F [a, b] = F [a, b] := (rfl)
@[simp] theorem argK3 {F : List T → M W β} {a b c : T} : argK 3 F [a, b, c] = F [a, b, c] := (rfl)
@[simp] theorem argK4 {F : List T → M W β} {a b c d : T} : argK 4 F [a, b, c, d] = F [a, b, c, d] := (rfl)
@[simp ↓] theorem ev_fCallR : fCallR n fl Fn ρ = bnd (fl ρ) (argK n fun ts => Fn ts.reverse) := (rfl)
@[simp ↓] theorem ev_fCallL : fCallL n fl Fl ρ = bnd (fl ρ) (argK n Fl) := (rfl)
def runK : PL.Fl → M W T := fun fl => match fl with
  | .nx _ => ret .non
  | .rt t => ret t
  | _ => stuck
@[simp] theorem runK_nx : (runK (.nx ρ) : M W T) = ret .non := (rfl)
@[simp] theorem runK_rt : (runK (.rt t) : M W T) = ret t := (rfl)
theorem ev_run : run m g ts = bnd (g (ts.map Sl.fz ++ List.replicate m Sl.un)) runK := rfl
@[simp] theorem ev_fNoPart : (fNoPart ρ : M W (Option Int)) = ret none := (rfl)
@[simp ↓] theorem ev_fPart : fPart fa ρ = bnd (fa ρ) fun t => bnd (intM t) fun i => ret (some i) := (rfl)
@[simp] theorem ev_intM {i : Int} : (intM (.int i) : M W Int) = ret i := (rfl)
@[simp] theorem ev_lstM : (lstM (.lst ts) : M W (List T)) = ret ts := (rfl)
@[simp ↓] theorem ev_fSlice : fSlice fa fp fq ρ = bnd (fa ρ) fun t => bnd (fp ρ) fun lo => bnd (fq ρ) fun hi => lift (sliceT lo hi t) := (rfl)
@[simp ↓] theorem ev_fItems : fItems fa ρ = bnd (fa ρ) seqM := (rfl)
@[simp] theorem ev_seqMl : (seqM (.lst ts) : M W (List T)) = ret ts := (rfl)
@[simp] theorem ev_seqMt : (seqM (.tup ts) : M W (List T)) = ret ts := (rfl)
@[simp] theorem ev_seqMs {z : Str} : (seqM (.str z) : M W (List T)) = ret (signs z) := (rfl)
@[simp ↓] theorem ev_fEnum : fEnum fa ρ = bnd (fa ρ) fun t => bnd (lift (itemsT t)) fun ts => ret (enumTs 0 ts) := (rfl)
@[simp ↓] theorem ev_fZip : fZip fa fb ρ = bnd (fa ρ) fun t => bnd (fb ρ) fun u => bnd (lift (itemsT t)) fun ts => bnd (lift (itemsT u)) fun us => ret (zipTs ts us) := (rfl)
@[simp] theorem ev_itemsTl : itemsT (.lst ts) = some ts := (rfl)
@[simp] theorem ev_itemsTt : itemsT (.tup ts) = some ts := (rfl)
@[simp ↓] theorem ev_fIndex : fIndex fa fb ρ = bnd (fa ρ) fun t => bnd (lstM t) fun ts => bnd (fb ρ) fun u => lift (indexT (.lst ts) u) := (rfl)
@[simp ↓] theorem ev_fCount : fCount fa fb ρ = bnd (fa ρ) fun t => bnd (lstM t) fun ts => bnd (fb ρ) fun u => lift (countT (.lst ts) u) := (rfl)
@[simp ↓] theorem ev_fRev : fRev fa ρ = bnd (fa ρ) revM := (rfl)
@[simp] theorem ev_revMl : (revM (.lst ts) : M W T) = ret (.lst ts.reverse) := (rfl)
@[simp] theorem ev_revMt : (revM (.tup ts) : M W T) = ret (.tup ts.reverse) := (rfl)
@[simp] theorem ev_dRaise0 {C : Addr} : (dRaise0 C ρ : M W PL.Fl) = raiseM ⟨C, [], []⟩ := (rfl)
@[simp ↓] theorem ev_dRaise1 {C : Addr} {f : Str} : dRaise1 C f fa ρ = bnd (fa ρ) fun t => raiseM ⟨C, [f], [t]⟩ := (rfl)
@[simp] theorem ev_frzAt : frzAt i ρ = (match ρ[i]? with | some s => ρ.set i (frz s) | none => ρ) := (rfl)
@[simp] theorem ev_frzO : frz (.ow ts) = .fz (.lst ts) := (rfl)
@[simp] theorem ev_frzD {ks : List Key} : frz (.od ks ts) = .fz (.dct ks ts) := (rfl)
@[simp] theorem ev_frzF : frz (.fz t) = .fz t := (rfl)
/-! ### values -/
@[simp] theorem ev_add {i j : Int} : addT (.int i) (.int j) = some (.int (i + j)) := (rfl)
theorem ev_addS {a b : Str} (h : a.length + b.length ≤ 1000000) : addT (.str a) (.str b) = some (.str (a ++ b)) := if_pos (by rw [sizeLine_eq]; omega)
theorem ev_addL (h : ts.length + us.length ≤ 1000000) : addT (.lst ts) (.lst us) = some (.lst (ts ++ us)) := if_pos (by rw [sizeLine_eq]; omega)
theorem ev_addTu (h : ts.length + us.length ≤ 1000000) : addT (.tup ts) (.tup us) = some (.tup (ts ++ us)) := if_pos (by rw [sizeLine_eq]; omega)
@[simp] theorem ev_sub {i j : Int} : subT (.int i) (.int j) = some (.int (i - j)) := (rfl)
@[simp] theorem ev_lt {f : Int → Int → Bool} {i j : Int} : ltT f (.int i) (.int j) = some (.bl (f i j)) := (rfl)
@[simp] theorem ev_neg {i : Int} : negT (.int i) = some (.int (-i)) := (rfl)
@[simp] theorem ev_lenL : lenT (.lst ts) = some (.int (ts.length : Nat)) := (rfl)
@[simp] theorem ev_lenTu : lenT (.tup ts) = some (.int (ts.length : Nat)) := (rfl)
theorem ev_lenS {z : Str} (h : z.length ≤ 1000000) : lenT (.str z) = some (.int (z.length : Nat)) := if_pos (by rw [sizeLine_eq]; omega)
@[simp] theorem ev_isX {a : Addr} {b : Bool} : isX a b (.raw (.ref a)) = some (.bl b) := if_pos rfl
@[simp] theorem ev_fldX {a : Addr} {o : Option T} : fldX a o (.raw (.ref a)) = o := if_pos rfl
@[simp] theorem ev_isRx {neg : Bool} {a : Addr} : isR neg (.raw (.ref a)) .non = some (.bl neg) := (rfl)
@[simp] theorem ev_isRn {neg : Bool} : isR neg .non .non = some (.bl (!neg)) := (rfl)
@[simp] theorem ev_isTn {neg : Bool} : isT neg .non .non = some (.bl (!neg)) := (rfl)
end
end PL

set_option maxHeartbeats 4000000
namespace PL
open PySem PySem.Spec PyProof.Rows L2 LamX
def top (i : Nat) : Stmt := PySem.Challenge.pw_nextsteps_k74_log_texts.main.body.getD i (.Pass ⟨0, 0, 0, 0⟩)
def c_LETTERS : T := .str "abcdefghijklmnopqrstuvwxyz"
def c_MOST_LETTERS : T := .int 6
structure Cs where
  NoRow : Addr
  NoAgain : Addr
  NoForm : Addr
  NoName : Addr
  NoStep : Addr
  NoText : Addr
  StepError : Addr
  TooMany : Addr
  Twice : Addr
  _law_refused : Addr
  _law_row_at : Addr
  code__law_right : Addr
  tab__law_right : Addr
  code_law : Addr
  tab_law : Addr
structure Txt (K : PySem.W.Frag) (mg : Str → Option Value) (c : Cs) : Prop where
  c_LETTERS : ConstAt K mg "LETTERS" c_LETTERS
  c_MOST_LETTERS : ConstAt K mg "MOST_LETTERS" c_MOST_LETTERS
  n_ValueError : mg "ValueError" = none
  n_all : mg "all" = none
  n_enumerate : mg "enumerate" = none
  n_int : mg "int" = none
  n_isinstance : mg "isinstance" = none
  n_len : mg "len" = none
  n_list : mg "list" = none
  n_min : mg "min" = none
  n_range : mg "range" = none
  n_repr : mg "repr" = none
  n_str : mg "str" = none
  n_tuple : mg "tuple" = none
  m_NoRow : mg "NoRow" = some (.ref c.NoRow)
  m_NoAgain : mg "NoAgain" = some (.ref c.NoAgain)
  m_NoForm : mg "NoForm" = some (.ref c.NoForm)
  m_NoName : mg "NoName" = some (.ref c.NoName)
  m_NoStep : mg "NoStep" = some (.ref c.NoStep)
  m_NoText : mg "NoText" = some (.ref c.NoText)
  m_StepError : mg "StepError" = some (.ref c.StepError)
  m_TooMany : mg "TooMany" = some (.ref c.TooMany)
  m_Twice : mg "Twice" = some (.ref c.Twice)
  m__law_refused : mg "_law_refused" = some (.ref c._law_refused)
  m__law_row_at : mg "_law_row_at" = some (.ref c._law_row_at)
  x0_NoText : XCls0 K mg "NoText" c.NoText
def xb_NoText : Str → Bool := fun y => (["NoText", "ValueError"] : List Str).contains y
def xb_NoRow : Str → Bool := fun y => (["NoRow", "ValueError"] : List Str).contains y
structure KindB (K : PySem.W.Frag) (c : Cs) (D : Addr) (xb : Str → Bool) : Prop where
  h_NoAgain : PySem.W.kitOne K (.ref D) (.ref c.NoAgain) = some (xb "NoAgain")
  h_NoForm : PySem.W.kitOne K (.ref D) (.ref c.NoForm) = some (xb "NoForm")
  h_NoName : PySem.W.kitOne K (.ref D) (.ref c.NoName) = some (xb "NoName")
  h_NoRow : PySem.W.kitOne K (.ref D) (.ref c.NoRow) = some (xb "NoRow")
  h_NoStep : PySem.W.kitOne K (.ref D) (.ref c.NoStep) = some (xb "NoStep")
  h_NoText : PySem.W.kitOne K (.ref D) (.ref c.NoText) = some (xb "NoText")
  h_TooMany : PySem.W.kitOne K (.ref D) (.ref c.TooMany) = some (xb "TooMany")
  h_Twice : PySem.W.kitOne K (.ref D) (.ref c.Twice) = some (xb "Twice")
  h_ValueError : PySem.W.kitOne K (.ref D) (.type "ValueError") = some (xb "ValueError")
/-- what is known of the exceptions that are heard -/
structure Txk (K : PySem.W.Frag) (c : Cs) : Prop where
  ask_NoText : AskC K c.NoText
  kb_NoText : KindB K c c.NoText xb_NoText
  exm_NoText_StepError : PySem.W.exmOne K (.ref c.NoText) (.ref c.StepError) = some true
  ask_NoRow : AskC K c.NoRow
  kb_NoRow : KindB K c c.NoRow xb_NoRow
  nf_NoRow_at : PySem.W.findIn K (.ref c.NoRow) "at" = some none
  exm_NoRow_NoRow : PySem.W.exmOne K (.ref c.NoRow) (.ref c.NoRow) = some true
  exm_NoRow_StepError : PySem.W.exmOne K (.ref c.NoRow) (.ref c.StepError) = some true
abbrev s__law_right : Stmt := top 31
abbrev s_law : Stmt := top 34
def Ts (c : Cs) : List (Addr × Str) := [(c.tab__law_right, (envOfC "_law_right" (defScope s__law_right) 0 0 .none).qual ++ "<lambda>"), (c.tab_law, (envOfC "law" (defScope s_law) 0 0 .none).qual ++ "<lambda>")]
abbrev s_NoRow___init__ : Stmt := inClass (top 5) 0
theorem xi_NoRow {P : Program} {w : World} {K : PySem.W.Frag} {mg : Str → Option Value} {base : Heap} {C fI cc cda : Addr} {kV doc pm ct oc : Value} {an od : Option Addr} {osl : Array (Option Value)} {ccl cl : Value} {cdd cld : Option Addr} {vs : Array Value} {file : Str} {tf : Tok} {ccs csl : Array (Option Value)}
    (S : SupT P K mg C "at") (lk : K.lookup fI = some ⟨oc, od, .func (PySem.W.ksFn "__init__" "NoRow.__init__" (defArgs s_NoRow___init__) (defBody s_NoRow___init__) (defScope s_NoRow___init__) .none kV doc pm an (.ref cda) ct cc), osl⟩) (hcd : PySem.W.codeIn K (.ref cda) "NoRow.__init__" = true)
    (hcode : K.lookup cda = some ⟨ccl, cdd, .fields vs, ccs⟩) (hvs : vs[2]? = some (.str file tf)) (hfile : ((P.main.file : Str) == file) = true) (hcell : K.lookup cc = some ⟨cl, cld, .cell (some (.ref C)), csl⟩)
    (iC : PySem.W.findIn K (.ref C) "__init__" = some (some (.ref fI))) (tI : PySem.W.typeIn K (.ref fI) = some (.type "function")) (hm : mg "NoRow" = some (.ref C)) : XCls P w K mg base "NoRow" C "at" :=
  ⟨S.T, hm, fI, _, iC, tI, xinit_ok (name := "__init__") (qual := "NoRow.__init__") S lk hcd rfl rfl hcode hvs hfile hcell rfl rfl rfl rfl rfl rfl rfl (by decide) (by decide) (by decide) (by decide +kernel) (fun env => rfl), .all fun us hl => match us, hl with | [_, _], _ => rfl⟩
abbrev s__law_refused : Stmt := top 27
theorem sc__law_refused : FnScope ["_law_job", "_law_error", "e", "_law_marks"] ["_law_job"] (defScope s__law_refused) := ⟨rfl, rfl, rfl, by decide +kernel, rfl, by decide +kernel, by decide +kernel⟩
noncomputable def g0__law_refused {W : Type} (c : Cs) : Rho → M W Fl := (seqD (dIf (fB (f2 (isT false) (fVar 1) (fC .non))) (dRet (fC (.str "none"))) (fun ρ => ret (.nx ρ))) fun _ => stuck)
noncomputable def gk__law_refused {W : Type} (c : Cs) (xa : Addr) (xb : Str → Bool) (xf : Str → Option T) : Rho → M W Fl := (seqD (dIf (fB (f2 (isR false) (fVar 1) (fC .non))) (dRet (fC (.str "none"))) (fun ρ => ret (.nx ρ))) (seqD (dSet 3 (xFz (asL (fLst (aCons (f1 (isX xa (xb "NoForm")) (fVar 1)) (aCons (f1 (isX xa (xb "Twice")) (fVar 1)) (aCons (f1 (isX xa (xb "NoAgain")) (fVar 1)) (aCons (f1 (isX xa (xb "NoName")) (fVar 1)) aNil)))))))) (seqD (dSet 3 (xFz (f2 addT (fVar 3) (asL (fLst (aCons (f1 (isX xa (xb "NoStep")) (fVar 1)) (aCons (f1 (isX xa (xb "NoText")) (fVar 1)) (aCons (f1 (isX xa (xb "NoRow")) (fVar 1)) aNil)))))))) (seqD (dSet 3 (xFz (f2 addT (fVar 3) (asL (fLst (aCons (f1 (isX xa (xb "TooMany")) (fVar 1)) aNil)))))) (seqD (dIf (bOr (fB (f2 (eqT true) (fCount (fVar 3) (fC (.bl true))) (fC (.int 1)))) (bNot (fB (f1 (isX xa (xb "ValueError")) (fVar 1))))) (dRet (fC (.str "several"))) (fun ρ => ret (.nx ρ))) (dRet (f2 ixT (asL (fLst (aCons (fC (.str "form")) (aCons (fC (.str "twice")) (aCons (fC (.str "again")) (aCons (fC (.str "name")) (aCons (fC (.str "step")) (aCons (fC (.str "text")) (aCons (fC (.str "row")) (aCons (fC (.str "many")) aNil)))))))))) (fIndex (fVar 3) (fC (.bl true))))))))))
theorem gives__law_refused {c : Cs} {W : Type} {X : Cx} (TX : Txt X.K X.mg c) {g : Addr} {q : Str} {k : Nat} (hr : Room (k + 1) X.A) (hgd : X.A.guards = some []) (cdg : Value) :
    GivesTo X ["_law_job", "_law_error", "e", "_law_marks"] "_law_refused" (defScope s__law_refused) g cdg (defBody s__law_refused) "_law_job" q (THd X.K c.StepError 4 1 none (fun _ => TNG W X.K (g0__law_refused c)) (TXG W X.K (KindB X.K c) (gk__law_refused c))) := by
  refine heard1_gives (TN := fun _ => TNG W X.K (g0__law_refused c)) (TX := TXG W X.K (KindB X.K c) (gk__law_refused c)) (ic := 1) (ie := 2) rfl rfl rfl (by decide) (by decide) sc__law_refused.nd TX.m_StepError rfl rfl rfl (by decide) (by decide) (by decide) (fun s H v => pss_TNG fun G => ?_) fun s H a oe cls d hz hf => pss_TXG hz hf fun D G xb xf XA HB XF => ?_
  · show PDs _ G _ _ (g0__law_refused c)
    have hr := hr.deeper (envOfC "_law_refused" (defScope s__law_refused) s.heap.objs.size g cdg)
    have hu := hu200 hr
    have hu1 := hu_of hr
    have sc := sc__law_refused
    exact pds_cons (pd_if (pb_is ((pvv 1)).sh (pv_non).sh) (pds_one (pd_ret pv_str)) pds_nil) pds_never
  · show PDs _ G _ _ (gk__law_refused c a xb xf)
    have hr := hr.deeper (envOfC "_law_refused" (defScope s__law_refused) s.heap.objs.size g cdg)
    have hu := hu200 hr
    have hu1 := hu_of hr
    have sc := sc__law_refused
    exact (pds_cons (pd_if (pb_cmp op_isA isRG ((pvv 1)).sh (pv_non).sh (nomark _)) (pds_one (pd_ret pv_str)) pds_nil) (pds_cons (pd_set 3 (px_fz ((pf_lst (pas_cons (pv_isX XA HB.h_NoForm (by rfl) TX.n_isinstance (by rfl) TX.m_NoForm (pvv 1)) (pas_cons (pv_isX XA HB.h_Twice (by rfl) TX.n_isinstance (by rfl) TX.m_Twice (pvv 1)) (pas_cons (pv_isX XA HB.h_NoAgain (by rfl) TX.n_isinstance (by rfl) TX.m_NoAgain (pvv 1)) (pas_cons (pv_isX XA HB.h_NoName (by rfl) TX.n_isinstance (by rfl) TX.m_NoName (pvv 1)) pas_nil)))))).dp) sc.nd rfl (by first | exact Or.inl rfl | exact Or.inr rfl)) (pds_cons (pd_set 3 (px_fz (pv_add ((pvv 3)).sh ((pf_lst (pas_cons (pv_isX XA HB.h_NoStep (by rfl) TX.n_isinstance (by rfl) TX.m_NoStep (pvv 1)) (pas_cons (pv_isX XA HB.h_NoText (by rfl) TX.n_isinstance (by rfl) TX.m_NoText (pvv 1)) (pas_cons (pv_isX XA HB.h_NoRow (by rfl) TX.n_isinstance (by rfl) TX.m_NoRow (pvv 1)) pas_nil))))).sh)) sc.nd rfl (by first | exact Or.inl rfl | exact Or.inr rfl)) (pds_cons (pd_set 3 (px_fz (pv_add ((pvv 3)).sh ((pf_lst (pas_cons (pv_isX XA HB.h_TooMany (by rfl) TX.n_isinstance (by rfl) TX.m_TooMany (pvv 1)) pas_nil))).sh)) sc.nd rfl (by first | exact Or.inl rfl | exact Or.inr rfl)) (pds_cons (pd_if (pbw_or (pb_ne hu ((pv_count (pvv 3) pv_bl rfl fun h h2 => pe_bm PySem.F.plainAttrs_list PySem.F.slot_list_count PySem.F.type_list_count mt_countB h (pa_cons h2 pa_nil))).sh (pv_int).sh) (pbw_or1 (pb_not (pb_val (pv_isXB XA HB.h_ValueError (by rfl) TX.n_isinstance (by rfl) TX.n_ValueError (by decide +kernel) (pvv 1)))))).pb (pds_one (pd_ret pv_str)) pds_nil) (pds_one (pd_ret (pv_ix ((pf_lst (pas_cons pv_str (pas_cons pv_str (pas_cons pv_str (pas_cons pv_str (pas_cons pv_str (pas_cons pv_str (pas_cons pv_str (pas_cons pv_str pas_nil)))))))))).sh ((pv_index (pvv 3) pv_bl rfl fun h h2 => pe_bm PySem.F.plainAttrs_list PySem.F.slot_list_index PySem.F.type_list_index mt_index h (pa_cons h2 pa_nil))).sh))))))))
def kn__law_refused (c : Cs) : T → Option T := fun _ => some (.str "none")
def kd__law_refused (c : Cs) : Er → Option T := fun e => if e.C = c.NoText ∧ e.ns = ([] : List Str) then some (.str "text") else if e.C = c.NoRow ∧ e.ns = (["at"] : List Str) then some (.str "row") else none
theorem gk__law_refused_NoText {W : Type} (c : Cs) (a : Addr) (xf : Str → Option T) : (gk__law_refused c a xb_NoText xf (rho1 4 1 (.raw (.ref a))) : M W Fl) = ret (.rt (.str "text")) := by
  have h_NoAgain : xb_NoText "NoAgain" = false := by decide +kernel
  have h_NoForm : xb_NoText "NoForm" = false := by decide +kernel
  have h_NoName : xb_NoText "NoName" = false := by decide +kernel
  have h_NoRow : xb_NoText "NoRow" = false := by decide +kernel
  have h_NoStep : xb_NoText "NoStep" = false := by decide +kernel
  have h_NoText : xb_NoText "NoText" = true := by decide +kernel
  have h_TooMany : xb_NoText "TooMany" = false := by decide +kernel
  have h_Twice : xb_NoText "Twice" = false := by decide +kernel
  have h_ValueError : xb_NoText "ValueError" = true := by decide +kernel
  have e1 : countT (.lst [.bl false, .bl false, .bl false, .bl false, .bl false, .bl true, .bl false, .bl false]) (.bl true) = some (.int 1) := by rfl
  have e2 : indexT (.lst [.bl false, .bl false, .bl false, .bl false, .bl false, .bl true, .bl false, .bl false]) (.bl true) = some (.int 5) := by rfl
  have e3 : eqT true (.int 1) (.int 1) = some (.bl false) := by rfl
  simp -implicitDefEqProofs [gk__law_refused, rho1, ev_addL, e1, e2, e3, ixT, atI, ixN, h_NoAgain, h_NoForm, h_NoName, h_NoRow, h_NoStep, h_NoText, h_TooMany, h_Twice, h_ValueError]
theorem gk__law_refused_NoRow {W : Type} (c : Cs) (a : Addr) (xf : Str → Option T) : (gk__law_refused c a xb_NoRow xf (rho1 4 1 (.raw (.ref a))) : M W Fl) = ret (.rt (.str "row")) := by
  have h_NoAgain : xb_NoRow "NoAgain" = false := by decide +kernel
  have h_NoForm : xb_NoRow "NoForm" = false := by decide +kernel
  have h_NoName : xb_NoRow "NoName" = false := by decide +kernel
  have h_NoRow : xb_NoRow "NoRow" = true := by decide +kernel
  have h_NoStep : xb_NoRow "NoStep" = false := by decide +kernel
  have h_NoText : xb_NoRow "NoText" = false := by decide +kernel
  have h_TooMany : xb_NoRow "TooMany" = false := by decide +kernel
  have h_Twice : xb_NoRow "Twice" = false := by decide +kernel
  have h_ValueError : xb_NoRow "ValueError" = true := by decide +kernel
  have e1 : countT (.lst [.bl false, .bl false, .bl false, .bl false, .bl false, .bl false, .bl true, .bl false]) (.bl true) = some (.int 1) := by rfl
  have e2 : indexT (.lst [.bl false, .bl false, .bl false, .bl false, .bl false, .bl false, .bl true, .bl false]) (.bl true) = some (.int 6) := by rfl
  have e3 : eqT true (.int 1) (.int 1) = some (.bl false) := by rfl
  simp -implicitDefEqProofs [gk__law_refused, rho1, ev_addL, e1, e2, e3, ixT, atI, ixN, h_NoAgain, h_NoForm, h_NoName, h_NoRow, h_NoStep, h_NoText, h_TooMany, h_Twice, h_ValueError]
theorem kok__law_refused {K : PySem.W.Frag} {c : Cs} {W : Type} {O : Wd W} (TK : Txk K c) (NX : NoXd O) : KindOk K O (THd K c.StepError 4 1 none (fun _ => TNG W K (g0__law_refused c)) (TXG W K (KindB K c) (gk__law_refused c))) (kn__law_refused c) (kd__law_refused c) := by
  refine kindOk_heard1 NX rfl ⟨fun e u h => ?_⟩
  unfold kd__law_refused at h
  split at h
  · rename_i q
    obtain ⟨q1, q2⟩ := q
    cases h
    rw [q1, q2]
    exact ⟨TK.ask_NoText, TK.exm_NoText_StepError, by simp, xb_NoText, TK.kb_NoText, fun a => gk__law_refused_NoText c a _⟩
  split at h
  · rename_i q
    obtain ⟨q1, q2⟩ := q
    cases h
    rw [q1, q2]
    exact ⟨TK.ask_NoRow, TK.exm_NoRow_StepError, by simp [TK.nf_NoRow_at], xb_NoRow, TK.kb_NoRow, fun a => gk__law_refused_NoRow c a _⟩
  · cases h
abbrev s__law_row_at : Stmt := top 32
theorem sc__law_row_at : FnScope ["_law_job", "_law_at", "e"] ["_law_job"] (defScope s__law_row_at) := ⟨rfl, rfl, rfl, by decide +kernel, rfl, by decide +kernel, by decide +kernel⟩
noncomputable def g0__law_row_at {W : Type} (c : Cs) : Rho → M W Fl := (dRet (fVar 1))
theorem gives__law_row_at {c : Cs} {W : Type} {X : Cx} (TX : Txt X.K X.mg c) {g : Addr} {q : Str} {k : Nat} (hr : Room (k + 1) X.A) (hgd : X.A.guards = some []) (cdg : Value) :
    GivesTo X ["_law_job", "_law_at", "e"] "_law_row_at" (defScope s__law_row_at) g cdg (defBody s__law_row_at) "_law_job" q (THf W X.K c.NoRow 3 1 "at" (g0__law_row_at c)) := by
  refine heardF_gives (ic := 1) (ie := 2) rfl rfl rfl (by decide) (by decide) sc__law_row_at.nd TX.m_NoRow rfl rfl rfl (by decide) (by decide) (by decide) (fun s H G => ?_) fun _ _ _ _ => rfl
  · show PDs _ G _ _ (g0__law_row_at c)
    have hr := hr.deeper (envOfC "_law_row_at" (defScope s__law_row_at) s.heap.objs.size g cdg)
    have hu := hu200 hr
    have hu1 := hu_of hr
    have sc := sc__law_row_at
    exact (pds_one (pd_ret (pvv 1)))
def kn__law_row_at (c : Cs) : T → Option T := fun _ => some .non
def kd__law_row_at (c : Cs) : Er → Option T := fun e => if e.C = c.NoRow ∧ e.ns = (["at"] : List Str) then lookT "at" e.ns e.ts else none
theorem kok__law_row_at {K : PySem.W.Frag} {c : Cs} {W : Type} {O : Wd W} (TK : Txk K c) (NX : NoXd O) : KindOk K O (THf W K c.NoRow 3 1 "at" (g0__law_row_at c)) (kn__law_row_at c) (kd__law_row_at c) := by
  refine kindOk_heardF NX rfl fun e u h => ?_
  unfold kd__law_row_at at h
  split at h
  · rename_i q
    rw [q.1]
    exact ⟨TK.exm_NoRow_NoRow, TK.ask_NoRow, TK.nf_NoRow_at, u, h, rfl⟩
  · cases h
abbrev s_is_step : Stmt := top 13
theorem sc_is_step : FnScope ["thing", "letter"] ["thing"] (defScope s_is_step) := ⟨rfl, rfl, rfl, by decide +kernel, rfl, by decide +kernel, by decide +kernel⟩
noncomputable def g_is_step {W : Type} (c : Cs) : Rho → M W Fl := (seqD (dIf (bOr (bNot (fB (f1 (isaT "str") (fVar 0)))) (bNot (fB (fChain (ltT fun i j => decide (i ≤ j)) (ltT fun i j => decide (i ≤ j)) (fC (.int 1)) (f1 lenT (fVar 0)) (fC c_MOST_LETTERS))))) (dRet (fC (.bl false))) (fun ρ => ret (.nx ρ))) (dRet (f1 allT (asL (fLc (fItems (fVar 0)) [1] (gN 1) tYesM (f2 (inT false) (fVar 1) (fC c_LETTERS)))))))
noncomputable def F_is_step {W : Type} (c : Cs) : List T → M W T := run 1 (g_is_step c)
theorem ok_is_step {P : Program} {w : World} {K : PySem.W.Frag} {mg : Str → Option Value} {base : Heap} {c : Cs} {W : Type} (TX : Txt K mg c) (D : DefAt K mg "is_step" s_is_step)  : DefOk (L2.CX P w) P w K mg base 1 "is_step" 1 (F_is_step c : List T → M W T) := by
  refine def_ok (k := 0) D sc_is_step rfl rfl (fun _ _ _ _ _ _ us hl => match us, hl with | [_], _ => rfl) fun f cdv A outer s H E G hr hgd => ?_
  · show PDs _ G E (defBody s_is_step) (g_is_step c)
    have hu := hu200 hr
    have hu1 := hu_of hr
    have sc := sc_is_step
    have hp : PassesOwn _ _ _ _ := passes_of (K := fun e s'' => L2.CX P w outer H s E e s'') (X := (cxOf (L2.CX P w) P w K mg base ["thing", "letter"] "is_step" (defScope s_is_step) f cdv A outer s H E)) rfl
    have hx : Passes (L2.CX P w) (cxOf (L2.CX P w) P w K mg base ["thing", "letter"] "is_step" (defScope s_is_step) f cdv A outer s H E) E := passes_call (takes_of rfl rfl rfl rfl) fun _ _ _ _ h => h
    have tk : Takes (cxOf (L2.CX P w) P w K mg base ["thing", "letter"] "is_step" (defScope s_is_step) f cdv A outer s H E) fun cls d _ H => E cls d H := takes_of rfl rfl rfl rfl
    exact (pds_cons (pd_if (pbw_or (pb_not (pb_val (pv_isa (by rfl) TX.n_isinstance (by rfl) TX.n_str (by decide +kernel) ((pvv 0)).sh))) (pbw_or1 (pb_not (pb_chain op_le op_le cmpG cmpG (pv_int).sh ((pv_b1 call_lenA lenG (by rfl) TX.n_len PySem.boot_len ((pvv 0)).sh)).sh ((pv_gl TX.c_MOST_LETTERS)).sh)))).pb (pds_one (pd_ret pv_bl)) pds_nil) (pds_one (pd_ret (pv_b1 (cr_all rfl) allG (by rfl) TX.n_all boot_all ((pf_lc (own := [("letter", 1)]) (is := [1]) rfl sc.nd (pit_seq (pvv 0)) (blkOk_by (N := ["thing", "letter"]) (sc := defScope s_is_step) (by decide +kernel)) ⟨fun _ _ _ _ _ => (pgt_name 1 sc.nd rfl (Or.inl rfl)), fun _ _ _ _ _ => pts_nilM, fun _ _ _ _ _ => (pv_in hu ((pvv 1)).sh ((pv_gl TX.c_LETTERS)).sh)⟩ (by decide))).sh))))

abbrev s_text_of : Stmt := top 15
theorem sc_text_of : FnScope ["lines", "line"] ["lines"] (defScope s_text_of) := ⟨rfl, rfl, rfl, by decide +kernel, rfl, by decide +kernel, by decide +kernel⟩
noncomputable def g_text_of {W : Type} (c : Cs) : Rho → M W Fl := (dRet (fM1 joinT (fC (.str "")) (asL (fLc (fItems (fVar 0)) [1] (gN 1) tYesM (f2 addT (fVar 1) (fC (.str "\n")))))))
noncomputable def F_text_of {W : Type} (c : Cs) : List T → M W T := run 1 (g_text_of c)
theorem ok_text_of {P : Program} {w : World} {K : PySem.W.Frag} {mg : Str → Option Value} {base : Heap} {c : Cs} {W : Type} (TX : Txt K mg c) (D : DefAt K mg "text_of" s_text_of)  : DefOk (L2.CX P w) P w K mg base 1 "text_of" 1 (F_text_of c : List T → M W T) := by
  refine def_ok (k := 0) D sc_text_of rfl rfl (fun _ _ _ _ _ _ us hl => match us, hl with | [_], _ => rfl) fun f cdv A outer s H E G hr hgd => ?_
  · show PDs _ G E (defBody s_text_of) (g_text_of c)
    have hu := hu200 hr
    have hu1 := hu_of hr
    have sc := sc_text_of
    have hp : PassesOwn _ _ _ _ := passes_of (K := fun e s'' => L2.CX P w outer H s E e s'') (X := (cxOf (L2.CX P w) P w K mg base ["lines", "line"] "text_of" (defScope s_text_of) f cdv A outer s H E)) rfl
    have hx : Passes (L2.CX P w) (cxOf (L2.CX P w) P w K mg base ["lines", "line"] "text_of" (defScope s_text_of) f cdv A outer s H E) E := passes_call (takes_of rfl rfl rfl rfl) fun _ _ _ _ h => h
    have tk : Takes (cxOf (L2.CX P w) P w K mg base ["lines", "line"] "text_of" (defScope s_text_of) f cdv A outer s H E) fun cls d _ H => E cls d H := takes_of rfl rfl rfl rfl
    exact (pds_one (pd_ret (pv_join (pv_str).sh ((pf_lc (own := [("line", 1)]) (is := [1]) rfl sc.nd (pit_seq (pvv 0)) (blkOk_by (N := ["lines", "line"]) (sc := defScope s_text_of) (by decide +kernel)) ⟨fun _ _ _ _ _ => (pgt_name 1 sc.nd rfl (Or.inl rfl)), fun _ _ _ _ _ => pts_nilM, fun _ _ _ _ _ => (pv_add ((pvv 1)).sh (pv_str).sh)⟩ (by decide))).sh)))

abbrev s_lines_of : Stmt := top 16
theorem sc_lines_of : FnScope ["text"] ["text"] (defScope s_lines_of) := ⟨rfl, rfl, rfl, by decide +kernel, rfl, by decide +kernel, by decide +kernel⟩
noncomputable def g_lines_of {W : Type} (c : Cs) : Rho → M W Fl := (seqD (dIf (bOr (bNot (fB (f1 (isaT "str") (fVar 0)))) (bOr (fB (f2 (eqT false) (fVar 0) (fC (.str "")))) (fB (f2 (eqT true) (f2 ixT (fVar 0) (f1 negT (fC (.int 1)))) (fC (.str "\n")))))) (dRaise0 c.NoText) (fun ρ => ret (.nx ρ))) (dRet (asL (fM1l splitT (fSlice (fVar 0) fNoPart (fPart (f1 negT (fC (.int 1))))) (fC (.str "\n"))))))
noncomputable def F_lines_of {W : Type} (c : Cs) : List T → M W T := run 0 (g_lines_of c)
theorem ok_lines_of {P : Program} {w : World} {K : PySem.W.Frag} {mg : Str → Option Value} {base : Heap} {c : Cs} {W : Type} (TX : Txt K mg c) (D : DefAt K mg "lines_of" s_lines_of)  : DefOk (L2.CX P w) P w K mg base 1 "lines_of" 1 (F_lines_of c : List T → M W T) := by
  refine def_ok (k := 0) D sc_lines_of rfl rfl (fun _ _ _ _ _ _ us hl => match us, hl with | [_], _ => rfl) fun f cdv A outer s H E G hr hgd => ?_
  · show PDs _ G E (defBody s_lines_of) (g_lines_of c)
    have hu := hu200 hr
    have hu1 := hu_of hr
    have sc := sc_lines_of
    have hp : PassesOwn _ _ _ _ := passes_of (K := fun e s'' => L2.CX P w outer H s E e s'') (X := (cxOf (L2.CX P w) P w K mg base ["text"] "lines_of" (defScope s_lines_of) f cdv A outer s H E)) rfl
    have hx : Passes (L2.CX P w) (cxOf (L2.CX P w) P w K mg base ["text"] "lines_of" (defScope s_lines_of) f cdv A outer s H E) E := passes_call (takes_of rfl rfl rfl rfl) fun _ _ _ _ h => h
    have tk : Takes (cxOf (L2.CX P w) P w K mg base ["text"] "lines_of" (defScope s_lines_of) f cdv A outer s H E) fun cls d _ H => E cls d H := takes_of rfl rfl rfl rfl
    exact (pds_cons (pd_if (pbw_or (pb_not (pb_val (pv_isa (by rfl) TX.n_isinstance (by rfl) TX.n_str (by decide +kernel) ((pvv 0)).sh))) (pbw_or (pb_eq hu ((pvv 0)).sh (pv_str).sh) (pbw_or1 (pb_ne hu ((pv_ix ((pvv 0)).sh ((pv_neg pv_int)).sh)).sh (pv_str).sh)))).pb (pds_one (pd_raise0 TX.x0_NoText rfl tk (by rfl))) pds_nil) (pds_one (pd_ret ((pf_split ((pv_slice ((pvv 0)).sh pp_none (pp_some (pv_neg pv_int)))).sh (pv_str).sh)).dp)))

abbrev s_is_full_row : Stmt := top 17
theorem sc_is_full_row : FnScope ["thing", "step"] ["thing"] (defScope s_is_full_row) := ⟨rfl, rfl, rfl, by decide +kernel, rfl, by decide +kernel, by decide +kernel⟩
noncomputable def g_is_full_row {W : Type} (c : Cs) : Rho → M W Fl := (dRet (fAnd (f1 (isaT "tuple") (fVar 0)) (fAnd (f2 (eqE true) (fVar 0) (fTup aNil)) (f1 allT (asL (fLc (fItems (fVar 0)) [1] (gN 1) tYesM (fCall 1 (aCons (fVar 1) aNil) (F_is_step c))))))))
noncomputable def F_is_full_row {W : Type} (c : Cs) : List T → M W T := run 1 (g_is_full_row c)
theorem ok_is_full_row {P : Program} {w : World} {K : PySem.W.Frag} {mg : Str → Option Value} {base : Heap} {c : Cs} {W : Type} (TX : Txt K mg c) (D : DefAt K mg "is_full_row" s_is_full_row) (D_is_step : DefOk (L2.CX P w) P w K mg base 1 "is_step" 1 ((F_is_step c) : List T → M W T)) : DefOk (L2.CX P w) P w K mg base 2 "is_full_row" 1 (F_is_full_row c : List T → M W T) := by
  refine def_ok (k := 1) D sc_is_full_row rfl rfl (fun _ _ _ _ _ _ us hl => match us, hl with | [_], _ => rfl) fun f cdv A outer s H E G hr hgd => ?_
  · show PDs _ G E (defBody s_is_full_row) (g_is_full_row c)
    have hu := hu200 hr
    have hu1 := hu_of hr
    have sc := sc_is_full_row
    have hp : PassesOwn _ _ _ _ := passes_of (K := fun e s'' => L2.CX P w outer H s E e s'') (X := (cxOf (L2.CX P w) P w K mg base ["thing", "step"] "is_full_row" (defScope s_is_full_row) f cdv A outer s H E)) rfl
    have hx : Passes (L2.CX P w) (cxOf (L2.CX P w) P w K mg base ["thing", "step"] "is_full_row" (defScope s_is_full_row) f cdv A outer s H E) E := passes_call (takes_of rfl rfl rfl rfl) fun _ _ _ _ h => h
    have tk : Takes (cxOf (L2.CX P w) P w K mg base ["thing", "step"] "is_full_row" (defScope s_is_full_row) f cdv A outer s H E) fun cls d _ H => E cls d H := takes_of rfl rfl rfl rfl
    exact (pds_one (pd_ret (pv_and (pv_isa (by rfl) TX.n_isinstance (by rfl) TX.n_tuple (by decide +kernel) ((pvv 0)).sh) (pv_and (pv_neE hu ((pvv 0)).sh ((pv_tup pas_nil)).sh) (pv_one (pv_b1 (cr_all rfl) allG (by rfl) TX.n_all boot_all ((pf_lc (own := [("step", 1)]) (is := [1]) rfl sc.nd (pit_seq (pvv 0)) (blkOk_by (N := ["thing", "step"]) (sc := defScope s_is_full_row) (by decide +kernel)) ⟨fun _ _ _ _ _ => (pgt_name 1 sc.nd rfl (Or.inl rfl)), fun _ _ _ _ _ => pts_nilM, fun _ _ _ _ _ => (pv_call D_is_step hr hgd (by omega) (by rfl) passL (pas_cons (pvv 1) pas_nil))⟩ (by decide))).sh))))))

abbrev s_need_rows : Stmt := top 18
theorem sc_need_rows : FnScope ["log", "at", "row"] ["log"] (defScope s_need_rows) := ⟨rfl, rfl, rfl, by decide +kernel, rfl, by decide +kernel, by decide +kernel⟩
noncomputable def g_need_rows {W : Type} (c : Cs) : Rho → M W Fl := (seqD (dIf (bOr (bNot (fB (f1 (isaTT "list" "tuple") (fVar 0)))) (fB (f2 (eqT false) (f1 lenT (fVar 0)) (fC (.int 0))))) (dRaise1 c.NoRow "at" (fC (.int 0))) (fun ρ => ret (.nx ρ))) (dFor (fEnum (fVar 0)) (gT2 1 2) (dIf (bNot (fB (fCall 1 (aCons (fVar 2) aNil) (F_is_full_row c)))) (dRaise1 c.NoRow "at" (fVar 1)) (fun ρ => ret (.nx ρ)))))
noncomputable def F_need_rows {W : Type} (c : Cs) : List T → M W T := run 2 (g_need_rows c)
theorem ok_need_rows {P : Program} {w : World} {K : PySem.W.Frag} {mg : Str → Option Value} {base : Heap} {c : Cs} {W : Type} (TX : Txt K mg c) (D : DefAt K mg "need_rows" s_need_rows) (D_is_full_row : DefOk (L2.CX P w) P w K mg base 2 "is_full_row" 1 ((F_is_full_row c) : List T → M W T)) (X_NoRow : XCls P w K mg base "NoRow" c.NoRow "at") : DefOk (L2.CX P w) P w K mg base 3 "need_rows" 1 (F_need_rows c : List T → M W T) := by
  refine def_ok (k := 2) D sc_need_rows rfl rfl (fun _ _ _ _ _ _ us hl => match us, hl with | [_], _ => rfl) fun f cdv A outer s H E G hr hgd => ?_
  · show PDs _ G E (defBody s_need_rows) (g_need_rows c)
    have hu := hu200 hr
    have hu1 := hu_of hr
    have sc := sc_need_rows
    have hp : PassesOwn _ _ _ _ := passes_of (K := fun e s'' => L2.CX P w outer H s E e s'') (X := (cxOf (L2.CX P w) P w K mg base ["log", "at", "row"] "need_rows" (defScope s_need_rows) f cdv A outer s H E)) rfl
    have hx : Passes (L2.CX P w) (cxOf (L2.CX P w) P w K mg base ["log", "at", "row"] "need_rows" (defScope s_need_rows) f cdv A outer s H E) E := passes_call (takes_of rfl rfl rfl rfl) fun _ _ _ _ h => h
    have tk : Takes (cxOf (L2.CX P w) P w K mg base ["log", "at", "row"] "need_rows" (defScope s_need_rows) f cdv A outer s H E) fun cls d _ H => E cls d H := takes_of rfl rfl rfl rfl
    exact (pds_cons (pd_if (pbw_or (pb_not (pb_val (pv_isaTT (by rfl) TX.n_isinstance (by rfl) TX.n_list (by decide +kernel) (by rfl) TX.n_tuple (by decide +kernel) ((pvv 0)).sh))) (pbw_or1 (pb_eq hu ((pv_b1 call_lenA lenG (by rfl) TX.n_len PySem.boot_len ((pvv 0)).sh)).sh (pv_int).sh))).pb (pds_one (pd_raise1 X_NoRow rfl tk (hr.mono (by omega)) (by rfl) pv_int)) pds_nil) (pds_one (pd_for hp rfl (pit_enum (by rfl) TX.n_enumerate (pvv 0)) (pgt_tup2 1 2 rfl sc.nd rfl rfl (by first | exact Or.inl rfl | exact Or.inr rfl) (by first | exact Or.inl rfl | exact Or.inr rfl)) (pds_one (pd_if (pb_not (pb_val (pv_call D_is_full_row hr hgd (by omega) (by rfl) hx (pas_cons (pvv 2) pas_nil)))) (pds_one (pd_raise1 X_NoRow rfl tk (hr.mono (by omega)) (by rfl) (pvv 1))) pds_nil)))))

abbrev s_log_text : Stmt := top 19
theorem sc_log_text : FnScope ["log", "row"] ["log"] (defScope s_log_text) := ⟨rfl, rfl, rfl, by decide +kernel, rfl, by decide +kernel, by decide +kernel⟩
noncomputable def g_log_text {W : Type} (c : Cs) : Rho → M W Fl := (seqD (dExpr (fCall 1 (aCons (fVar 0) aNil) (F_need_rows c))) (dRet (fCall 1 (aCons (asL (fLc (fItems (fVar 0)) [1] (gN 1) tYesM (fM1 joinT (fC (.str " ")) (fVar 1)))) aNil) (F_text_of c))))
noncomputable def F_log_text {W : Type} (c : Cs) : List T → M W T := run 1 (g_log_text c)
theorem ok_log_text {P : Program} {w : World} {K : PySem.W.Frag} {mg : Str → Option Value} {base : Heap} {c : Cs} {W : Type} (TX : Txt K mg c) (D : DefAt K mg "log_text" s_log_text) (D_need_rows : DefOk (L2.CX P w) P w K mg base 3 "need_rows" 1 ((F_need_rows c) : List T → M W T)) (D_text_of : DefOk (L2.CX P w) P w K mg base 1 "text_of" 1 ((F_text_of c) : List T → M W T)) : DefOk (L2.CX P w) P w K mg base 4 "log_text" 1 (F_log_text c : List T → M W T) := by
  refine def_ok (k := 3) D sc_log_text rfl rfl (fun _ _ _ _ _ _ us hl => match us, hl with | [_], _ => rfl) fun f cdv A outer s H E G hr hgd => ?_
  · show PDs _ G E (defBody s_log_text) (g_log_text c)
    have hu := hu200 hr
    have hu1 := hu_of hr
    have sc := sc_log_text
    have hp : PassesOwn _ _ _ _ := passes_of (K := fun e s'' => L2.CX P w outer H s E e s'') (X := (cxOf (L2.CX P w) P w K mg base ["log", "row"] "log_text" (defScope s_log_text) f cdv A outer s H E)) rfl
    have hx : Passes (L2.CX P w) (cxOf (L2.CX P w) P w K mg base ["log", "row"] "log_text" (defScope s_log_text) f cdv A outer s H E) E := passes_call (takes_of rfl rfl rfl rfl) fun _ _ _ _ h => h
    have tk : Takes (cxOf (L2.CX P w) P w K mg base ["log", "row"] "log_text" (defScope s_log_text) f cdv A outer s H E) fun cls d _ H => E cls d H := takes_of rfl rfl rfl rfl
    exact (pds_cons (pd_expr (pv_call D_need_rows hr hgd (by omega) (by rfl) hx (pas_cons (pvv 0) pas_nil))) (pds_one (pd_ret (pv_call D_text_of hr hgd (by omega) (by rfl) hx (pas_cons ((pf_lc (own := [("row", 1)]) (is := [1]) rfl sc.nd (pit_seq (pvv 0)) (blkOk_by (N := ["log", "row"]) (sc := defScope s_log_text) (by decide +kernel)) ⟨fun _ _ _ _ _ => (pgt_name 1 sc.nd rfl (Or.inl rfl)), fun _ _ _ _ _ => pts_nilM, fun _ _ _ _ _ => (pv_join (pv_str).sh ((pvv 1)).sh)⟩ (by decide))).dp pas_nil)))))

abbrev s_read_log : Stmt := top 20
theorem sc_read_log : FnScope ["text", "rows", "line", "row"] ["text"] (defScope s_read_log) := ⟨rfl, rfl, rfl, by decide +kernel, rfl, by decide +kernel, by decide +kernel⟩
noncomputable def g_read_log {W : Type} (c : Cs) : Rho → M W Fg := (seqG (dSet 1 (xOw (fLc (fItems (fCall 1 (aCons (fVar 0) aNil) (F_lines_of c))) [2] (gN 2) tYesM (f1 tupT (asL (fM1l splitT (fVar 2) (fC (.str " ")))))))) (seqG (dIf (bNot (fB (fView 1 (f1 allT (asL (fLc (fItems (fVar 1)) [3] (gN 3) tYesM (fCall 1 (aCons (fVar 3) aNil) (F_is_full_row c)))))))) (dRaise0 c.NoText) (fun ρ => ret (.nx ρ))) (gOwn 1)))
noncomputable def F_read_log {W : Type} (c : Cs) : List T → M W (List T) := runL 3 (g_read_log c)
theorem ok_read_log {P : Program} {w : World} {K : PySem.W.Frag} {mg : Str → Option Value} {base : Heap} {c : Cs} {W : Type} (TX : Txt K mg c) (D : DefAt K mg "read_log" s_read_log) (D_lines_of : DefOk (L2.CX P w) P w K mg base 1 "lines_of" 1 ((F_lines_of c) : List T → M W T)) (D_is_full_row : DefOk (L2.CX P w) P w K mg base 2 "is_full_row" 1 ((F_is_full_row c) : List T → M W T)) : DefOkL (L2.CX P w) P w K mg base 3 "read_log" 1 (F_read_log c : List T → M W (List T)) := by
  refine def_okL (k := 2) D sc_read_log rfl rfl (fun _ _ _ _ _ _ us hl => match us, hl with | [_], _ => rfl) fun f cdv A outer s H E G hr hgd => ?_
  · show PGs _ G E (defBody s_read_log) (g_read_log c)
    have hu := hu200 hr
    have hu1 := hu_of hr
    have sc := sc_read_log
    have hp : PassesOwn _ _ _ _ := passes_of (K := fun e s'' => L2.CX P w outer H s E e s'') (X := (cxOf (L2.CX P w) P w K mg base ["text", "rows", "line", "row"] "read_log" (defScope s_read_log) f cdv A outer s H E)) rfl
    have hx : Passes (L2.CX P w) (cxOf (L2.CX P w) P w K mg base ["text", "rows", "line", "row"] "read_log" (defScope s_read_log) f cdv A outer s H E) E := passes_call (takes_of rfl rfl rfl rfl) fun _ _ _ _ h => h
    have tk : Takes (cxOf (L2.CX P w) P w K mg base ["text", "rows", "line", "row"] "read_log" (defScope s_read_log) f cdv A outer s H E) fun cls d _ H => E cls d H := takes_of rfl rfl rfl rfl
    exact (pgs_cons (pd_setLc (i := 1) (own := [("line", 2)]) (is := [2]) rfl sc.nd rfl rfl (sw_true rfl rfl rfl (by decide +kernel)) (pit_seq (pv_call D_lines_of hr hgd (by omega) (by rfl) hx (pas_cons (pvv 0) pas_nil))) (blkOk_by (N := ["text", "rows", "line", "row"]) (sc := defScope s_read_log) (by decide +kernel)) ⟨fun _ _ _ _ _ => (pgt_name 2 sc.nd rfl (Or.inl rfl)), fun _ _ _ _ _ => pts_nilM, fun _ _ _ _ _ => (pv_t1 call_tuple_of tupG (by rfl) TX.n_tuple boot_tuple ((pf_split ((pvv 2)).sh (pv_str).sh)).sh)⟩ (by decide)) (pgs_cons (pd_if (pb_not (pb_val (pv_view 1 (pv_b1 (cr_all rfl) allG (by rfl) TX.n_all boot_all ((pf_lc (own := [("row", 3)]) (is := [3]) rfl sc.nd (pit_seq (pvv 1)) (blkOk_by (N := ["text", "rows", "line", "row"]) (sc := defScope s_read_log) (by decide +kernel)) ⟨fun _ _ _ _ _ => (pgt_name 3 sc.nd rfl (Or.inl rfl)), fun _ _ _ _ _ => pts_nilM, fun _ _ _ _ _ => (pv_call D_is_full_row hr hgd (by omega) (by rfl) passL (pas_cons (pvv 3) pas_nil))⟩ (by decide))).sh)))) (pds_one (pd_raise0 TX.x0_NoText rfl tk (by rfl))) pds_nil) (pgs_one (pg_own 1 (L2.pv 1)))))

abbrev s__law_draw : Stmt := top 23
theorem sc__law_draw : FnScope ["_law_state", "_law_size", "_law_found", "_law_turn", "_law_cell", "_law_mixed"] ["_law_state", "_law_size"] (defScope s__law_draw) := ⟨rfl, rfl, rfl, by decide +kernel, rfl, by decide +kernel, by decide +kernel⟩
noncomputable def g__law_draw (c : Cs) : Rho → M Dr Fl := (seqD (dWhile (bAnd (fB (f2 (eqT false) (fRest 0) (fC (.int 0)))) (fB (fNe Dr.large 0))) (dRestPop 0)) (seqD (dIf (fB (f2 (ltT fun i j => decide (j < i)) (fRest 0) (fC (.int 0)))) (seqD (dSet 2 (xFz (f2 modT (f1 toInt (fRest 0)) (fVar 1)))) (seqD (dRest 0 (f2 fdivT (fRest 0) (fVar 1))) (dRet (fVar 2)))) (fun ρ => ret (.nx ρ))) (seqD (dSet 3 (xFz (f2 addT (fTurn 0) (fC (.int 1))))) (seqD (dTurn 0 (fVar 3)) (seqD (dSet 4 (xFz (fIf (fB (fNe Dr.cells 0)) (fCell 0 (f2 modT (f1 toInt (fVar 3)) (fLenC 0))) (fC (.int 0))))) (seqD (dSet 5 (xFz (f2 modT (f1 toInt (f2 powT (f2 addT (f2 addT (f2 modT (f1 toInt (fVar 4)) (fC (.int 2147483629))) (f2 mulT (fC (.int 69621)) (fVar 3))) (fC (.int 12345))) (fC (.int 3)))) (fC (.int 2147483647))))) (dRet (f2 modT (f1 toInt (f2 fdivT (f2 modT (f1 toInt (f2 powT (f2 addT (fVar 5) (f2 mulT (fC (.int 104729)) (fVar 3))) (fC (.int 5)))) (fC (.int 2147483587))) (fC (.int 13)))) (fVar 1)))))))))
noncomputable def F__law_draw (c : Cs) : List T → M Dr T := run 4 (g__law_draw c)
theorem ok__law_draw {P : Program} {w : World} {K : PySem.W.Frag} {mg : Str → Option Value} {base : Heap} {c : Cs} (TX : Txt K mg c) (D : DefAt K mg "_law_draw" s__law_draw)  : DefOk (L2.CX P w) P w K mg base 1 "_law_draw" 2 (F__law_draw c : List T → M Dr T) := by
  refine def_ok (k := 0) D sc__law_draw rfl rfl (fun _ _ _ _ _ _ us hl => match us, hl with | [_, _], _ => rfl) fun f cdv A outer s H E G hr hgd => ?_
  · show PDs _ G E (defBody s__law_draw) (g__law_draw c)
    have hu := hu200 hr
    have hu1 := hu_of hr
    have sc := sc__law_draw
    have hp : PassesOwn _ _ _ _ := passes_of (K := fun e s'' => L2.CX P w outer H s E e s'') (X := (cxOf (L2.CX P w) P w K mg base ["_law_state", "_law_size", "_law_found", "_law_turn", "_law_cell", "_law_mixed"] "_law_draw" (defScope s__law_draw) f cdv A outer s H E)) rfl
    have hx : Passes (L2.CX P w) (cxOf (L2.CX P w) P w K mg base ["_law_state", "_law_size", "_law_found", "_law_turn", "_law_cell", "_law_mixed"] "_law_draw" (defScope s__law_draw) f cdv A outer s H E) E := passes_call (takes_of rfl rfl rfl rfl) fun _ _ _ _ h => h
    have tk : Takes (cxOf (L2.CX P w) P w K mg base ["_law_state", "_law_size", "_law_found", "_law_turn", "_law_cell", "_law_mixed"] "_law_draw" (defScope s__law_draw) f cdv A outer s H E) fun cls d _ H => E cls d H := takes_of rfl rfl rfl rfl
    exact (pds_cons (pd_while hp (pbw_and (pb_eq hu ((pv_rest 0 hu1 (L2.pv 0))).sh (pv_int).sh) (pbw_and1 (pb_wlarge 0 hu (L2.pv 0)))).pb (pds_one (pd_restPop 0 hu1 (L2.pv 0) (L2.pv 0) (fun h1 h2 => pe_bm PySem.F.plainAttrs_list PySem.F.slot_list_pop PySem.F.type_list_pop mt_popAt h1 (pa_cons h2 pa_nil))))) (pds_cons (pd_if (pb_gt ((pv_rest 0 hu1 (L2.pv 0))).sh (pv_int).sh) (pds_cons (pd_set 2 (px_fz (pv_mod ((pv_t1 call_int1 intCG (by rfl) TX.n_int boot_int ((pv_rest 0 hu1 (L2.pv 0))).sh)).sh ((pvv 1)).sh)) sc.nd rfl (by first | exact Or.inl rfl | exact Or.inr rfl)) (pds_cons (pd_rest 0 hu1 (L2.pv 0) (pv_fdiv ((pv_rest 0 hu1 (L2.pv 0))).sh ((pvv 1)).sh)) (pds_one (pd_ret (pvv 2))))) pds_nil) (pds_cons (pd_set 3 (px_fz (pv_add ((pv_turn 0 hu1 (L2.pv 0))).sh (pv_int).sh)) sc.nd rfl (by first | exact Or.inl rfl | exact Or.inr rfl)) (pds_cons (pd_turn 0 hu1 (L2.pv 0) (pvv 3)) (pds_cons (pd_set 4 (px_fz (pv_if (pb_wcells 0 hu (L2.pv 0)) (pv_cell 0 hu1 (L2.pv 0) (pv_mod ((pv_t1 call_int1 intCG (by rfl) TX.n_int boot_int ((pvv 3)).sh)).sh ((pv_lenC 0 hu1 (L2.pv 0) (by rfl) TX.n_len)).sh)) pv_int)) sc.nd rfl (by first | exact Or.inl rfl | exact Or.inr rfl)) (pds_cons (pd_set 5 (px_fz (pv_mod ((pv_t1 call_int1 intCG (by rfl) TX.n_int boot_int ((pv_pow ((pv_add ((pv_add ((pv_mod ((pv_t1 call_int1 intCG (by rfl) TX.n_int boot_int ((pvv 4)).sh)).sh (pv_int).sh)).sh ((pv_mul (pv_int).sh ((pvv 3)).sh)).sh)).sh (pv_int).sh)).sh (pv_int).sh)).sh)).sh (pv_int).sh)) sc.nd rfl (by first | exact Or.inl rfl | exact Or.inr rfl)) (pds_one (pd_ret (pv_mod ((pv_t1 call_int1 intCG (by rfl) TX.n_int boot_int ((pv_fdiv ((pv_mod ((pv_t1 call_int1 intCG (by rfl) TX.n_int boot_int ((pv_pow ((pv_add ((pvv 5)).sh ((pv_mul (pv_int).sh ((pvv 3)).sh)).sh)).sh (pv_int).sh)).sh)).sh (pv_int).sh)).sh (pv_int).sh)).sh)).sh ((pvv 1)).sh)))))))))

abbrev s__law_pick : Stmt := top 24
theorem sc__law_pick : FnScope ["_law_state", "_law_some"] ["_law_state", "_law_some"] (defScope s__law_pick) := ⟨rfl, rfl, rfl, by decide +kernel, rfl, by decide +kernel, by decide +kernel⟩
noncomputable def g__law_pick (c : Cs) : Rho → M Dr Fl := (dRet (f2 ixT (fVar 1) (fCall 2 (aCons (fVar 0) (aCons (f1 lenT (fVar 1)) aNil)) (F__law_draw c))))
noncomputable def F__law_pick (c : Cs) : List T → M Dr T := run 0 (g__law_pick c)
theorem ok__law_pick {P : Program} {w : World} {K : PySem.W.Frag} {mg : Str → Option Value} {base : Heap} {c : Cs} (TX : Txt K mg c) (D : DefAt K mg "_law_pick" s__law_pick) (D__law_draw : DefOk (L2.CX P w) P w K mg base 1 "_law_draw" 2 ((F__law_draw c) : List T → M Dr T)) : DefOk (L2.CX P w) P w K mg base 2 "_law_pick" 2 (F__law_pick c : List T → M Dr T) := by
  refine def_ok (k := 1) D sc__law_pick rfl rfl (fun _ _ _ _ _ _ us hl => match us, hl with | [_, _], _ => rfl) fun f cdv A outer s H E G hr hgd => ?_
  · show PDs _ G E (defBody s__law_pick) (g__law_pick c)
    have hu := hu200 hr
    have hu1 := hu_of hr
    have sc := sc__law_pick
    have hp : PassesOwn _ _ _ _ := passes_of (K := fun e s'' => L2.CX P w outer H s E e s'') (X := (cxOf (L2.CX P w) P w K mg base ["_law_state", "_law_some"] "_law_pick" (defScope s__law_pick) f cdv A outer s H E)) rfl
    have hx : Passes (L2.CX P w) (cxOf (L2.CX P w) P w K mg base ["_law_state", "_law_some"] "_law_pick" (defScope s__law_pick) f cdv A outer s H E) E := passes_call (takes_of rfl rfl rfl rfl) fun _ _ _ _ h => h
    have tk : Takes (cxOf (L2.CX P w) P w K mg base ["_law_state", "_law_some"] "_law_pick" (defScope s__law_pick) f cdv A outer s H E) fun cls d _ H => E cls d H := takes_of rfl rfl rfl rfl
    exact (pds_one (pd_ret (pv_ix ((pvv 1)).sh ((pv_call D__law_draw hr hgd (by omega) (by rfl) hx (pas_cons (pvv 0) (pas_cons (pv_b1 call_lenA lenG (by rfl) TX.n_len PySem.boot_len ((pvv 1)).sh) pas_nil)))).sh)))

abbrev s__law_step : Stmt := top 25
theorem sc__law_step : FnScope ["_law_state", "_law_way", "_law_some", "_law_letters", "_law_k"] ["_law_state"] (defScope s__law_step) := ⟨rfl, rfl, rfl, by decide +kernel, rfl, by decide +kernel, by decide +kernel⟩
noncomputable def g__law_step (c : Cs) : Rho → M Dr Fl := (seqD (dSet 1 (xFz (fCall 2 (aCons (fVar 0) (aCons (fC (.int 6)) aNil)) (F__law_draw c)))) (seqD (dIf (fB (f2 (ltT fun i j => decide (i < j)) (fVar 1) (fC (.int 3)))) (dRet (fCall 2 (aCons (fVar 0) (aCons (asL (fLst (aCons (fC (.str "a")) (aCons (fC (.str "b")) (aCons (fC (.str "c")) (aCons (fC (.str "p")) (aCons (fC (.str "q")) aNil))))))) aNil)) (F__law_pick c))) (fun ρ => ret (.nx ρ))) (seqD (dIf (fB (f2 (eqT false) (fVar 1) (fC (.int 3)))) (seqD (dSet 2 (xFz (asL (fLst (aCons (fC (.str "steps")) (aCons (fC (.str "begins")) (aCons (fC (.str "ends")) (aCons (fC (.str "tie")) (aCons (fC (.str "again")) (aCons (fC (.str "either")) (aCons (fC (.str "beside")) (aCons (fC (.str "behind")) (aCons (fC (.str "step")) (aCons (fC (.str "do")) aNil)))))))))))))) (dRet (fCall 2 (aCons (fVar 0) (aCons (fVar 2) aNil)) (F__law_pick c)))) (fun ρ => ret (.nx ρ))) (seqD (dSet 3 (xFz (fC (.str "abcdefghijklmnopqrstuvwxyz")))) (dRet (fM1 joinT (fC (.str "")) (asL (fLc (fRange1 (f2 addT (fC (.int 1)) (fCall 2 (aCons (fVar 0) (aCons (fC (.int 6)) aNil)) (F__law_draw c)))) [4] (gN 4) tYesM (fCall 2 (aCons (fVar 0) (aCons (fVar 3) aNil)) (F__law_pick c))))))))))
noncomputable def F__law_step (c : Cs) : List T → M Dr T := run 4 (g__law_step c)
theorem ok__law_step {P : Program} {w : World} {K : PySem.W.Frag} {mg : Str → Option Value} {base : Heap} {c : Cs} (TX : Txt K mg c) (D : DefAt K mg "_law_step" s__law_step) (D__law_draw : DefOk (L2.CX P w) P w K mg base 1 "_law_draw" 2 ((F__law_draw c) : List T → M Dr T)) (D__law_pick : DefOk (L2.CX P w) P w K mg base 2 "_law_pick" 2 ((F__law_pick c) : List T → M Dr T)) : DefOk (L2.CX P w) P w K mg base 3 "_law_step" 1 (F__law_step c : List T → M Dr T) := by
  refine def_ok (k := 2) D sc__law_step rfl rfl (fun _ _ _ _ _ _ us hl => match us, hl with | [_], _ => rfl) fun f cdv A outer s H E G hr hgd => ?_
  · show PDs _ G E (defBody s__law_step) (g__law_step c)
    have hu := hu200 hr
    have hu1 := hu_of hr
    have sc := sc__law_step
    have hp : PassesOwn _ _ _ _ := passes_of (K := fun e s'' => L2.CX P w outer H s E e s'') (X := (cxOf (L2.CX P w) P w K mg base ["_law_state", "_law_way", "_law_some", "_law_letters", "_law_k"] "_law_step" (defScope s__law_step) f cdv A outer s H E)) rfl
    have hx : Passes (L2.CX P w) (cxOf (L2.CX P w) P w K mg base ["_law_state", "_law_way", "_law_some", "_law_letters", "_law_k"] "_law_step" (defScope s__law_step) f cdv A outer s H E) E := passes_call (takes_of rfl rfl rfl rfl) fun _ _ _ _ h => h
    have tk : Takes (cxOf (L2.CX P w) P w K mg base ["_law_state", "_law_way", "_law_some", "_law_letters", "_law_k"] "_law_step" (defScope s__law_step) f cdv A outer s H E) fun cls d _ H => E cls d H := takes_of rfl rfl rfl rfl
    exact (pds_cons (pd_set 1 (px_fz (pv_call D__law_draw hr hgd (by omega) (by rfl) hx (pas_cons (pvv 0) (pas_cons pv_int pas_nil)))) sc.nd rfl (by first | exact Or.inl rfl | exact Or.inr rfl)) (pds_cons (pd_if (pb_lt ((pvv 1)).sh (pv_int).sh) (pds_one (pd_ret (pv_call D__law_pick hr hgd (by omega) (by rfl) hx (pas_cons (pvv 0) (pas_cons ((pf_lst (pas_cons pv_str (pas_cons pv_str (pas_cons pv_str (pas_cons pv_str (pas_cons pv_str pas_nil))))))).dp pas_nil))))) pds_nil) (pds_cons (pd_if (pb_eq hu ((pvv 1)).sh (pv_int).sh) (pds_cons (pd_set 2 (px_fz ((pf_lst (pas_cons pv_str (pas_cons pv_str (pas_cons pv_str (pas_cons pv_str (pas_cons pv_str (pas_cons pv_str (pas_cons pv_str (pas_cons pv_str (pas_cons pv_str (pas_cons pv_str pas_nil)))))))))))).dp) sc.nd rfl (by first | exact Or.inl rfl | exact Or.inr rfl)) (pds_one (pd_ret (pv_call D__law_pick hr hgd (by omega) (by rfl) hx (pas_cons (pvv 0) (pas_cons (pvv 2) pas_nil)))))) pds_nil) (pds_cons (pd_set 3 (px_fz pv_str) sc.nd rfl (by first | exact Or.inl rfl | exact Or.inr rfl)) (pds_one (pd_ret (pv_join (pv_str).sh ((pf_lc (own := [("_law_k", 4)]) (is := [4]) rfl sc.nd (pit_range1 (by rfl) TX.n_range (pv_add (pv_int).sh ((pv_call D__law_draw hr hgd (by omega) (by rfl) hx (pas_cons (pvv 0) (pas_cons pv_int pas_nil)))).sh)) (blkOk_by (N := ["_law_state", "_law_way", "_law_some", "_law_letters", "_law_k"]) (sc := defScope s__law_step) (by decide +kernel)) ⟨fun _ _ _ _ _ => (pgt_name 4 sc.nd rfl (Or.inl rfl)), fun _ _ _ _ _ => pts_nilM, fun _ _ _ _ _ => (pv_call D__law_pick hr hgd (by omega) (by rfl) passL (pas_cons (pvv 0) (pas_cons (pvv 3) pas_nil)))⟩ (by decide))).sh)))))))

abbrev s__law_steps : Stmt := top 26
theorem sc__law_steps : FnScope ["_law_state", "_law_many", "_law_letters", "_law_found", "_law_k", "_law_word", "_law_near", "_law_letter", "_law_one"] ["_law_state", "_law_many"] (defScope s__law_steps) := ⟨rfl, rfl, rfl, by decide +kernel, rfl, by decide +kernel, by decide +kernel⟩
noncomputable def g__law_steps (c : Cs) : Rho → M Dr Fl := (seqD (dPar 2 3 (xFz (fC (.str "abcdefghijklmnopqrstuvwxyz"))) (xOw (fLst aNil))) (seqD (dFor (fRange1 (fVar 1)) (gN 4) (seqD (dSet 5 (xFz (fSlice (fCall 1 (aCons (fVar 0) aNil) (F__law_step c)) fNoPart (fPart (fC (.int 6)))))) (seqD (dSet 6 (xFz (f2 addT (asL (fLst (aCons (fVar 5) aNil))) (asL (fLc (fItems (fVar 2)) [7] (gN 7) tYesM (f2 addT (fSlice (fVar 5) fNoPart (fPart (fC (.int 5)))) (fVar 7))))))) (dAppend 3 (f2 ixT (asL (fLc (fItems (fVar 6)) [8] (gN 8) (fB (f2 (inT true) (fVar 8) (fVarS 3))) (fVar 8))) (fC (.int 0))))))) (fun ρ => (dRet (fVar 3)) (frzAt 3 ρ))))
noncomputable def F__law_steps (c : Cs) : List T → M Dr T := run 7 (g__law_steps c)
theorem ok__law_steps {P : Program} {w : World} {K : PySem.W.Frag} {mg : Str → Option Value} {base : Heap} {c : Cs} (TX : Txt K mg c) (D : DefAt K mg "_law_steps" s__law_steps) (D__law_step : DefOk (L2.CX P w) P w K mg base 3 "_law_step" 1 ((F__law_step c) : List T → M Dr T)) : DefOk (L2.CX P w) P w K mg base 4 "_law_steps" 2 (F__law_steps c : List T → M Dr T) := by
  refine def_ok (k := 3) D sc__law_steps rfl rfl (fun _ _ _ _ _ _ us hl => match us, hl with | [_, _], _ => rfl) fun f cdv A outer s H E G hr hgd => ?_
  · show PDs _ G E (defBody s__law_steps) (g__law_steps c)
    have hu := hu200 hr
    have hu1 := hu_of hr
    have sc := sc__law_steps
    have hp : PassesOwn _ _ _ _ := passes_of (K := fun e s'' => L2.CX P w outer H s E e s'') (X := (cxOf (L2.CX P w) P w K mg base ["_law_state", "_law_many", "_law_letters", "_law_found", "_law_k", "_law_word", "_law_near", "_law_letter", "_law_one"] "_law_steps" (defScope s__law_steps) f cdv A outer s H E)) rfl
    have hx : Passes (L2.CX P w) (cxOf (L2.CX P w) P w K mg base ["_law_state", "_law_many", "_law_letters", "_law_found", "_law_k", "_law_word", "_law_near", "_law_letter", "_law_one"] "_law_steps" (defScope s__law_steps) f cdv A outer s H E) E := passes_call (takes_of rfl rfl rfl rfl) fun _ _ _ _ h => h
    have tk : Takes (cxOf (L2.CX P w) P w K mg base ["_law_state", "_law_many", "_law_letters", "_law_found", "_law_k", "_law_word", "_law_near", "_law_letter", "_law_one"] "_law_steps" (defScope s__law_steps) f cdv A outer s H E) fun cls d _ H => E cls d H := takes_of rfl rfl rfl rfl
    exact (pds_cons (pd_parU 2 3 (px_fz pv_str) (px_ow (pf_lst pas_nil)) rfl sc.nd rfl rfl (by decide) (by first | exact Or.inl rfl | exact Or.inr rfl) (by first | exact Or.inl rfl | exact Or.inr rfl)) (pds_cons (pd_for hp rfl (pit_range1 (by rfl) TX.n_range (pvv 1)) (pgt_name 4 sc.nd rfl (Or.inl rfl)) (pds_cons (pd_set 5 (px_fz (pv_slice ((pv_call D__law_step hr hgd (by omega) (by rfl) hx (pas_cons (pvv 0) pas_nil))).sh pp_none (pp_some pv_int))) sc.nd rfl (by first | exact Or.inl rfl | exact Or.inr rfl)) (pds_cons (pd_set 6 (px_fz (pv_add ((pf_lst (pas_cons (pvv 5) pas_nil))).sh ((pf_lc (own := [("_law_letter", 7)]) (is := [7]) rfl sc.nd (pit_seq (pvv 2)) (blkOk_by (N := ["_law_state", "_law_many", "_law_letters", "_law_found", "_law_k", "_law_word", "_law_near", "_law_letter", "_law_one"]) (sc := defScope s__law_steps) (by decide +kernel)) ⟨fun _ _ _ _ _ => (pgt_name 7 sc.nd rfl (Or.inl rfl)), fun _ _ _ _ _ => pts_nilM, fun _ _ _ _ _ => (pv_add ((pv_slice ((pvv 5)).sh pp_none (pp_some pv_int))).sh ((pvv 7)).sh)⟩ (by decide))).sh)) sc.nd rfl (by first | exact Or.inl rfl | exact Or.inr rfl)) (pds_one (pd_append 3 (pv_ix ((pf_lc (own := [("_law_one", 8)]) (is := [8]) rfl sc.nd (pit_seq (pvv 6)) (blkOk_by (N := ["_law_state", "_law_many", "_law_letters", "_law_found", "_law_k", "_law_word", "_law_near", "_law_letter", "_law_one"]) (sc := defScope s__law_steps) (by decide +kernel)) ⟨fun _ _ _ _ _ => (pgt_name 8 sc.nd rfl (Or.inl rfl)), fun _ _ _ _ _ => (pts_oneM (pb_notIn hu ((pvv 8)).sh (pvvS 3))), fun _ _ _ _ _ => (pvv 8)⟩ (by decide))).sh (pv_int).sh) rfl (by first | exact Or.inl rfl | exact Or.inr (Or.inl rfl) | exact Or.inr (Or.inr rfl)) rfl rfl (fun h => pe_bm PySem.F.plainAttrs_list PySem.F.slot_list_append PySem.F.type_list_append mt_append (L2.pv 3) (pa_cons h pa_nil))))))) (pds_one (pd_frz 3 (pd_ret (pvv 3))))))

abbrev s__law_odd : Stmt := top 28
theorem sc__law_odd : FnScope ["_law_state", "_law_some"] ["_law_state"] (defScope s__law_odd) := ⟨rfl, rfl, rfl, by decide +kernel, rfl, by decide +kernel, by decide +kernel⟩
noncomputable def g__law_odd (c : Cs) : Rho → M Dr Fl := (seqD (dSet 1 (xFz (asL (fLst (aCons (fC .non) (aCons (fC (.bl true)) (aCons (fC (.bl false)) (aCons (fC (.int 0)) (aCons (f1 negT (fC (.int 1))) (aCons (f2 powT (fC (.int 10)) (fC (.int 30))) (aCons (fC (.str "")) (aCons (fC (.str "A1")) (aCons (fC (.str "a b")) (aCons (fC (.str "sevenab")) (aCons (fC (.str "SEVENAB")) (aCons (fC (.str "aB")) (aCons (fC (.str "(")) (aCons (fC (.str "*")) (aCons (fTup aNil) (aCons (asL (fLst aNil)) (aCons (fC (.dct [] [])) aNil))))))))))))))))))))) (dRet (fCall 2 (aCons (fVar 0) (aCons (f2 addT (fVar 1) (asL (fLst (aCons (asL (fLst (aCons (fC (.str "a")) aNil))) (aCons (fTup (aCons (fC (.str "a")) aNil)) (aCons (fTup (aCons (fC (.str "a")) (aCons (fC (.str "b")) aNil))) (aCons (fC (.dct [.inr "a"] [.str "b"])) (aCons (fC (.str "a >")) (aCons (fC (.str "a\tb")) (aCons (fC (.str "a\n")) (aCons (fC (.str "1")) (aCons (fC (.str "_")) aNil)))))))))))) aNil)) (F__law_pick c))))
noncomputable def F__law_odd (c : Cs) : List T → M Dr T := run 1 (g__law_odd c)
theorem ok__law_odd {P : Program} {w : World} {K : PySem.W.Frag} {mg : Str → Option Value} {base : Heap} {c : Cs} (TX : Txt K mg c) (D : DefAt K mg "_law_odd" s__law_odd) (D__law_pick : DefOk (L2.CX P w) P w K mg base 2 "_law_pick" 2 ((F__law_pick c) : List T → M Dr T)) : DefOk (L2.CX P w) P w K mg base 3 "_law_odd" 1 (F__law_odd c : List T → M Dr T) := by
  refine def_ok (k := 2) D sc__law_odd rfl rfl (fun _ _ _ _ _ _ us hl => match us, hl with | [_], _ => rfl) fun f cdv A outer s H E G hr hgd => ?_
  · show PDs _ G E (defBody s__law_odd) (g__law_odd c)
    have hu := hu200 hr
    have hu1 := hu_of hr
    have sc := sc__law_odd
    have hp : PassesOwn _ _ _ _ := passes_of (K := fun e s'' => L2.CX P w outer H s E e s'') (X := (cxOf (L2.CX P w) P w K mg base ["_law_state", "_law_some"] "_law_odd" (defScope s__law_odd) f cdv A outer s H E)) rfl
    have hx : Passes (L2.CX P w) (cxOf (L2.CX P w) P w K mg base ["_law_state", "_law_some"] "_law_odd" (defScope s__law_odd) f cdv A outer s H E) E := passes_call (takes_of rfl rfl rfl rfl) fun _ _ _ _ h => h
    have tk : Takes (cxOf (L2.CX P w) P w K mg base ["_law_state", "_law_some"] "_law_odd" (defScope s__law_odd) f cdv A outer s H E) fun cls d _ H => E cls d H := takes_of rfl rfl rfl rfl
    exact (pds_cons (pd_set 1 (px_fz ((pf_lst (pas_cons pv_non (pas_cons pv_bl (pas_cons pv_bl (pas_cons pv_int (pas_cons (pv_neg pv_int) (pas_cons (pv_pow (pv_int).sh (pv_int).sh) (pas_cons pv_str (pas_cons pv_str (pas_cons pv_str (pas_cons pv_str (pas_cons pv_str (pas_cons pv_str (pas_cons pv_str (pas_cons pv_str (pas_cons (pv_tup pas_nil) (pas_cons ((pf_lst pas_nil)).dp (pas_cons pv_dct0 pas_nil))))))))))))))))))).dp) sc.nd rfl (by first | exact Or.inl rfl | exact Or.inr rfl)) (pds_one (pd_ret (pv_call D__law_pick hr hgd (by omega) (by rfl) hx (pas_cons (pvv 0) (pas_cons (pv_add ((pvv 1)).sh ((pf_lst (pas_cons ((pf_lst (pas_cons pv_str pas_nil))).dp (pas_cons (pv_tup (pas_cons pv_str pas_nil)) (pas_cons (pv_tup (pas_cons pv_str (pas_cons pv_str pas_nil))) (pas_cons pv_dct1 (pas_cons pv_str (pas_cons pv_str (pas_cons pv_str (pas_cons pv_str (pas_cons pv_str pas_nil))))))))))).sh) pas_nil))))))

abbrev s__law_bent : Stmt := top 29
theorem sc__law_bent : FnScope ["_law_state", "_law_text", "_law_way", "_law_at", "_law_sign", "_law_lines"] ["_law_state", "_law_text"] (defScope s__law_bent) := ⟨rfl, rfl, rfl, by decide +kernel, rfl, by decide +kernel, by decide +kernel⟩
noncomputable def g__law_bent (c : Cs) : Rho → M Dr Fl := (seqD (dPar 2 3 (xFz (fCall 2 (aCons (fVar 0) (aCons (fC (.int 5)) aNil)) (F__law_draw c))) (xFz (fCall 2 (aCons (fVar 0) (aCons (f2 addT (f1 lenT (fVar 1)) (fC (.int 1))) aNil)) (F__law_draw c)))) (seqD (dSet 4 (xFz (fCall 2 (aCons (fVar 0) (aCons (f2 addT (asL (f1l itemsS (fC (.str "ab 1\nA")))) (asL (fLst (aCons (fC (.str "  ")) (aCons (fC (.str " a")) (aCons (fC (.str "\n\n")) (aCons (fC (.str "\t")) (aCons (fC (.str "abcdefg")) aNil)))))))) aNil)) (F__law_pick c)))) (seqD (dIf (fB (f2 (ltT fun i j => decide (i < j)) (fVar 2) (fC (.int 3)))) (dRet (f2 ixT (asL (fLst (aCons (f2 addT (f2 addT (fSlice (fVar 1) fNoPart (fPart (fVar 3))) (fVar 4)) (fSlice (fVar 1) (fPart (fVar 3)) fNoPart)) (aCons (f2 addT (f2 addT (fSlice (fVar 1) fNoPart (fPart (fVar 3))) (fVar 4)) (fSlice (fVar 1) (fPart (f2 addT (fVar 3) (fC (.int 1)))) fNoPart)) (aCons (f2 addT (fSlice (fVar 1) fNoPart (fPart (fVar 3))) (fSlice (fVar 1) (fPart (f2 addT (fVar 3) (fC (.int 1)))) fNoPart)) aNil))))) (fVar 2))) (fun ρ => ret (.nx ρ))) (seqD (dSet 5 (xFz (asL (fM1l splitT (fVar 1) (fC (.str "\n")))))) (seqD (dSet 3 (xFz (fCall 2 (aCons (fVar 0) (aCons (f1 lenT (fVar 5)) aNil)) (F__law_draw c)))) (dRet (fM1 joinT (fC (.str "\n")) (fIf (fB (f2 (eqT false) (fVar 2) (fC (.int 3)))) (f2 addT (fSlice (fVar 5) fNoPart (fPart (fVar 3))) (fSlice (fVar 5) (fPart (f2 addT (fVar 3) (fC (.int 1)))) fNoPart)) (f2 addT (f2 addT (fSlice (fVar 5) fNoPart (fPart (fVar 3))) (asL (fLst (aCons (fCall 2 (aCons (fVar 0) (aCons (fVar 5) aNil)) (F__law_pick c)) aNil)))) (fSlice (fVar 5) (fPart (fVar 3)) fNoPart))))))))))
noncomputable def F__law_bent (c : Cs) : List T → M Dr T := run 4 (g__law_bent c)
theorem ok__law_bent {P : Program} {w : World} {K : PySem.W.Frag} {mg : Str → Option Value} {base : Heap} {c : Cs} (TX : Txt K mg c) (D : DefAt K mg "_law_bent" s__law_bent) (D__law_draw : DefOk (L2.CX P w) P w K mg base 1 "_law_draw" 2 ((F__law_draw c) : List T → M Dr T)) (D__law_pick : DefOk (L2.CX P w) P w K mg base 2 "_law_pick" 2 ((F__law_pick c) : List T → M Dr T)) : DefOk (L2.CX P w) P w K mg base 3 "_law_bent" 2 (F__law_bent c : List T → M Dr T) := by
  refine def_ok (k := 2) D sc__law_bent rfl rfl (fun _ _ _ _ _ _ us hl => match us, hl with | [_, _], _ => rfl) fun f cdv A outer s H E G hr hgd => ?_
  · show PDs _ G E (defBody s__law_bent) (g__law_bent c)
    have hu := hu200 hr
    have hu1 := hu_of hr
    have sc := sc__law_bent
    have hp : PassesOwn _ _ _ _ := passes_of (K := fun e s'' => L2.CX P w outer H s E e s'') (X := (cxOf (L2.CX P w) P w K mg base ["_law_state", "_law_text", "_law_way", "_law_at", "_law_sign", "_law_lines"] "_law_bent" (defScope s__law_bent) f cdv A outer s H E)) rfl
    have hx : Passes (L2.CX P w) (cxOf (L2.CX P w) P w K mg base ["_law_state", "_law_text", "_law_way", "_law_at", "_law_sign", "_law_lines"] "_law_bent" (defScope s__law_bent) f cdv A outer s H E) E := passes_call (takes_of rfl rfl rfl rfl) fun _ _ _ _ h => h
    have tk : Takes (cxOf (L2.CX P w) P w K mg base ["_law_state", "_law_text", "_law_way", "_law_at", "_law_sign", "_law_lines"] "_law_bent" (defScope s__law_bent) f cdv A outer s H E) fun cls d _ H => E cls d H := takes_of rfl rfl rfl rfl
    exact (pds_cons (pd_par 2 3 (px_fz (pv_call D__law_draw hr hgd (by omega) (by rfl) hx (pas_cons (pvv 0) (pas_cons pv_int pas_nil)))) (px_fz (pv_call D__law_draw hr hgd (by omega) (by rfl) hx (pas_cons (pvv 0) (pas_cons (pv_add ((pv_b1 call_lenA lenG (by rfl) TX.n_len PySem.boot_len ((pvv 1)).sh)).sh (pv_int).sh) pas_nil)))) rfl sc.nd rfl rfl (by decide) rfl rfl rfl) (pds_cons (pd_set 4 (px_fz (pv_call D__law_pick hr hgd (by omega) (by rfl) hx (pas_cons (pvv 0) (pas_cons (pv_add ((pf_t1 (call_listS rfl) lstSG (by rfl) TX.n_list boot_list (pv_str).sh)).sh ((pf_lst (pas_cons pv_str (pas_cons pv_str (pas_cons pv_str (pas_cons pv_str (pas_cons pv_str pas_nil))))))).sh) pas_nil)))) sc.nd rfl (by first | exact Or.inl rfl | exact Or.inr rfl)) (pds_cons (pd_if (pb_lt ((pvv 2)).sh (pv_int).sh) (pds_one (pd_ret (pv_ix ((pf_lst (pas_cons (pv_add ((pv_add ((pv_slice ((pvv 1)).sh pp_none (pp_some (pvv 3)))).sh ((pvv 4)).sh)).sh ((pv_slice ((pvv 1)).sh (pp_some (pvv 3)) pp_none)).sh) (pas_cons (pv_add ((pv_add ((pv_slice ((pvv 1)).sh pp_none (pp_some (pvv 3)))).sh ((pvv 4)).sh)).sh ((pv_slice ((pvv 1)).sh (pp_some (pv_add ((pvv 3)).sh (pv_int).sh)) pp_none)).sh) (pas_cons (pv_add ((pv_slice ((pvv 1)).sh pp_none (pp_some (pvv 3)))).sh ((pv_slice ((pvv 1)).sh (pp_some (pv_add ((pvv 3)).sh (pv_int).sh)) pp_none)).sh) pas_nil))))).sh ((pvv 2)).sh))) pds_nil) (pds_cons (pd_set 5 (px_fz ((pf_split ((pvv 1)).sh (pv_str).sh)).dp) sc.nd rfl (by first | exact Or.inl rfl | exact Or.inr rfl)) (pds_cons (pd_set 3 (px_fz (pv_call D__law_draw hr hgd (by omega) (by rfl) hx (pas_cons (pvv 0) (pas_cons (pv_b1 call_lenA lenG (by rfl) TX.n_len PySem.boot_len ((pvv 5)).sh) pas_nil)))) sc.nd rfl (by first | exact Or.inl rfl | exact Or.inr rfl)) (pds_one (pd_ret (pv_join (pv_str).sh ((pv_if (pb_eq hu ((pvv 2)).sh (pv_int).sh) (pv_add ((pv_slice ((pvv 5)).sh pp_none (pp_some (pvv 3)))).sh ((pv_slice ((pvv 5)).sh (pp_some (pv_add ((pvv 3)).sh (pv_int).sh)) pp_none)).sh) (pv_add ((pv_add ((pv_slice ((pvv 5)).sh pp_none (pp_some (pvv 3)))).sh ((pf_lst (pas_cons (pv_call D__law_pick hr hgd (by omega) (by rfl) hx (pas_cons (pvv 0) (pas_cons (pvv 5) pas_nil))) pas_nil))).sh)).sh ((pv_slice ((pvv 5)).sh (pp_some (pvv 3)) pp_none)).sh))).sh))))))))

abbrev s__law_is_full : Stmt := top 30
theorem sc__law_is_full : FnScope ["_law_row", "_law_small", "_law_step_here", "_law_sign"] ["_law_row"] (defScope s__law_is_full) := ⟨rfl, rfl, rfl, by decide +kernel, rfl, by decide +kernel, by decide +kernel⟩
noncomputable def g__law_is_full {W : Type} (c : Cs) : Rho → M W Fl := (seqD (dSet 1 (xFz (fC (.str "abcdefghijklmnopqrstuvwxyz")))) (seqD (dIf (bOr (bNot (fB (f1 (isaT "tuple") (fVar 0)))) (bOr (fB (f2 (eqE false) (fVar 0) (fTup aNil))) (fB (f2 (eqE true) (asL (fLc (fItems (fVar 0)) [2] (gN 2) (bNot (fB (f1 (isaT "str") (fVar 2)))) (fVar 2))) (asL (fLst aNil)))))) (dRet (fC (.bl false))) (fun ρ => ret (.nx ρ))) (dRet (f2 (eqE false) (asL (fLc (fItems (fVar 0)) [2] (gN 2) (bOr (bNot (fB (fChain (ltT fun i j => decide (i ≤ j)) (ltT fun i j => decide (i ≤ j)) (fC (.int 1)) (f1 lenT (fVar 2)) (fC (.int 6))))) (fB (f2 (eqE true) (asL (fLc (fItems (fVar 2)) [3] (gN 3) (fB (f2 (inT true) (fVar 3) (fVar 1))) (fVar 3))) (asL (fLst aNil))))) (fVar 2))) (asL (fLst aNil))))))
noncomputable def F__law_is_full {W : Type} (c : Cs) : List T → M W T := run 3 (g__law_is_full c)
theorem ok__law_is_full {P : Program} {w : World} {K : PySem.W.Frag} {mg : Str → Option Value} {base : Heap} {c : Cs} {W : Type} (TX : Txt K mg c) (D : DefAt K mg "_law_is_full" s__law_is_full)  : DefOk (L2.CX P w) P w K mg base 1 "_law_is_full" 1 (F__law_is_full c : List T → M W T) := by
  refine def_ok (k := 0) D sc__law_is_full rfl rfl (fun _ _ _ _ _ _ us hl => match us, hl with | [_], _ => rfl) fun f cdv A outer s H E G hr hgd => ?_
  · show PDs _ G E (defBody s__law_is_full) (g__law_is_full c)
    have hu := hu200 hr
    have hu1 := hu_of hr
    have sc := sc__law_is_full
    have hp : PassesOwn _ _ _ _ := passes_of (K := fun e s'' => L2.CX P w outer H s E e s'') (X := (cxOf (L2.CX P w) P w K mg base ["_law_row", "_law_small", "_law_step_here", "_law_sign"] "_law_is_full" (defScope s__law_is_full) f cdv A outer s H E)) rfl
    have hx : Passes (L2.CX P w) (cxOf (L2.CX P w) P w K mg base ["_law_row", "_law_small", "_law_step_here", "_law_sign"] "_law_is_full" (defScope s__law_is_full) f cdv A outer s H E) E := passes_call (takes_of rfl rfl rfl rfl) fun _ _ _ _ h => h
    have tk : Takes (cxOf (L2.CX P w) P w K mg base ["_law_row", "_law_small", "_law_step_here", "_law_sign"] "_law_is_full" (defScope s__law_is_full) f cdv A outer s H E) fun cls d _ H => E cls d H := takes_of rfl rfl rfl rfl
    exact (pds_cons (pd_set 1 (px_fz pv_str) sc.nd rfl (by first | exact Or.inl rfl | exact Or.inr rfl)) (pds_cons (pd_if (pbw_or (pb_not (pb_val (pv_isa (by rfl) TX.n_isinstance (by rfl) TX.n_tuple (by decide +kernel) ((pvv 0)).sh))) (pbw_or (pb_eqE hu ((pvv 0)).sh ((pv_tup pas_nil)).sh) (pbw_or1 (pb_neE hu ((pf_lc (own := [("_law_step_here", 2)]) (is := [2]) rfl sc.nd (pit_seq (pvv 0)) (blkOk_by (N := ["_law_row", "_law_small", "_law_step_here", "_law_sign"]) (sc := defScope s__law_is_full) (by decide +kernel)) ⟨fun _ _ _ _ _ => (pgt_name 2 sc.nd rfl (Or.inl rfl)), fun _ _ _ _ _ => (pts_oneM (pb_not (pb_val (pv_isa (by rfl) TX.n_isinstance (by rfl) TX.n_str (by decide +kernel) ((pvv 2)).sh)))), fun _ _ _ _ _ => (pvv 2)⟩ (by decide))).sh ((pf_lst pas_nil)).sh)))).pb (pds_one (pd_ret pv_bl)) pds_nil) (pds_one (pd_ret (pv_eqE hu ((pf_lc (own := [("_law_step_here", 2)]) (is := [2]) rfl sc.nd (pit_seq (pvv 0)) (blkOk_by (N := ["_law_row", "_law_small", "_law_step_here", "_law_sign"]) (sc := defScope s__law_is_full) (by decide +kernel)) ⟨fun _ _ _ _ _ => (pgt_name 2 sc.nd rfl (Or.inl rfl)), fun _ _ _ _ _ => (pts_oneM (pbw_or (pb_not (pb_chain op_le op_le cmpG cmpG (pv_int).sh ((pv_b1 call_lenA lenG (by rfl) TX.n_len PySem.boot_len ((pvv 2)).sh)).sh (pv_int).sh)) (pbw_or1 (pb_neE hu ((pf_lc (own := [("_law_sign", 3)]) (is := [3]) rfl sc.nd (pit_seq (pvv 2)) (blkOk_by (N := ["_law_row", "_law_small", "_law_step_here", "_law_sign"]) (sc := _) (by rfl)) ⟨fun _ _ _ _ _ => (pgt_name 3 sc.nd rfl (Or.inl rfl)), fun _ _ _ _ _ => (pts_oneM (pb_notIn hu ((pvv 3)).sh ((pvv 1)).sh)), fun _ _ _ _ _ => (pvv 3)⟩ (by decide))).sh ((pf_lst pas_nil)).sh))).pb), fun _ _ _ _ _ => (pvv 2)⟩ (by decide))).sh ((pf_lst pas_nil)).sh)))))

abbrev s__law_due : Stmt := top 33
theorem sc__law_due : FnScope ["_law_log", "_law_at", "_law_row"] ["_law_log"] (defScope s__law_due) := ⟨rfl, rfl, rfl, by decide +kernel, rfl, by decide +kernel, by decide +kernel⟩
noncomputable def g__law_due {W : Type} (c : Cs) : Rho → M W Fl := (seqD (dIf (bOr (bNot (fB (f1 (isaTT "list" "tuple") (fVar 0)))) (fB (f2 (eqT false) (f1 lenT (fVar 0)) (fC (.int 0))))) (dRet (fC (.int 0))) (fun ρ => ret (.nx ρ))) (dRet (f2 ixT (f2 addT (asL (fLc (fEnum (fVar 0)) [1, 2] (gT2 1 2) (bNot (fB (fCall 1 (aCons (fVar 2) aNil) (F__law_is_full c)))) (fVar 1))) (asL (fLst (aCons (fC .non) aNil)))) (fC (.int 0)))))
noncomputable def F__law_due {W : Type} (c : Cs) : List T → M W T := run 2 (g__law_due c)
theorem ok__law_due {P : Program} {w : World} {K : PySem.W.Frag} {mg : Str → Option Value} {base : Heap} {c : Cs} {W : Type} (TX : Txt K mg c) (D : DefAt K mg "_law_due" s__law_due) (D__law_is_full : DefOk (L2.CX P w) P w K mg base 1 "_law_is_full" 1 ((F__law_is_full c) : List T → M W T)) : DefOk (L2.CX P w) P w K mg base 2 "_law_due" 1 (F__law_due c : List T → M W T) := by
  refine def_ok (k := 1) D sc__law_due rfl rfl (fun _ _ _ _ _ _ us hl => match us, hl with | [_], _ => rfl) fun f cdv A outer s H E G hr hgd => ?_
  · show PDs _ G E (defBody s__law_due) (g__law_due c)
    have hu := hu200 hr
    have hu1 := hu_of hr
    have sc := sc__law_due
    have hp : PassesOwn _ _ _ _ := passes_of (K := fun e s'' => L2.CX P w outer H s E e s'') (X := (cxOf (L2.CX P w) P w K mg base ["_law_log", "_law_at", "_law_row"] "_law_due" (defScope s__law_due) f cdv A outer s H E)) rfl
    have hx : Passes (L2.CX P w) (cxOf (L2.CX P w) P w K mg base ["_law_log", "_law_at", "_law_row"] "_law_due" (defScope s__law_due) f cdv A outer s H E) E := passes_call (takes_of rfl rfl rfl rfl) fun _ _ _ _ h => h
    have tk : Takes (cxOf (L2.CX P w) P w K mg base ["_law_log", "_law_at", "_law_row"] "_law_due" (defScope s__law_due) f cdv A outer s H E) fun cls d _ H => E cls d H := takes_of rfl rfl rfl rfl
    exact (pds_cons (pd_if (pbw_or (pb_not (pb_val (pv_isaTT (by rfl) TX.n_isinstance (by rfl) TX.n_list (by decide +kernel) (by rfl) TX.n_tuple (by decide +kernel) ((pvv 0)).sh))) (pbw_or1 (pb_eq hu ((pv_b1 call_lenA lenG (by rfl) TX.n_len PySem.boot_len ((pvv 0)).sh)).sh (pv_int).sh))).pb (pds_one (pd_ret pv_int)) pds_nil) (pds_one (pd_ret (pv_ix ((pv_add ((pf_lc (own := [("_law_at", 1), ("_law_row", 2)]) (is := [1, 2]) rfl sc.nd (pit_enum (by rfl) TX.n_enumerate (pvv 0)) (blkOk_by (N := ["_law_log", "_law_at", "_law_row"]) (sc := defScope s__law_due) (by decide +kernel)) ⟨fun _ _ _ _ _ => (pgt_tup2 1 2 rfl sc.nd rfl rfl (by first | exact Or.inl rfl | exact Or.inr rfl) (by first | exact Or.inl rfl | exact Or.inr rfl)), fun _ _ _ _ _ => (pts_oneM (pb_not (pb_val (pv_call D__law_is_full hr hgd (by omega) (by rfl) passL (pas_cons (pvv 2) pas_nil))))), fun _ _ _ _ _ => (pvv 1)⟩ (by decide))).sh ((pf_lst (pas_cons pv_non pas_nil))).sh)).sh (pv_int).sh))))

theorem sc__law_right : FnScope ["_law_text", "_law_rows", "_law_line", "_law_is_log", "_law_row", "_law_turn", "_law_found"] ["_law_text"] (defScope s__law_right) := ⟨rfl, rfl, rfl, by decide +kernel, rfl, by decide +kernel, by decide +kernel⟩
noncomputable def g__law_right {W : Type} (c : Cs) : Rho → M W Fl := (seqD (dSet 1 (xFz (fIf (fB (f2 (eqT false) (fSlice (fVar 0) (fPart (f1 negT (fC (.int 1)))) fNoPart) (fC (.str "\n")))) (asL (fLc (fItems (asL (fM1l splitT (fSlice (fVar 0) fNoPart (fPart (f1 negT (fC (.int 1))))) (fC (.str "\n"))))) [2] (gN 2) tYesM (f1 tupT (asL (fM1l splitT (fVar 2) (fC (.str " "))))))) (asL (fLst (aCons (fTup aNil) aNil)))))) (seqD (dSet 3 (xFz (f2 (eqT false) (asL (fLc (fItems (fVar 1)) [4] (gN 4) (bNot (fB (fCall 1 (aCons (fVar 4) aNil) (F__law_is_full c)))) (fVar 4))) (asL (fLst aNil))))) (seqD (dFor (fRange1 (fC (.int 2))) (gN 5) (dIf (fB (f2 (eqT true) (fRef (kn__law_refused c) (kd__law_refused c) (asL (fCallL 1 (aCons (fVar 0) aNil) (F_read_log c)))) (f2 ixT (asL (fLst (aCons (fC (.str "text")) (aCons (fC (.str "none")) aNil)))) (f1 toInt (fVar 3))))) (dRet (fC (.bl false))) (fun ρ => ret (.nx ρ)))) (seqD (dIf (bNot (fB (fVar 3))) (dRet (fC (.bl true))) (fun ρ => ret (.nx ρ))) (seqD (dSet 6 (xOw (fCallL 1 (aCons (fVar 0) aNil) (F_read_log c)))) (seqD (dIf (bOr (bNot (fB (f1 (isaT "list") (fVarS 6)))) (bOr (fB (f2 (eqT true) (fVarS 6) (fVar 1))) (fB (f2 (eqT true) (fView 6 (fCall 1 (aCons (fVar 6) aNil) (F_log_text c))) (fVar 0))))) (dRet (fC (.bl false))) (fun ρ => ret (.nx ρ))) (seqD (dAppend 6 (fC .non)) (dRet (f2 (eqT false) (asL (fCallL 1 (aCons (fVar 0) aNil) (F_read_log c))) (fVar 1))))))))))
noncomputable def F__law_right {W : Type} (c : Cs) : List T → M W T := run 6 (g__law_right c)
theorem ok__law_right {P : Program} {w : World} {K : PySem.W.Frag} {mg : Str → Option Value} {base : Heap} {c : Cs} {W : Type} (TX : Txt K mg c) (D : DefAtC K mg "_law_right" s__law_right c.code__law_right) (D__law_is_full : DefOk (L2.CX P w) P w K mg base 1 "_law_is_full" 1 ((F__law_is_full c) : List T → M W T)) (D_read_log : DefOkL (L2.CX P w) P w K mg base 3 "read_log" 1 ((F_read_log c) : List T → M W (List T))) (D_log_text : DefOk (L2.CX P w) P w K mg base 4 "log_text" 1 ((F_log_text c) : List T → M W T)) (TK : Txk K c) (H__law_refused : ∃ fd, Fun K "_law_refused" "_law_refused" s__law_refused c._law_refused fd) (TB__law_right : TabB base mg c.code__law_right c.tab__law_right) : DefOkT P w K mg base (Ts c) 6 "_law_right" 1 (F__law_right c : List T → M W T) := by
  refine def_okT (k := 5) D sc__law_right rfl rfl (fun _ _ _ _ _ _ us hl => match us, hl with | [_], _ => rfl) fun f A outer s H E G hC hr hgd => ?_
  · show PDs _ G E (defBody s__law_right) (g__law_right c)
    have hu := hu200 hr
    have hu1 := hu_of hr
    have sc := sc__law_right
    have hp : PassesOwn _ _ _ _ := passes_of (K := fun e s'' => L2.CX P w outer H s E e s'') (X := (cxOf (L2.CX P w) P w K mg base ["_law_text", "_law_rows", "_law_line", "_law_is_log", "_law_row", "_law_turn", "_law_found"] "_law_right" (defScope s__law_right) f (.ref c.code__law_right) A outer s H E)) rfl
    have hx : Passes (L2.CX P w) (cxOf (L2.CX P w) P w K mg base ["_law_text", "_law_rows", "_law_line", "_law_is_log", "_law_row", "_law_turn", "_law_found"] "_law_right" (defScope s__law_right) f (.ref c.code__law_right) A outer s H E) E := passes_call (takes_of rfl rfl rfl rfl) fun _ _ _ _ h => h
    have tk : Takes (cxOf (L2.CX P w) P w K mg base ["_law_text", "_law_rows", "_law_line", "_law_is_log", "_law_row", "_law_turn", "_law_found"] "_law_right" (defScope s__law_right) f (.ref c.code__law_right) A outer s H E) fun cls d _ H => E cls d H := takes_of rfl rfl rfl rfl
    obtain ⟨fd__law_refused, FH__law_refused⟩ := H__law_refused
    have TO : TabOk G c.tab__law_right ((envOfC "_law_right" (defScope s__law_right) s.heap.objs.size f (.ref c.code__law_right)).qual ++ "<lambda>") := CW.tab (P := c.tab__law_right) (q := (envOfC "_law_right" (defScope s__law_right) 0 0 .none).qual ++ "<lambda>") hC (List.Mem.head _)
    exact (pds_cons (pd_set 1 (px_fz (pv_if (pb_eq hu ((pv_slice ((pvv 0)).sh (pp_some (pv_neg pv_int)) pp_none)).sh (pv_str).sh) ((pf_lc (own := [("_law_line", 2)]) (is := [2]) rfl sc.nd (pit_seq ((pf_split ((pv_slice ((pvv 0)).sh pp_none (pp_some (pv_neg pv_int)))).sh (pv_str).sh)).dp) (blkOk_by (N := ["_law_text", "_law_rows", "_law_line", "_law_is_log", "_law_row", "_law_turn", "_law_found"]) (sc := defScope s__law_right) (by decide +kernel)) ⟨fun _ _ _ _ _ => (pgt_name 2 sc.nd rfl (Or.inl rfl)), fun _ _ _ _ _ => pts_nilM, fun _ _ _ _ _ => (pv_t1 call_tuple_of tupG (by rfl) TX.n_tuple boot_tuple ((pf_split ((pvv 2)).sh (pv_str).sh)).sh)⟩ (by decide))).dp ((pf_lst (pas_cons (pv_tup pas_nil) pas_nil))).dp)) sc.nd rfl (by first | exact Or.inl rfl | exact Or.inr rfl)) (pds_cons (pd_set 3 (px_fz (pv_eq hu ((pf_lc (own := [("_law_row", 4)]) (is := [4]) rfl sc.nd (pit_seq (pvv 1)) (blkOk_by (N := ["_law_text", "_law_rows", "_law_line", "_law_is_log", "_law_row", "_law_turn", "_law_found"]) (sc := defScope s__law_right) (by decide +kernel)) ⟨fun _ _ _ _ _ => (pgt_name 4 sc.nd rfl (Or.inl rfl)), fun _ _ _ _ _ => (pts_oneM (pb_not (pb_val (pv_call D__law_is_full hr hgd (by omega) (by rfl) passL (pas_cons (pvv 4) pas_nil))))), fun _ _ _ _ _ => (pvv 4)⟩ (by decide))).sh ((pf_lst pas_nil)).sh)) sc.nd rfl (by first | exact Or.inl rfl | exact Or.inr rfl)) (pds_cons (pd_for hp rfl (pit_range1 (by rfl) TX.n_range pv_int) (pgt_name 5 sc.nd rfl (Or.inl rfl)) (pds_one (pd_if (pb_ne hu ((pv_refused (X := (cxOf (L2.CX P w) P w K mg base ["_law_text", "_law_rows", "_law_line", "_law_is_log", "_law_row", "_law_turn", "_law_found"] "_law_right" (defScope s__law_right) f (.ref c.code__law_right) A outer s H E)) (k := 3) (kok__law_refused TK hC.2) TO TX.m__law_refused FH__law_refused (FH__law_refused.binds (ps := ["_law_job"]) fun _ _ _ _ _ _ us hl => match us, hl with | [_], _ => rfl) sc__law_refused rfl (by first | exact Or.inl rfl | exact Or.inr (Or.inl rfl) | exact Or.inr (Or.inr rfl)) (gives__law_refused TX hr hgd) TB__law_right rfl (hr.mono (by omega)) hgd (by rfl) (lamS_by (sc := defScope s__law_right) (by decide +kernel)) rfl (fun _ _ _ _ _ => rfl) fun A outer s H E f c' G hgd hr => by have hu := hu200 hr; have hu1 := hu_of hr; exact ((pf_call D_read_log hr hgd (by omega) (by rfl) (passes_call (takes_of rfl rfl rfl rfl) fun _ _ _ _ h => h) (pas_cons (pvv 0) pas_nil))).dp)).sh ((pv_ix ((pf_lst (pas_cons pv_str (pas_cons pv_str pas_nil)))).sh ((pv_t1 call_int1 intCG (by rfl) TX.n_int boot_int ((pvv 3)).sh)).sh)).sh) (pds_one (pd_ret pv_bl)) pds_nil))) (pds_cons (pd_if (pb_not (pb_val (pvv 3))) (pds_one (pd_ret pv_bl)) pds_nil) (pds_cons (pd_set 6 (px_ow (pf_call D_read_log hr hgd (by omega) (by rfl) hx (pas_cons (pvv 0) pas_nil))) sc.nd rfl (by first | exact Or.inl rfl | exact Or.inr rfl)) (pds_cons (pd_if (pbw_or (pb_not (pb_val (pv_isa (by rfl) TX.n_isinstance (by rfl) TX.n_list (by decide +kernel) (pvvS 6)))) (pbw_or (pb_ne hu (pvvS 6) ((pvv 1)).sh) (pbw_or1 (pb_ne hu ((pv_view 6 (pv_call D_log_text hr hgd (by omega) (by rfl) passF (pas_cons (pvv 6) pas_nil)))).sh ((pvv 0)).sh)))).pb (pds_one (pd_ret pv_bl)) pds_nil) (pds_cons (pd_append 6 pv_non rfl (by first | exact Or.inl rfl | exact Or.inr (Or.inl rfl) | exact Or.inr (Or.inr rfl)) rfl rfl (fun h => pe_bm PySem.F.plainAttrs_list PySem.F.slot_list_append PySem.F.type_list_append mt_append (L2.pv 6) (pa_cons h pa_nil))) (pds_one (pd_ret (pv_eq hu ((pf_call D_read_log hr hgd (by omega) (by rfl) hx (pas_cons (pvv 0) pas_nil))).sh ((pvv 1)).sh))))))))))

theorem sc_law : FnScope ["_law_script", "_law_state", "_law_turn", "_law_steps_here", "_law_rows", "_law_k", "_law_row", "_law_spot", "_law_text", "_law_lap", "_law_bent_here", "_law_change", "_law_at", "_law_odd_here", "_law_more", "_law_wrong"] ["_law_script"] (defScope s_law) := ⟨rfl, rfl, rfl, by decide +kernel, rfl, by decide +kernel, by decide +kernel⟩
noncomputable def g_law (c : Cs) (sa : Addr) (sn : Nat) : Rho → M Dr Fl := (seqD (dFor (fRange1 (f2 addT (fC (.int 4)) (f2 min2T (fScr 0 sa sn) (fC (.int 6))))) (gN 2) (seqD (dPar 3 4 (xFz (fCall 2 (aCons (fVar 1) (aCons (f2 addT (fC (.int 1)) (fCall 2 (aCons (fVar 1) (aCons (fC (.int 12)) aNil)) (F__law_draw c))) aNil)) (F__law_steps c))) (xOw (fLst aNil))) (seqD (dFor (fRange1 (f2 addT (fC (.int 1)) (fCall 2 (aCons (fVar 1) (aCons (fC (.int 8)) aNil)) (F__law_draw c)))) (gN 5) (seqD (dSet 6 (xFz (f1 tupT (asL (fLc (fRange1 (f2 addT (fC (.int 1)) (fCall 2 (aCons (fVar 1) (aCons (fC (.int 12)) aNil)) (F__law_draw c)))) [7] (gN 7) tYesM (fCall 2 (aCons (fVar 1) (aCons (fVar 3) aNil)) (F__law_pick c))))))) (dAppend 4 (fCall 2 (aCons (fVar 1) (aCons (f2 addT (fVarS 4) (asL (fRepN 3 (fLst (aCons (fVar 6) aNil))))) aNil)) (F__law_pick c))))) (seqD (fun ρ => (dSet 8 (xFz (fM1 joinT (fC (.str "")) (asL (fLc (fItems (fVar 4)) [6] (gN 6) tYesM (f2 addT (fM1 joinT (fC (.str " ")) (fVar 6)) (fC (.str "\n")))))))) (frzAt 4 ρ)) (seqD (dIf (bOr (fB (f2 (eqT true) (fCall 1 (aCons (fVar 4) aNil) (F_log_text c)) (fVar 8))) (bOr (fB (f2 (eqT true) (fCall 1 (aCons (f1 tupT (fVar 4)) aNil) (F_log_text c)) (fVar 8))) (bNot (fB (fCall 1 (aCons (fVar 8) aNil) (F__law_right c)))))) (dRet (fC (.bl false))) (fun ρ => ret (.nx ρ))) (seqD (dFor (fRange1 (fC (.int 6))) (gN 9) (seqD (dSet 10 (xFz (fVar 8))) (seqD (dFor (fRange1 (f2 addT (fC (.int 1)) (fCall 2 (aCons (fVar 1) (aCons (fC (.int 3)) aNil)) (F__law_draw c)))) (gN 11) (dSet 10 (xFz (fCall 2 (aCons (fVar 1) (aCons (fVar 10) aNil)) (F__law_bent c))))) (dIf (bNot (fB (fCall 1 (aCons (fVar 10) aNil) (F__law_right c)))) (dRet (fC (.bl false))) (fun ρ => ret (.nx ρ)))))) (seqD (dPar 12 13 (xFz (fCall 2 (aCons (fVar 1) (aCons (f1 lenT (fVar 4)) aNil)) (F__law_draw c))) (xFz (fCall 1 (aCons (fVar 1) aNil) (F__law_odd c)))) (seqD (dSet 14 (xFz (fCall 2 (aCons (fVar 1) (aCons (asL (fLst (aCons (fTup aNil) (aCons (asL (f1l itemsT (f2 ixT (fVar 4) (fVar 12)))) (aCons (f2 addT (f2 ixT (fVar 4) (fVar 12)) (fTup (aCons (fVar 13) aNil))) (aCons (fTup (aCons (fVar 13) aNil)) (aCons (fVar 13) (aCons (fM1 joinT (fC (.str " ")) (f2 ixT (fVar 4) (fVar 12))) aNil)))))))) aNil)) (F__law_pick c)))) (seqD (dSet 15 (xFz (fCall 2 (aCons (fVar 1) (aCons (asL (fLst (aCons (f2 addT (f2 addT (fSlice (fVar 4) fNoPart (fPart (fVar 12))) (asL (fLst (aCons (fVar 14) aNil)))) (fSlice (fVar 4) (fPart (fVar 12)) fNoPart)) (aCons (f1 tupT (f2 addT (fSlice (fVar 4) fNoPart (fPart (fVar 12))) (asL (fLst (aCons (fVar 14) aNil))))) (aCons (asL (fLst aNil)) (aCons (fTup aNil) (aCons (fC .non) (aCons (fVar 8) (aCons (fVar 13) aNil))))))))) aNil)) (F__law_pick c)))) (seqD (dIf (fB (f2 (eqT true) (f1 reprT (fRef (kn__law_row_at c) (kd__law_row_at c) (fCall 1 (aCons (fVar 15) aNil) (F_log_text c)))) (f1 reprT (fCall 1 (aCons (fVar 15) aNil) (F__law_due c))))) (dRet (fC (.bl false))) (fun ρ => ret (.nx ρ))) (seqD (dSet 13 (xFz (fCall 2 (aCons (fVar 1) (aCons (asL (fLst (aCons (fC .non) (aCons (fC (.int 5)) (aCons (fC (.bl true)) (aCons (fVar 4) (aCons (f1 tupT (fVar 4)) (aCons (fC (.dct [] [])) (aCons (fC (.str "")) (aCons (fC (.str "\n")) (aCons (fSlice (fVar 8) fNoPart (fPart (f1 negT (fC (.int 1))))) aNil))))))))))) aNil)) (F__law_pick c)))) (dIf (fB (f2 (eqT true) (fRef (kn__law_refused c) (kd__law_refused c) (asL (fCallL 1 (aCons (fVar 13) aNil) (F_read_log c)))) (fC (.str "text")))) (dRet (fC (.bl false))) (fun ρ => ret (.nx ρ)))))))))))))) (dRet (fC (.bl true))))
theorem ok_lawrest {P : Program} {w : World} {K : PySem.W.Frag} {mg : Str → Option Value} {base : Heap} {c : Cs} (TX : Txt K mg c) (D__law_draw : DefOk (L2.CX P w) P w K mg base 1 "_law_draw" 2 ((F__law_draw c) : List T → M Dr T)) (D__law_steps : DefOk (L2.CX P w) P w K mg base 4 "_law_steps" 2 ((F__law_steps c) : List T → M Dr T)) (D__law_pick : DefOk (L2.CX P w) P w K mg base 2 "_law_pick" 2 ((F__law_pick c) : List T → M Dr T)) (D__law_right : DefOkT P w K mg base (Ts c) 6 "_law_right" 1 ((F__law_right c) : List T → M Dr T)) (D_log_text : DefOk (L2.CX P w) P w K mg base 4 "log_text" 1 ((F_log_text c) : List T → M Dr T)) (D__law_bent : DefOk (L2.CX P w) P w K mg base 3 "_law_bent" 2 ((F__law_bent c) : List T → M Dr T)) (D__law_odd : DefOk (L2.CX P w) P w K mg base 3 "_law_odd" 1 ((F__law_odd c) : List T → M Dr T)) (D__law_due : DefOk (L2.CX P w) P w K mg base 2 "_law_due" 1 ((F__law_due c) : List T → M Dr T)) (D_read_log : DefOkL (L2.CX P w) P w K mg base 3 "read_log" 1 ((F_read_log c) : List T → M Dr (List T))) (TK : Txk K c) (H__law_row_at : ∃ fd, Fun K "_law_row_at" "_law_row_at" s__law_row_at c._law_row_at fd) (H__law_refused : ∃ fd, Fun K "_law_refused" "_law_refused" s__law_refused c._law_refused fd) (TB_law : TabB base mg c.code_law c.tab_law)
  {f : Addr} {A : Around} {outer : List PySem.Env} {s : Shared} {H : Hp} {E : XK} {G : Gm Dr} (hC : CW (Ts c) G.O) (hr : Room 6 (A.deeper (envOfC "law" (defScope s_law) s.heap.objs.size f (.ref c.code_law)))) (hgd : (A.deeper (envOfC "law" (defScope s_law) s.heap.objs.size f (.ref c.code_law))).guards = some []) {sa : Addr} {sn : Nat} {svs : List V} (hS : ScrOk K G sa svs) (hn : svs.length = sn) :
  PDs (cxOf (L2.CX P w) P w K mg base ["_law_script", "_law_state", "_law_turn", "_law_steps_here", "_law_rows", "_law_k", "_law_row", "_law_spot", "_law_text", "_law_lap", "_law_bent_here", "_law_change", "_law_at", "_law_odd_here", "_law_more", "_law_wrong"] "law" (defScope s_law) f (.ref c.code_law) A outer s H E) G E (defBody s_law).tail (g_law c sa sn) := by
    have hu := hu200 hr
    have hu1 := hu_of hr
    have sc := sc_law
    have hp : PassesOwn _ _ _ _ := passes_of (K := fun e s'' => L2.CX P w outer H s E e s'') (X := (cxOf (L2.CX P w) P w K mg base ["_law_script", "_law_state", "_law_turn", "_law_steps_here", "_law_rows", "_law_k", "_law_row", "_law_spot", "_law_text", "_law_lap", "_law_bent_here", "_law_change", "_law_at", "_law_odd_here", "_law_more", "_law_wrong"] "law" (defScope s_law) f (.ref c.code_law) A outer s H E)) rfl
    have hx : Passes (L2.CX P w) (cxOf (L2.CX P w) P w K mg base ["_law_script", "_law_state", "_law_turn", "_law_steps_here", "_law_rows", "_law_k", "_law_row", "_law_spot", "_law_text", "_law_lap", "_law_bent_here", "_law_change", "_law_at", "_law_odd_here", "_law_more", "_law_wrong"] "law" (defScope s_law) f (.ref c.code_law) A outer s H E) E := passes_call (takes_of rfl rfl rfl rfl) fun _ _ _ _ h => h
    obtain ⟨fd__law_row_at, FH__law_row_at⟩ := H__law_row_at
    obtain ⟨fd__law_refused, FH__law_refused⟩ := H__law_refused
    have TO : TabOk G c.tab_law ((envOfC "law" (defScope s_law) s.heap.objs.size f (.ref c.code_law)).qual ++ "<lambda>") := CW.tab (P := c.tab_law) (q := (envOfC "law" (defScope s_law) 0 0 .none).qual ++ "<lambda>") hC (List.Mem.tail _ (List.Mem.head _))
    exact (pds_cons (pd_for hp rfl (pit_range1 (by rfl) TX.n_range (pv_add (pv_int).sh ((pv_min2 rfl (by rfl) TX.n_min (pv_scr 0 hS hn (L2.pv 0) (by rfl) TX.n_len) pv_int)).sh)) (pgt_name 2 sc.nd rfl (Or.inl rfl)) (pds_cons (pd_parU 3 4 (px_fz (pv_call D__law_steps hr hgd (by omega) (by rfl) hx (pas_cons (pvv 1) (pas_cons (pv_add (pv_int).sh ((pv_call D__law_draw hr hgd (by omega) (by rfl) hx (pas_cons (pvv 1) (pas_cons pv_int pas_nil)))).sh) pas_nil)))) (px_ow (pf_lst pas_nil)) rfl sc.nd rfl rfl (by decide) (by first | exact Or.inl rfl | exact Or.inr rfl) (by first | exact Or.inl rfl | exact Or.inr rfl)) (pds_cons (pd_for hp rfl (pit_range1 (by rfl) TX.n_range (pv_add (pv_int).sh ((pv_call D__law_draw hr hgd (by omega) (by rfl) hx (pas_cons (pvv 1) (pas_cons pv_int pas_nil)))).sh)) (pgt_name 5 sc.nd rfl (Or.inl rfl)) (pds_cons (pd_set 6 (px_fz (pv_t1 call_tuple_of tupG (by rfl) TX.n_tuple boot_tuple ((pf_lc (own := [("_law_spot", 7)]) (is := [7]) rfl sc.nd (pit_range1 (by rfl) TX.n_range (pv_add (pv_int).sh ((pv_call D__law_draw hr hgd (by omega) (by rfl) hx (pas_cons (pvv 1) (pas_cons pv_int pas_nil)))).sh)) (blkOk_by (N := ["_law_script", "_law_state", "_law_turn", "_law_steps_here", "_law_rows", "_law_k", "_law_row", "_law_spot", "_law_text", "_law_lap", "_law_bent_here", "_law_change", "_law_at", "_law_odd_here", "_law_more", "_law_wrong"]) (sc := defScope s_law) (by decide +kernel)) ⟨fun _ _ _ _ _ => (pgt_name 7 sc.nd rfl (Or.inl rfl)), fun _ _ _ _ _ => pts_nilM, fun _ _ _ _ _ => (pv_call D__law_pick hr hgd (by omega) (by rfl) passL (pas_cons (pvv 1) (pas_cons (pvv 3) pas_nil)))⟩ (by decide))).sh)) sc.nd rfl (by first | exact Or.inl rfl | exact Or.inr rfl)) (pds_one (pd_append 4 (pv_call D__law_pick hr hgd (by omega) (by rfl) hx (pas_cons (pvv 1) (pas_cons (pv_add (pvvS 4) ((pf_rep (k := 3) (by decide) (pf_lst (pas_cons (pvv 6) pas_nil)))).sh) pas_nil))) rfl (by first | exact Or.inl rfl | exact Or.inr (Or.inl rfl) | exact Or.inr (Or.inr rfl)) rfl rfl (fun h => pe_bm PySem.F.plainAttrs_list PySem.F.slot_list_append PySem.F.type_list_append mt_append (L2.pv 4) (pa_cons h pa_nil)))))) (pds_cons (pd_frz 4 (pd_set 8 (px_fz (pv_join (pv_str).sh ((pf_lc (own := [("_law_row", 6)]) (is := [6]) rfl sc.nd (pit_seq (pvv 4)) (blkOk_by (N := ["_law_script", "_law_state", "_law_turn", "_law_steps_here", "_law_rows", "_law_k", "_law_row", "_law_spot", "_law_text", "_law_lap", "_law_bent_here", "_law_change", "_law_at", "_law_odd_here", "_law_more", "_law_wrong"]) (sc := defScope s_law) (by decide +kernel)) ⟨fun _ _ _ _ _ => (pgt_name 6 sc.nd rfl (Or.inl rfl)), fun _ _ _ _ _ => pts_nilM, fun _ _ _ _ _ => (pv_add ((pv_join (pv_str).sh ((pvv 6)).sh)).sh (pv_str).sh)⟩ (by decide))).sh)) sc.nd rfl (by first | exact Or.inl rfl | exact Or.inr rfl))) (pds_cons (pd_if (pbw_or (pb_ne hu ((pv_call D_log_text hr hgd (by omega) (by rfl) hx (pas_cons (pvv 4) pas_nil))).sh ((pvv 8)).sh) (pbw_or (pb_ne hu ((pv_call D_log_text hr hgd (by omega) (by rfl) hx (pas_cons (pv_t1 call_tuple_of tupG (by rfl) TX.n_tuple boot_tuple ((pvv 4)).sh) pas_nil))).sh ((pvv 8)).sh) (pbw_or1 (pb_not (pb_val (pv_callT hC D__law_right hr hgd (by omega) (by rfl) hx (pas_cons (pvv 8) pas_nil))))))).pb (pds_one (pd_ret pv_bl)) pds_nil) (pds_cons (pd_for hp rfl (pit_range1 (by rfl) TX.n_range pv_int) (pgt_name 9 sc.nd rfl (Or.inl rfl)) (pds_cons (pd_set 10 (px_fz (pvv 8)) sc.nd rfl (by first | exact Or.inl rfl | exact Or.inr rfl)) (pds_cons (pd_for hp rfl (pit_range1 (by rfl) TX.n_range (pv_add (pv_int).sh ((pv_call D__law_draw hr hgd (by omega) (by rfl) hx (pas_cons (pvv 1) (pas_cons pv_int pas_nil)))).sh)) (pgt_name 11 sc.nd rfl (Or.inl rfl)) (pds_one (pd_set 10 (px_fz (pv_call D__law_bent hr hgd (by omega) (by rfl) hx (pas_cons (pvv 1) (pas_cons (pvv 10) pas_nil)))) sc.nd rfl (by first | exact Or.inl rfl | exact Or.inr rfl)))) (pds_one (pd_if (pb_not (pb_val (pv_callT hC D__law_right hr hgd (by omega) (by rfl) hx (pas_cons (pvv 10) pas_nil)))) (pds_one (pd_ret pv_bl)) pds_nil))))) (pds_cons (pd_parU 12 13 (px_fz (pv_call D__law_draw hr hgd (by omega) (by rfl) hx (pas_cons (pvv 1) (pas_cons (pv_b1 call_lenA lenG (by rfl) TX.n_len PySem.boot_len ((pvv 4)).sh) pas_nil)))) (px_fz (pv_call D__law_odd hr hgd (by omega) (by rfl) hx (pas_cons (pvv 1) pas_nil))) rfl sc.nd rfl rfl (by decide) (by first | exact Or.inl rfl | exact Or.inr rfl) (by first | exact Or.inl rfl | exact Or.inr rfl)) (pds_cons (pd_set 14 (px_fz (pv_call D__law_pick hr hgd (by omega) (by rfl) hx (pas_cons (pvv 1) (pas_cons ((pf_lst (pas_cons (pv_tup pas_nil) (pas_cons ((pf_t1 call_list_of lstG (by rfl) TX.n_list boot_list ((pv_ix ((pvv 4)).sh ((pvv 12)).sh)).sh)).dp (pas_cons (pv_add ((pv_ix ((pvv 4)).sh ((pvv 12)).sh)).sh ((pv_tup (pas_cons (pvv 13) pas_nil))).sh) (pas_cons (pv_tup (pas_cons (pvv 13) pas_nil)) (pas_cons (pvv 13) (pas_cons (pv_join (pv_str).sh ((pv_ix ((pvv 4)).sh ((pvv 12)).sh)).sh) pas_nil)))))))).dp pas_nil)))) sc.nd rfl (by first | exact Or.inl rfl | exact Or.inr rfl)) (pds_cons (pd_set 15 (px_fz (pv_call D__law_pick hr hgd (by omega) (by rfl) hx (pas_cons (pvv 1) (pas_cons ((pf_lst (pas_cons (pv_add ((pv_add ((pv_slice ((pvv 4)).sh pp_none (pp_some (pvv 12)))).sh ((pf_lst (pas_cons (pvv 14) pas_nil))).sh)).sh ((pv_slice ((pvv 4)).sh (pp_some (pvv 12)) pp_none)).sh) (pas_cons (pv_t1 call_tuple_of tupG (by rfl) TX.n_tuple boot_tuple ((pv_add ((pv_slice ((pvv 4)).sh pp_none (pp_some (pvv 12)))).sh ((pf_lst (pas_cons (pvv 14) pas_nil))).sh)).sh) (pas_cons ((pf_lst pas_nil)).dp (pas_cons (pv_tup pas_nil) (pas_cons pv_non (pas_cons (pvv 8) (pas_cons (pvv 13) pas_nil))))))))).dp pas_nil)))) sc.nd rfl (by first | exact Or.inl rfl | exact Or.inr rfl)) (pds_cons (pd_if (pb_ne hu ((pv_b1 (call_reprA hgd hu) reprG (by rfl) TX.n_repr boot_repr ((pv_refused (X := (cxOf (L2.CX P w) P w K mg base ["_law_script", "_law_state", "_law_turn", "_law_steps_here", "_law_rows", "_law_k", "_law_row", "_law_spot", "_law_text", "_law_lap", "_law_bent_here", "_law_change", "_law_at", "_law_odd_here", "_law_more", "_law_wrong"] "law" (defScope s_law) f (.ref c.code_law) A outer s H E)) (k := 4) (kok__law_row_at TK hC.2) TO TX.m__law_row_at FH__law_row_at (FH__law_row_at.binds (ps := ["_law_job"]) fun _ _ _ _ _ _ us hl => match us, hl with | [_], _ => rfl) sc__law_row_at rfl (by first | exact Or.inl rfl | exact Or.inr (Or.inl rfl) | exact Or.inr (Or.inr rfl)) (gives__law_row_at TX hr hgd) TB_law rfl (hr.mono (by omega)) hgd (by rfl) (lamS_by (sc := defScope s_law) (by decide +kernel)) rfl (fun _ _ _ _ _ => rfl) fun A outer s H E f c' G hgd hr => by have hu := hu200 hr; have hu1 := hu_of hr; exact (pv_call D_log_text hr hgd (by omega) (by rfl) (passes_call (takes_of rfl rfl rfl rfl) fun _ _ _ _ h => h) (pas_cons (pvv 15) pas_nil)))).sh)).sh ((pv_b1 (call_reprA hgd hu) reprG (by rfl) TX.n_repr boot_repr ((pv_call D__law_due hr hgd (by omega) (by rfl) hx (pas_cons (pvv 15) pas_nil))).sh)).sh) (pds_one (pd_ret pv_bl)) pds_nil) (pds_cons (pd_set 13 (px_fz (pv_call D__law_pick hr hgd (by omega) (by rfl) hx (pas_cons (pvv 1) (pas_cons ((pf_lst (pas_cons pv_non (pas_cons pv_int (pas_cons pv_bl (pas_cons (pvv 4) (pas_cons (pv_t1 call_tuple_of tupG (by rfl) TX.n_tuple boot_tuple ((pvv 4)).sh) (pas_cons pv_dct0 (pas_cons pv_str (pas_cons pv_str (pas_cons (pv_slice ((pvv 8)).sh pp_none (pp_some (pv_neg pv_int))) pas_nil))))))))))).dp pas_nil)))) sc.nd rfl (by first | exact Or.inl rfl | exact Or.inr rfl)) (pds_one (pd_if (pb_ne hu ((pv_refused (X := (cxOf (L2.CX P w) P w K mg base ["_law_script", "_law_state", "_law_turn", "_law_steps_here", "_law_rows", "_law_k", "_law_row", "_law_spot", "_law_text", "_law_lap", "_law_bent_here", "_law_change", "_law_at", "_law_odd_here", "_law_more", "_law_wrong"] "law" (defScope s_law) f (.ref c.code_law) A outer s H E)) (k := 4) (kok__law_refused TK hC.2) TO TX.m__law_refused FH__law_refused (FH__law_refused.binds (ps := ["_law_job"]) fun _ _ _ _ _ _ us hl => match us, hl with | [_], _ => rfl) sc__law_refused rfl (by first | exact Or.inl rfl | exact Or.inr (Or.inl rfl) | exact Or.inr (Or.inr rfl)) (gives__law_refused TX hr hgd) TB_law rfl (hr.mono (by omega)) hgd (by rfl) (lamS_by (sc := defScope s_law) (by decide +kernel)) rfl (fun _ _ _ _ _ => rfl) fun A outer s H E f c' G hgd hr => by have hu := hu200 hr; have hu1 := hu_of hr; exact ((pf_call D_read_log hr hgd (by omega) (by rfl) (passes_call (takes_of rfl rfl rfl rfl) fun _ _ _ _ h => h) (pas_cons (pvv 13) pas_nil))).dp)).sh (pv_str).sh) (pds_one (pd_ret pv_bl)) pds_nil))))))))))))) (pds_one (pd_ret pv_bl)))
end PL

set_option maxHeartbeats 4000000
namespace PL
open PySem PySem.Spec PyProof.Rows L2 Evl
def iabs (n : Int) : Int := if n < 0 then -n else n
def cells0 (ns : List Int) : List Int := ns.map iabs
def large0 (ns : List Int) : List Int := ((cells0 ns).filter fun n => decide ((10 : Int) ^ 18 ≤ n)).map fun n => n - 10 ^ 18
def w0 (d : Addr) (ns : List Int) : Dr := ⟨d, 0, 0, large0 ns, cells0 ns⟩
theorem range_get : ∀ xs : List Int, (List.range xs.length).map (fun i => xs.getD i 0) = xs := fun xs => by
  apply List.ext_getElem?
  intro i
  rw [List.getElem?_map]
  by_cases h : i < xs.length
  · rw [List.getElem?_range h, List.getElem?_eq_getElem h]
    simp [List.getD, h]
  · rw [List.getElem?_eq_none (by simpa using h), List.getElem?_eq_none (by simpa using h)]
    rfl
theorem given_ints (xs : List Int) (p : Int → Bool) (g : Int → Int) : given xs.length (fun i => p (xs.getD i 0)) (fun i => .int (g (xs.getD i 0))) = ((xs.filter p).map g).map V.int := by
  have h : ((((List.range xs.length).map fun i => xs.getD i 0).filter p).map g).map V.int = ((xs.filter p).map g).map V.int := congrArg (fun l => ((l.filter p).map g).map V.int) (range_get xs)
  rw [← h, List.filter_map, List.map_map, List.map_map]
  rfl
/-- what making the draws promises -/
def spB (K : PySem.W.Frag) : Sp := fun vs H Q _ => ∃ a ns, vs = [.ref a] ∧ SqL K H a (List.map V.int ns) ∧ ns.length ≤ 63 ∧
  ∀ d l c H', Ex H H' → H d = none → H l = none → H c = none → drOk d l c H' (w0 d ns) → Q (.ref d) H'
abbrev s_begin : Stmt := top 22
theorem sc_begin : FnScope ["_law_script", "_law_cells", "_law_cell"] ["_law_script"] (defScope s_begin) := ⟨rfl, rfl, rfl, by decide +kernel, rfl, by decide +kernel, by decide +kernel⟩
theorem getD_of {xs : List Int} {i : Nat} {x : V} (h : (xs.map V.int)[i]? = some x) : x = .int (xs.getD i 0) := by
  rw [List.getElem?_map] at h
  cases e : xs[i]? with
  | none => rw [e] at h; cases h
  | some y =>
    rw [e] at h
    cases h
    simp [List.getD, e]
theorem disp4 (l c : Addr) (d : Addr) (ns : List Int) : mergeK [] [((.inr "large" : Key), V.ref l), (.inr "cells", .ref c), (.inr "rest", .int 0), (.inr "turn", .int 0)] = (w0 d ns).dict l c := by
  have n1 := show ¬ (("large" : Str) = "cells") by decide +kernel
  have n2 := show ¬ (("large" : Str) = "rest") by decide +kernel
  have n3 := show ¬ (("cells" : Str) = "rest") by decide +kernel
  have n4 := show ¬ (("large" : Str) = "turn") by decide +kernel
  have n5 := show ¬ (("cells" : Str) = "turn") by decide +kernel
  have n6 := show ¬ (("rest" : Str) = "turn") by decide +kernel
  unfold mergeK Dr.dict w0
  simp [putK, n1, n2, n3, n4, n5, n6]
theorem tC_of {v : V} {σ : L2.St} {H : Hp} {Q : VK} (h : Q v H) : tC v σ H Q := h
theorem tP_of {tk tv : TE} {r : List (TE × TE)} {σ : L2.St} {H : Hp} {Q : List (V × V) → Hp → Prop} (h : tk σ H fun x H1 => tv σ H1 fun y H2 => tPairs r σ H2 fun ps H3 => Q ((x, y) :: ps) H3) : tPairs ((tk, tv) :: r) σ H Q := h
section
variable {P : Program} {w : World} {K : PySem.W.Frag} {mg : Str → Option Value} {base : Heap} {f : Addr} {fd : FuncData}
theorem ok_begin (hab : mg "abs" = none) (F : Fun K "_law_begin" "_law_begin" s_begin f fd) : FnOk P w K mg base (L2.CX P w) 1 f fd ["_law_script"] (spB K) := by
  refine F.okX sc_begin (fun vs H Q E h => ?_) fun cdv A outer s H vs Q E hr h => ?_
  · obtain ⟨a, ns, rfl, _⟩ := h
    rfl
  · obtain ⟨a, ns, rfl, hS, hl, k⟩ := h
    have sc := sc_begin
    refine ⟨_, pss_cons (ps_setLc (i := 1) (own := [("_law_cell", 2)]) rfl sc.nd rfl rfl (sw_true rfl rfl rfl (by decide +kernel)) (pi_list (pv 0)) (blkOk_by (N := ["_law_script", "_law_cells", "_law_cell"]) (sc := defScope s_begin) (by decide +kernel)) (fun _ _ _ _ _ => pg_name (i := 2) sc.nd rfl (Or.inl rfl)) (fun _ _ _ _ _ => pts_nil)
        (fun _ _ _ _ _ => pe_callB call_abs (by rfl) hab boot_abs (pa_cons (pv 2) pa_nil)))
      (pss_one (ps_ret (pe_disp (pps_cons pe_str (pe_lc (own := [("_law_cell", 2)]) rfl sc.nd (pi_list (pv 1)) (blkOk_by (N := ["_law_script", "_law_cells", "_law_cell"]) (sc := defScope s_begin) (by decide +kernel)) (fun _ _ _ _ _ => pg_name (i := 2) sc.nd rfl (Or.inl rfl)) (fun _ _ _ _ _ => pts_one (pt_cmpR op_ge (pv 2) (pe_op op_pow pe_int pe_int) (nomark _)))
        (fun _ _ _ _ _ => pe_op op_sub (pv 2) (pe_op op_pow pe_int pe_int))) (pps_cons pe_str (pv 1) (pps_cons pe_str pe_int (pps_cons pe_str pe_int pps_nil)))) rfl rfl (by decide) (by decide)))), ?_⟩
    -- the cells
    have hs0 : ∀ x : V, ([some (V.ref a), none, some x] : L2.St)[2]? = some (some x) := fun _ => rfl
    have ge : (18 : Int).toNat = 18 := rfl
    have e1 : EvL (tLc (iList K (tVar 0)) (gName 2) tYes (tCB (fun xs H Q => ∃ i, xs = [V.int i] ∧ Q (.int (if i < 0 then -i else i)) H) (tCons (tVar 2) tNil)) [2]) [some (.ref a), none, none] H ((cells0 ns).map V.int) := by
      have q := el_lcL (K := K) (H := H) (σ := [some (V.ref a), none, none]) (a := a) (xs := ns.map V.int) (tl := tVar 0) (j := 2) (vs := [2]) (t := tYes) (te := tCB (fun xs H Q => ∃ i, xs = [V.int i] ∧ Q (.int (if i < 0 then -i else i)) H) (tCons (tVar 2) tNil))
        (fun i => (fun _ => true) (ns.getD i 0)) (fun i => .int (iabs (ns.getD i 0))) (ev_var rfl) hS (by rw [List.length_map]; omega) (fun _ => rfl)
        (fun i x H1 _ hx H2 _ Q q => q H2 (Ex.refl H2)) (fun i x H1 _ hx _ H2 _ Q q => ⟨x, rfl, ns.getD i 0, by rw [getD_of hx], q H2 (Ex.refl H2)⟩)
      rw [List.length_map] at q
      have g := given_ints ns (fun _ => true) iabs
      rw [show (ns.filter fun _ => true) = ns from List.filter_eq_self.mpr fun _ _ => rfl] at g
      rw [g] at q
      exact q
    unfold tSeq tAsg
    refine e1 H (Ex.refl H) _ fun c H1 hc x1 h1 => ?_
    intro d hd
    have x2 : Ex H1 (upd H1 d (.dK [])) := Ex.new hd
    have ncd : c ≠ d := ne_of_none h1 hd
    have h1' : (upd H1 d (.dK [])) c = some (.lst ((cells0 ns).map V.int)) := by rw [upd_ne ncd]; exact h1
    have e2 : EvL (tLc (iList K (tVar 1)) (gName 2) (tTest (tOp (rI0 fun i j => .bl (decide (j ≤ i))) (tVar 2) (tOp (rI CPow fun i j => .int (i ^ j.toNat)) (tC (.int 10)) (tC (.int 18))))) (tOp (rI0 fun i j => .int (i - j)) (tVar 2) (tOp (rI CPow fun i j => .int (i ^ j.toNat)) (tC (.int 10)) (tC (.int 18)))) [2])
        [some (.ref a), some (.ref c), none] (upd H1 d (.dK [])) ((large0 ns).map V.int) := by
      have cp : CPow 10 18 := ⟨by decide, by decide, by decide⟩
      have q := el_lcL (K := K) (H := upd H1 d (.dK [])) (σ := [some (V.ref a), some (V.ref c), none]) (a := c) (xs := (cells0 ns).map V.int) (tl := tVar 1) (j := 2) (vs := [2])
        (t := tTest (tOp (rI0 fun i j => .bl (decide (j ≤ i))) (tVar 2) (tOp (rI CPow fun i j => .int (i ^ j.toNat)) (tC (.int 10)) (tC (.int 18))))) (te := tOp (rI0 fun i j => .int (i - j)) (tVar 2) (tOp (rI CPow fun i j => .int (i ^ j.toNat)) (tC (.int 10)) (tC (.int 18))))
        (fun i => (fun n => decide ((10 : Int) ^ 18 ≤ n)) ((cells0 ns).getD i 0)) (fun i => .int ((fun n => n - 10 ^ 18) ((cells0 ns).getD i 0))) (ev_var rfl) (sq_of h1') (by rw [List.length_map, cells0, List.length_map]; omega) (fun _ => rfl)
        (fun i x H2 _ hx H3 _ Q q => ⟨x, rfl, 10, 18, rfl, rfl, cp, (cells0 ns).getD i 0, 10 ^ 18, getD_of hx, rfl, _, rfl, q H3 (Ex.refl H3)⟩)
        (fun i x H2 _ hx _ H3 _ Q q => ⟨x, rfl, 10, 18, rfl, rfl, cp, (cells0 ns).getD i 0, 10 ^ 18, getD_of hx, rfl, q H3 (Ex.refl H3)⟩)
      rw [List.length_map] at q
      have g := given_ints (cells0 ns) (fun n => decide ((10 : Int) ^ 18 ≤ n)) (fun n => n - 10 ^ 18)
      rw [g] at q
      exact q
    refine tP_of (tC_of ?_)
    refine e2 _ (Ex.refl _) _ fun l H2 hl2 x3 h2 => ?_
    have hH2d : H2 d = some (.dK []) := x3 d _ upd_same
    have hH2c : H2 c = some (.lst ((cells0 ns).map V.int)) := x3 c _ h1'
    have nld : l ≠ d := fun z => by subst z; rw [upd_same] at hl2; cases hl2
    have nlc : l ≠ c := fun z => by subst z; rw [h1'] at hl2; cases hl2
    refine ⟨.ref c, rfl, hH2d, [(.inr "large", .ref l), (.inr "cells", .ref c), (.inr "rest", .int 0), (.inr "turn", .int 0)], rfl, by show 4 ≤ 15; omega, ?_⟩
    rw [disp4 l c d ns]
    have hd0 : H d = none := fresh_back x1 hd
    refine k d l c _ ((x1.trans (x2.trans x3)).mut hd0) hd0 (fresh_back (x1.trans x2) hl2) hc ⟨rfl, Ne.symm nld, Ne.symm ncd, nlc, upd_same, by rw [upd_ne nld]; exact h2, by rw [upd_ne ncd]; exact hH2c, ?_, ?_⟩
    · show (cells0 ns).length ≤ 1000
      rw [cells0, List.length_map]; omega
    · show (large0 ns).length ≤ 1000
      have := List.length_filter_le (fun n => decide ((10 : Int) ^ 18 ≤ n)) (cells0 ns)
      rw [large0, List.length_map]
      rw [show (cells0 ns).length = ns.length from List.length_map _] at this
      omega
end
end PL

set_option maxHeartbeats 4000000
namespace PL
open PySem PySem.Spec PyProof.Rows L2 Evl LamX
/-- law's promise: the script's list is handed in, the tables are empty, True comes out -/
def spL (K : PySem.W.Frag) (ts : List Addr) : Sp := fun vs H Q _ => ∃ a ns, vs = [.ref a] ∧ SqL K H a (List.map V.int ns) ∧ ns.length ≤ 63 ∧ (∀ p ∈ ts, H p = some (.tbl #[])) ∧ ∀ H', Q (.bl true) H'
def rho0 (a d : Addr) : Rho := [.fz (.raw (.ref a)), .fz (.raw (.ref d)), .un, .un, .un, .un, .un, .un, .un, .un, .un, .un, .un, .un, .un, .un]
/-- the plain law -/
def Plain (c : Cs) : Prop := ∀ (a d : Addr) (ns : List Int), ns.length ≤ 63 → ∃ w', g_law c a ns.length (rho0 a d) (w0 d ns) = some (.ok (.rt (.bl true)), w')
theorem ok_law {P : Program} {w : World} {K : PySem.W.Frag} {mg : Str → Option Value} {base : Heap} {c : Cs} (TX : Txt K mg c) (pl : Plain c) (hu : ∀ p ∈ Ts c, ∀ q ∈ Ts c, q.1 = p.1 → q.2 = p.2) {f fB : Addr} {fdB : FuncData} {oc kV doc pm ct : Value} {od an : Option Addr} {osl : Array (Option Value)}
    (lk : K.lookup f = some ⟨oc, od, .func (PySem.W.fnOf "law" "law" (defArgs s_law) (defBody s_law) (defScope s_law) .none kV doc pm an (.ref c.code_law) ct), osl⟩) (hcd : PySem.W.codeIn K (.ref c.code_law) "law" = true)
    (FB : FnOk P w K mg base (L2.CX P w) 1 fB fdB ["_law_script"] (spB K)) (mB : mg "_law_begin" = some (.ref fB)) (kB : PySem.W.keepIn K (.ref fB) = true) (bB : Binds K fdB ["_law_script"] []) (D__law_draw : DefOk (L2.CX P w) P w K mg base 1 "_law_draw" 2 ((F__law_draw c) : List T → M Dr T)) (D__law_steps : DefOk (L2.CX P w) P w K mg base 4 "_law_steps" 2 ((F__law_steps c) : List T → M Dr T)) (D__law_pick : DefOk (L2.CX P w) P w K mg base 2 "_law_pick" 2 ((F__law_pick c) : List T → M Dr T)) (D__law_right : DefOkT P w K mg base (Ts c) 6 "_law_right" 1 ((F__law_right c) : List T → M Dr T)) (D_log_text : DefOk (L2.CX P w) P w K mg base 4 "log_text" 1 ((F_log_text c) : List T → M Dr T)) (D__law_bent : DefOk (L2.CX P w) P w K mg base 3 "_law_bent" 2 ((F__law_bent c) : List T → M Dr T)) (D__law_odd : DefOk (L2.CX P w) P w K mg base 3 "_law_odd" 1 ((F__law_odd c) : List T → M Dr T)) (D__law_due : DefOk (L2.CX P w) P w K mg base 2 "_law_due" 1 ((F__law_due c) : List T → M Dr T)) (D_read_log : DefOkL (L2.CX P w) P w K mg base 3 "read_log" 1 ((F_read_log c) : List T → M Dr (List T))) (TK : Txk K c) (H__law_row_at : ∃ fd, Fun K "_law_row_at" "_law_row_at" s__law_row_at c._law_row_at fd) (H__law_refused : ∃ fd, Fun K "_law_refused" "_law_refused" s__law_refused c._law_refused fd) (TB_law : TabB base mg c.code_law c.tab_law) :
    FnG P w K mg base (L2.CX P w) 7 f (PySem.W.fnOf "law" "law" (defArgs s_law) (defBody s_law) (defScope s_law) .none kV doc pm an (.ref c.code_law) ct) ["_law_script"] (spL K [c.tab__law_right, c.tab_law]) := by
  refine fn_ofGC (k := 6) lk hcd sc_law (fun vs H Q E h => ?_) fun A outer s H vs Q E hr hgd h => ?_
  · obtain ⟨a, ns, rfl, _⟩ := h
    rfl
  · obtain ⟨a, ns, rfl, hS, hl, hT0, k⟩ := h
    have hT : ∀ p ∈ Ts c, H p.1 = some (.tbl #[]) := fun p hp => by
      simp only [Ts, List.mem_cons, List.not_mem_nil, or_false] at hp
      rcases hp with rfl | rfl <;> exact hT0 _ (by simp)
    have hx : Passes (L2.CX P w) (cxOf (L2.CX P w) P w K mg base ["_law_script", "_law_state", "_law_turn", "_law_steps_here", "_law_rows", "_law_k", "_law_row", "_law_spot", "_law_text", "_law_lap", "_law_bent_here", "_law_change", "_law_at", "_law_odd_here", "_law_more", "_law_wrong"] "law" (defScope s_law) f (.ref c.code_law) A outer s H E) E := passes_call (takes_of rfl rfl rfl rfl) fun _ _ _ _ h => h
    have rest : PSs (cxOf (L2.CX P w) P w K mg base ["_law_script", "_law_state", "_law_turn", "_law_steps_here", "_law_rows", "_law_k", "_law_row", "_law_spot", "_law_text", "_law_lap", "_law_bent_here", "_law_change", "_law_at", "_law_odd_here", "_law_more", "_law_wrong"] "law" (defScope s_law) f (.ref c.code_law) A outer s H E) (defBody s_law).tail
        (fun D σ H' => ∃ G : Gm Dr, CW (Ts c) G.O ∧ ScrOk K G a (ns.map V.int) ∧ tS K G E (g_law c a ns.length) D σ H') := ⟨fun pins s' σ H' D I ⟨G, hC, hG, q⟩ => (ok_lawrest TX D__law_draw D__law_steps D__law_pick D__law_right D_log_text D__law_bent D__law_odd D__law_due D_read_log TK H__law_row_at H__law_refused TB_law hC hr hgd hG (List.length_map _)).run.run pins s' σ H' D I q⟩
    have sc := sc_law
    refine ⟨_, pss_cons (ps_set (i := 1) sc.nd rfl (by first | exact Or.inl rfl | exact Or.inr rfl) (pe_call FB (hr.mono (by omega)) (by rfl) mB kB bB .nil hx (pa_cons (pv 0) pa_nil))) rest, ?_⟩
    unfold tSeq tAsg
    refine ⟨.ref a, rfl, ?_⟩
    refine ⟨a, ns, rfl, hS, hl, fun d l c' H' ex hd hl' hc ok => ?_⟩
    have tabs : LamX.Tabs (Ts c) H' := fun p hp => TabS.nil (ex _ _ (hT p hp))
    refine ⟨⟨drWd d l c' (Ts c), H', fun _ => none⟩, cw_dr hu, ?_, ?_⟩
    · rcases hS with hS | hS
      · refine .inl ⟨ex_rd ex hS, fun z => ?_⟩
        have hne : H a ≠ none := by
          rcases hS with h | ⟨o, h⟩ <;> rw [h] <;> simp
        rcases z with (rfl | rfl | rfl) | ⟨p, hp, rfl⟩
        · exact hne hd
        · exact hne hl'
        · exact hne hc
        · have e := hT p hp
          rcases hS with h | ⟨o, h⟩ <;> rw [h] at e <;> cases e
      · exact .inr (.inr hS)
    · obtain ⟨w', hw⟩ := pl a d ns hl
      have S : Sd K (⟨drWd d l c' (Ts c), H', fun _ => none⟩ : Gm Dr) (rho0 a d) (w0 d ns) [some (.ref a), some (.ref d), none, none, none, none, none, none, none, none, none, none, none, none, none, none] H' (fun _ => none) := by
        refine ⟨(fun _ _ e => nomatch e), ⟨ok, tabs⟩, fun _ _ => rfl, fun b hb => (drWd d l c' (Ts c)).live (w := w0 d ns) ⟨ok, tabs⟩ hb, fun b o e _ => e, Same.refl _, fun _ _ => rfl, fun i s hs => ?_, fun i j s t hi hj hs ht _ => ?_, rfl⟩
        · match i, hs with
          | 0, hs => cases hs; exact ⟨.ref a, rfl, .raw _⟩
          | 1, hs => cases hs; exact ⟨.ref d, rfl, .raw _⟩
          | 2, hs => cases hs; trivial
          | 3, hs => cases hs; trivial
          | 4, hs => cases hs; trivial
          | 5, hs => cases hs; trivial
          | 6, hs => cases hs; trivial
          | 7, hs => cases hs; trivial
          | 8, hs => cases hs; trivial
          | 9, hs => cases hs; trivial
          | 10, hs => cases hs; trivial
          | 11, hs => cases hs; trivial
          | 12, hs => cases hs; trivial
          | 13, hs => cases hs; trivial
          | 14, hs => cases hs; trivial
          | 15, hs => cases hs; trivial
          | i + 16, hs => cases hs
        · exfalso
          match i, hi with
          | 0, hi => cases hi; cases hs
          | 1, hi => cases hi; cases hs
          | 2, hi => cases hi; cases hs
          | 3, hi => cases hi; cases hs
          | 4, hi => cases hi; cases hs
          | 5, hi => cases hi; cases hs
          | 6, hi => cases hi; cases hs
          | 7, hi => cases hi; cases hs
          | 8, hi => cases hi; cases hs
          | 9, hi => cases hi; cases hs
          | 10, hi => cases hi; cases hs
          | 11, hi => cases hi; cases hs
          | 12, hi => cases hi; cases hs
          | 13, hi => cases hi; cases hs
          | 14, hi => cases hi; cases hs
          | 15, hi => cases hi; cases hs
          | i + 16, hi => cases hi
      refine ⟨rho0 a d, w0 d ns, fun _ => none, _, w', S, hw, fun v ρ' σ' H2 F2 S2 s2 rv => ?_⟩
      rw [rv.bl_inv]
      exact k H2
end PL

set_option maxHeartbeats 4000000
namespace PL
open PySem L2
section
variable {W : Type}
/-! ### steps of computing -/
theorem dIf_t {gc : Rho → M W Bool} {g h : Rho → M W Fl} {ρ : Rho} (e : gc ρ = ret true) : dIf gc g h ρ = g ρ := by unfold dIf; rw [e]; rfl
theorem dIf_f {gc : Rho → M W Bool} {g h : Rho → M W Fl} {ρ : Rho} (e : gc ρ = ret false) : dIf gc g h ρ = h ρ := by unfold dIf; rw [e]; rfl
theorem dRet_e {fa : Rho → M W T} {ρ : Rho} {t : T} (e : fa ρ = ret t) : dRet fa ρ = ret (.rt t) := by unfold dRet; rw [e]; rfl
theorem seq_nx {g h : Rho → M W Fl} {ρ ρ' : Rho} (e : g ρ = ret (.nx ρ')) : seqD g h ρ = h ρ' := by unfold seqD; rw [e]; rfl
theorem seq_rt {g h : Rho → M W Fl} {ρ : Rho} {t : T} (e : g ρ = ret (.rt t)) : seqD g h ρ = ret (.rt t) := by unfold seqD; rw [e]; rfl
theorem run_rt {m : Nat} {g : Rho → M W Fl} {ts : List T} {t : T} (e : g (ts.map Sl.fz ++ List.replicate m Sl.un) = ret (.rt t)) : run m g ts = ret t := by unfold run; rw [e]; rfl
theorem run_nx {m : Nat} {g : Rho → M W Fl} {ts : List T} {ρ : Rho} (e : g (ts.map Sl.fz ++ List.replicate m Sl.un) = ret (.nx ρ)) : run m g ts = ret .non := by unfold run; rw [e]; rfl
theorem fVar_e {i : Nat} {ρ : Rho} {t : T} (e : ρ[i]? = some (.fz t)) : (fVar i ρ : M W T) = ret t := by unfold fVar; rw [e]; rfl
theorem f1_e {g : T → Option T} {fa : Rho → M W T} {ρ : Rho} {t u : T} (e : fa ρ = ret t) (h : g t = some u) : f1 g fa ρ = ret u := by unfold f1; rw [e, ret_bnd, h]; rfl
theorem f1l_e {g : T → Option (List T)} {fa : Rho → M W T} {ρ : Rho} {t : T} {u : List T} (e : fa ρ = ret t) (h : g t = some u) : f1l g fa ρ = ret u := by unfold f1l; rw [e, ret_bnd, h]; rfl
theorem f2_e {g : T → T → Option T} {fa fb : Rho → M W T} {ρ : Rho} {t u v : T} (e : fa ρ = ret t) (e2 : fb ρ = ret u) (h : g t u = some v) : f2 g fa fb ρ = ret v := by unfold f2; rw [e, ret_bnd, e2, ret_bnd, h]; rfl
theorem fB_e {fa : Rho → M W T} {ρ : Rho} {b : Bool} (e : fa ρ = ret (.bl b)) : fB fa ρ = ret b := by unfold fB; rw [e]; rfl
theorem asL_e {fa : Rho → M W (List T)} {ρ : Rho} {ts : List T} (e : fa ρ = ret ts) : asL fa ρ = ret (.lst ts) := by unfold asL; rw [e]; rfl
theorem bNot_e {fa : Rho → M W Bool} {ρ : Rho} {b : Bool} (e : fa ρ = ret b) : bNot fa ρ = ret (!b) := by unfold bNot; rw [e]; rfl
theorem bOr_t {fa fb : Rho → M W Bool} {ρ : Rho} (e : fa ρ = ret true) : bOr fa fb ρ = ret true := by unfold bOr; rw [e]; rfl
theorem bOr_f {fa fb : Rho → M W Bool} {ρ : Rho} (e : fa ρ = ret false) : bOr fa fb ρ = fb ρ := by unfold bOr; rw [e]; rfl
theorem bAnd_t {fa fb : Rho → M W Bool} {ρ : Rho} (e : fa ρ = ret true) : bAnd fa fb ρ = fb ρ := by unfold bAnd; rw [e]; rfl
theorem bAnd_f {fa fb : Rho → M W Bool} {ρ : Rho} (e : fa ρ = ret false) : bAnd fa fb ρ = ret false := by unfold bAnd; rw [e]; rfl
theorem aNil_e {ρ : Rho} : (aNil ρ : M W (List T)) = ret [] := rfl
theorem aCons_e {fa : Rho → M W T} {fr : Rho → M W (List T)} {ρ : Rho} {t : T} {ts : List T} (e : fa ρ = ret t) (e2 : fr ρ = ret ts) : aCons fa fr ρ = ret (t :: ts) := by unfold aCons; rw [e, ret_bnd, e2]; rfl
theorem fCall_e {n : Nat} {fa : Rho → M W (List T)} {Fn : List T → M W T} {ρ : Rho} {ts : List T} (e : fa ρ = ret ts) (hn : ts.length = n) : fCall n fa Fn ρ = Fn ts := by unfold fCall; rw [e, ret_bnd, if_pos hn]
theorem fIf_t {gc : Rho → M W Bool} {fa fb : Rho → M W T} {ρ : Rho} (e : gc ρ = ret true) : fIf gc fa fb ρ = fa ρ := by unfold fIf; rw [e]; rfl
theorem fIf_f {gc : Rho → M W Bool} {fa fb : Rho → M W T} {ρ : Rho} (e : gc ρ = ret false) : fIf gc fa fb ρ = fb ρ := by unfold fIf; rw [e]; rfl
theorem fAnd_t {fa fb : Rho → M W T} {ρ : Rho} (e : fa ρ = ret (.bl true)) : fAnd fa fb ρ = fb ρ := by unfold fAnd; rw [e]; rfl
theorem fAnd_f {fa fb : Rho → M W T} {ρ : Rho} (e : fa ρ = ret (.bl false)) : fAnd fa fb ρ = ret (.bl false) := by unfold fAnd; rw [e]; rfl
theorem fItems_l {fa : Rho → M W T} {ρ : Rho} {ts : List T} (e : fa ρ = ret (.lst ts)) : fItems fa ρ = ret ts := by unfold fItems; rw [e]; rfl
theorem fItems_t {fa : Rho → M W T} {ρ : Rho} {ts : List T} (e : fa ρ = ret (.tup ts)) : fItems fa ρ = ret ts := by unfold fItems; rw [e]; rfl
theorem fItems_s {fa : Rho → M W T} {ρ : Rho} {z : Str} (e : fa ρ = ret (.str z)) : fItems fa ρ = ret (signs z) := by unfold fItems; rw [e]; rfl
theorem dSet_e {i : Nat} {fx : Rho → M W Sl} {ρ : Rho} {s : Sl} (e : fx ρ = ret s) : dSet i fx ρ = ret (.nx (ρ.set i s)) := by unfold dSet; rw [e]; rfl
theorem xFz_e {fa : Rho → M W T} {ρ : Rho} {t : T} (e : fa ρ = ret t) : xFz fa ρ = ret (.fz t) := by unfold xFz; rw [e]; rfl

/-! ### is_step -/
def inL (n : Nat) : Bool := !(Builtin.Str.occurrences ("abcdefghijklmnopqrstuvwxyz" : Str) ⟨#[n]⟩ 0 ("abcdefghijklmnopqrstuvwxyz" : Str).length 1).isEmpty
def isStep (s : Str) : Bool := decide (1 ≤ s.length) && decide (s.length ≤ 6) && s.cps.toList.all inL
theorem boolsT_map (f : Nat → Bool) : ∀ l : List Nat, boolsT (l.map fun n => T.bl (f n)) = some (l.map f)
  | [] => rfl
  | n :: l => by simp [boolsT, boolsT_map f l]
theorem fChain_t {g g' : T → T → Option T} {fa fb fc : Rho → M W T} {ρ : Rho} {t u v z : T} (e1 : fa ρ = ret t) (e2 : fb ρ = ret u) (h : g t u = some (.bl true)) (e3 : fc ρ = ret v) (h' : g' u v = some z) : fChain g g' fa fb fc ρ = ret z := by
  unfold fChain
  rw [e1, ret_bnd, e2, ret_bnd, h, lift_some, ret_bnd]
  show bnd (fc ρ) _ = _
  rw [e3, ret_bnd, h']
  rfl
theorem fChain_f {g g' : T → T → Option T} {fa fb fc : Rho → M W T} {ρ : Rho} {t u : T} (e1 : fa ρ = ret t) (e2 : fb ρ = ret u) (h : g t u = some (.bl false)) : fChain g g' fa fb fc ρ = ret (.bl false) := by
  unfold fChain
  rw [e1, ret_bnd, e2, ret_bnd, h, lift_some, ret_bnd]
  rfl
theorem kb_ss : kitB "str" "str" = some true := by decide +kernel
theorem kb_ts : kitB "tuple" "str" = some false := by decide +kernel
theorem kb_tt : kitB "tuple" "tuple" = some true := by decide +kernel
theorem kb_st : kitB "str" "tuple" = some false := by decide +kernel
theorem isa_str_str {s : Str} : isaT "str" (.str s) = some (.bl true) := by show (kitB "str" "str").map T.bl = _; rw [kb_ss]; rfl
theorem isa_str_tup {ts : List T} : isaT "str" (.tup ts) = some (.bl false) := by show (kitB "tuple" "str").map T.bl = _; rw [kb_ts]; rfl
theorem isa_tup_tup {ts : List T} : isaT "tuple" (.tup ts) = some (.bl true) := by show (kitB "tuple" "tuple").map T.bl = _; rw [kb_tt]; rfl
theorem isa_tup_str {s : Str} : isaT "tuple" (.str s) = some (.bl false) := by show (kitB "str" "tuple").map T.bl = _; rw [kb_st]; rfl
theorem F_is_step_str (c : Cs) {s : Str} (hs : s.length ≤ 100000) : F_is_step c [.str s] = (ret (.bl (isStep s)) : M W T) := by
  unfold F_is_step
  refine run_rt ?_
  unfold g_is_step
  have hz : s.length ≤ sizeLine := Nat.le_trans hs (by rw [sizeLine_eq]; omega)
  have v0 : (fVar 0 [Sl.fz (.str s), Sl.un] : M W T) = ret (.str s) := rfl
  have e : (f1 lenT (fVar 0) [Sl.fz (.str s), Sl.un] : M W T) = ret (.int (s.length : Nat)) := f1_e v0 (by simp [lenT, hz])
  have c1 : (fChain (ltT fun i j => decide (i ≤ j)) (ltT fun i j => decide (i ≤ j)) (fC (.int 1)) (f1 lenT (fVar 0)) (fC c_MOST_LETTERS) [Sl.fz (.str s), Sl.un] : M W T) = ret (.bl (decide (1 ≤ s.length) && decide (s.length ≤ 6))) := by
    by_cases h1 : 1 ≤ s.length
    · rw [fChain_t (t := .int 1) (u := .int (s.length : Nat)) (v := .int 6) (z := .bl (decide (s.length ≤ 6))) rfl e (by show some (T.bl (decide ((1 : Int) ≤ (s.length : Nat)))) = _; rw [decide_eq_true (by omega)]) rfl (by show some (T.bl (decide (((s.length : Nat) : Int) ≤ 6))) = _; congr 2; exact decide_eq_decide.mpr (by omega))]
      simp [h1]
    · rw [fChain_f (t := .int 1) (u := .int (s.length : Nat)) rfl e (by show some (T.bl (decide ((1 : Int) ≤ (s.length : Nat)))) = _; rw [decide_eq_false (by omega)])]
      simp [h1]
  have i1 : (bNot (fB (f1 (isaT "str") (fVar 0))) [Sl.fz (.str s), Sl.un] : M W Bool) = ret false := bNot_e (fB_e (f1_e v0 isa_str_str))
  cases hb : (decide (1 ≤ s.length) && decide (s.length ≤ 6)) with
  | false =>
    rw [hb] at c1
    have e2 : isStep s = false := by unfold isStep; rw [hb]; rfl
    rw [e2]
    exact seq_rt ((dIf_t ((bOr_f i1).trans (bNot_e (fB_e c1)))).trans (dRet_e rfl))
  | true =>
    rw [hb] at c1
    have e2 : isStep s = s.cps.toList.all inL := by unfold isStep; rw [hb]; rfl
    rw [e2]
    refine (seq_nx ((dIf_f ((bOr_f i1).trans (bNot_e (fB_e c1)))).trans rfl)).trans (dRet_e (f1_e (asL_e (fLc_map (ts := signs s) (fun t => match t with | .str z => .bl (inL (z.cps.getD 0 0)) | _ => .non) (fItems_s v0) ?_ ?_)) ?_))
    · show (s.cps.toList.map _).length ≤ _
      rw [List.length_map, Array.length_toList]
      exact hz
    · intro t ht
      obtain ⟨n, _, rfl⟩ := List.mem_map.mp ht
      exact f2_e (t := .str ⟨#[n]⟩) (u := c_LETTERS) rfl rfl rfl
    · have : ((signs s).map fun t => match t with | .str z => T.bl (inL (z.cps.getD 0 0)) | _ => .non) = s.cps.toList.map fun n => T.bl (inL n) := by
        unfold signs
        rw [List.map_map]
        rfl
      rw [this]
      show (boolsT _).map _ = _
      rw [boolsT_map]
      show some (T.bl ((s.cps.toList.map inL).all id)) = _
      rw [List.all_map]
      rfl

/-! ### parts, steps -/
theorem eq_str (neg : Bool) (a b : Str) : eqT neg (.str a) (.str b) = some (.bl (if neg then !(a == b) else (a == b))) := by
  show (if min (PyData.str a).depth (PyData.str b).depth ≤ 150 then some (T.bl (if neg then !PyData.eqv (.str a) (.str b) else PyData.eqv (.str a) (.str b))) else none) = _
  rw [if_pos (by simp [PyData.depth])]
  simp [PyData.eqv]
end
def sLst (xs : List Str) : T := .lst (xs.map T.str)
section
variable {W : Type}
/-! ### loops, lists of texts -/
theorem loopD_inv {i : Nat} {g : Rho → M W Fl} (Inv : List T → Rho → Prop) (step : ∀ t ts ρ, Inv (t :: ts) ρ → ∃ ρ2, g (ρ.set i (.fz t)) = ret (.nx ρ2) ∧ Inv ts ρ2) : ∀ ts ρ, Inv ts ρ → ∃ ρ', loopD (gN i) g ts ρ = ret (.nx ρ') ∧ Inv [] ρ'
  | [], ρ, h => ⟨ρ, rfl, h⟩
  | t :: ts, ρ, h => by
    obtain ⟨ρ2, h1, h2⟩ := step t ts ρ h
    obtain ⟨ρ', h3, h4⟩ := loopD_inv Inv step ts ρ2 h2
    refine ⟨ρ', ?_, h4⟩
    unfold loopD
    show bnd (lift (some (ρ.set i (.fz t)))) _ = _
    rw [lift_some, ret_bnd, h1, ret_bnd]
    exact h3
theorem dFor_inv {i : Nat} {fi : Rho → M W (List T)} {g : Rho → M W Fl} {ρ : Rho} {ts : List T} (Inv : List T → Rho → Prop) (hi : fi ρ = ret ts) (h0 : Inv ts ρ) (step : ∀ t ts ρ, Inv (t :: ts) ρ → ∃ ρ2, g (ρ.set i (.fz t)) = ret (.nx ρ2) ∧ Inv ts ρ2) :
    ∃ ρ', dFor fi (gN i) g ρ = ret (.nx ρ') ∧ Inv [] ρ' := by
  obtain ⟨ρ', h1, h2⟩ := loopD_inv Inv step ts ρ h0
  exact ⟨ρ', by unfold dFor; rw [hi, ret_bnd, h1], h2⟩
theorem dataTs_strs : ∀ xs : List Str, dataTs (xs.map T.str) = some (xs.map PyData.str)
  | [] => rfl
  | x :: xs => by simp [dataTs, dataT, dataTs_strs xs]
theorem inT_strs (neg : Bool) (s : Str) (xs : List Str) : inT neg (.str s) (sLst xs) = some (.bl (if neg then !xs.any (· == s) else xs.any (· == s))) := by
  show ((dataT (.str s)).bind fun d => (dataTs (xs.map T.str)).bind fun es => if d.depth ≤ 150 then some (T.bl (if neg then !es.any (fun y => PyData.eqv y d) else es.any fun y => PyData.eqv y d)) else none) = _
  rw [dataTs_strs]
  show (if (PyData.str s).depth ≤ 150 then some (T.bl (if neg then !(xs.map PyData.str).any (fun y => PyData.eqv y (.str s)) else (xs.map PyData.str).any fun y => PyData.eqv y (.str s))) else none) = _
  rw [if_pos (by simp [PyData.depth]), List.any_map]
  have : ((fun y => PyData.eqv y (.str s)) ∘ PyData.str) = fun x : Str => x == s := by
    funext x
    simp [PyData.eqv]
  rw [this]
theorem eq_nil (neg : Bool) (xs : List Str) : eqT neg (sLst xs) (.lst []) = some (.bl (if neg then !xs.isEmpty else xs.isEmpty)) := by
  show ((dataTs (xs.map T.str)).map PyData.list).bind (fun d => ((dataTs []).map PyData.list).bind fun e => if min d.depth e.depth ≤ 150 then some (T.bl (if neg then !PyData.eqv d e else PyData.eqv d e)) else none) = _
  rw [dataTs_strs]
  show (if min (PyData.list (xs.map PyData.str)).depth (PyData.list []).depth ≤ 150 then some (T.bl (if neg then !PyData.eqv (.list (xs.map PyData.str)) (.list []) else PyData.eqv (.list (xs.map PyData.str)) (.list []))) else none) = _
  have h1 : (PyData.list []).depth ≤ 150 := by simp [PyData.depth, PyData.depthAll]
  rw [if_pos (by omega)]
  have h2 : PyData.eqv (.list (xs.map PyData.str)) (.list []) = xs.isEmpty := by cases xs <;> simp [PyData.eqv, PyData.eqvAll]
  rw [h2]
end
section
variable {W : Type}
theorem addT_strs {xs ys : List Str} (h : xs.length + ys.length ≤ 1000) : addT (sLst xs) (sLst ys) = some (sLst (xs ++ ys)) := by
  show (if (xs.map T.str).length + (ys.map T.str).length ≤ sizeLine then some (T.lst (xs.map T.str ++ ys.map T.str)) else none) = _
  rw [if_pos (by rw [List.length_map, List.length_map, sizeLine_eq]; omega)]
  simp [sLst]
end
section
variable {W : Type}
theorem ret_inj (w : W) {α : Type} {a b : α} (h : (ret a : M W α) = ret b) : a = b := by
  have := congrFun h w
  simp only [ret, Option.some.injEq, Prod.mk.injEq, R.ok.injEq, and_true] at this
  exact this
theorem fLc_mapP {α : Type} {fi : Rho → M W (List T)} {vs : List Nat} {i : Nat} {ge : Rho → M W T} {ρ : Rho} (ps : List α) (tt g : α → T) (hi : fi ρ = ret (ps.map tt)) (hl : ps.length ≤ sizeLine)
    (h2 : ∀ p ∈ ps, ge ((wipeR ρ vs).set i (.fz (tt p))) = ret (g p)) : fLc fi vs (gN i) tYesM ge ρ = ret (ps.map g) := by
  classical
  funext w
  let f : T → T := fun u => if h : ∃ v, ge ((wipeR ρ vs).set i (.fz u)) = ret v then h.choose else .non
  have hf : ∀ p ∈ ps, ge ((wipeR ρ vs).set i (.fz (tt p))) = ret (f (tt p)) := fun p hp => by
    have h : ∃ v, ge ((wipeR ρ vs).set i (.fz (tt p))) = ret v := ⟨_, h2 p hp⟩
    show _ = ret (if h : ∃ v, ge ((wipeR ρ vs).set i (.fz (tt p))) = ret v then h.choose else .non)
    rw [dif_pos h]
    exact h.choose_spec
  rw [fLc_map f hi (by rw [List.length_map]; exact hl) (fun t ht => by
    obtain ⟨p, hp, rfl⟩ := List.mem_map.mp ht
    exact hf p hp), List.map_map]
  rw [show ps.map (f ∘ tt) = ps.map g from List.map_congr_left fun p hp => ret_inj w ((hf p hp).symm.trans (h2 p hp))]
end
end PL

set_option maxHeartbeats 4000000
namespace PL
open PySem L2
/-! T11: draws: what is promised of them. -/
structure DOk (d : Addr) (w : Dr) : Prop where
  at_ : w.d = d
  rest : 0 ≤ w.rest
  turn : 0 ≤ w.turn
  large : ∀ x ∈ w.large, 0 ≤ x
section
variable {α β : Type} {d : Addr} {n k N : Nat}
/-- m gives a value of which P, at most n turns on -/
def Tot (d : Addr) (n : Nat) (m : M Dr α) (P : α → Prop) : Prop := ∀ w, DOk d w → w.turn + (n : Int) ≤ 35184372088832 → ∃ a w', m w = some (.ok a, w') ∧ P a ∧ DOk d w' ∧ w'.turn ≤ w.turn + (n : Int)
theorem Tot.ofRet {m : M Dr α} {P : α → Prop} {a : α} (e : m = ret a) (h : P a) : Tot d n m P := fun w hw _ => ⟨a, w, by rw [e]; rfl, h, hw, by omega⟩
theorem Tot.bnd {m : M Dr α} {f : α → M Dr β} {P : α → Prop} {Q : β → Prop} (h : Tot d n m P) (hk : ∀ a, P a → Tot d k (f a) Q) (e : n + k ≤ N) : Tot d N (bnd m f) Q := fun w hw hb => by
  obtain ⟨a, w1, e1, p, h1, t1⟩ := h w hw (by omega)
  obtain ⟨b, w2, e2, q, h2, t2⟩ := hk a p w1 h1 (by omega)
  exact ⟨b, w2, by unfold PL.bnd; rw [e1]; exact e2, q, h2, by omega⟩
theorem Tot.mono {m : M Dr α} {P Q : α → Prop} (h : Tot d n m P) (hn : n ≤ N) (hp : ∀ a, P a → Q a) : Tot d N m Q := fun w hw hb => by
  obtain ⟨a, w1, e1, p, h1, t1⟩ := h w hw (by omega)
  exact ⟨a, w1, e1, hp a p, h1, by omega⟩
theorem Tot.noEr {m : M Dr α} {P : α → Prop} (h : Tot d n m P) : Tot d n (noEr m) P := fun w hw hb => by
  obtain ⟨a, w1, e1, p, h1, t1⟩ := h w hw hb
  exact ⟨a, w1, by unfold PL.noEr; rw [e1], p, h1, t1⟩
theorem bnd_at {m : M Dr α} {f : α → M Dr β} {w w' : Dr} {a : α} (e : m w = some (.ok a, w')) : bnd m f w = f a w' := by unfold PL.bnd; rw [e]
theorem onW_e {i : Nat} {ρ : Rho} {m : M Dr α} {w : Dr} (h : ρ[i]? = some (.fz (.raw (.ref w.d)))) : onW i ρ m w = m w := by
  unfold onW
  rw [h]
  show (if w.d = w.d then m w else none) = _
  rw [if_pos rfl]
theorem eq_int (neg : Bool) (a b : Int) : eqT neg (.int a) (.int b) = some (.bl (if neg then !(a == b) else a == b)) := by
  show (if min (PyData.int a).depth (PyData.int b).depth ≤ 150 then some (T.bl (if neg then !PyData.eqv (.int a) (.int b) else PyData.eqv (.int a) (.int b))) else none) = _
  rw [if_pos (by simp [PyData.depth])]
  simp [PyData.eqv]
abbrev cW : Rho → M Dr Bool := bAnd (fB (f2 (eqT false) (fRest 0) (fC (.int 0)))) (fB (fNe Dr.large 0))
theorem cW_e {ρ : Rho} {w : Dr} (h : ρ[0]? = some (.fz (.raw (.ref w.d)))) : cW ρ w = some (.ok (w.rest == 0 && !w.large.isEmpty), w) := by
  have e1 : fRest 0 ρ w = some (.ok (.int w.rest), w) := onW_e h
  have e2 : fB (f2 (eqT false) (fRest 0) (fC (.int 0))) ρ w = some (.ok (w.rest == 0), w) := by
    show bnd (bnd (fRest 0 ρ) _) boolM w = _
    rw [bnd_assoc, bnd_at e1]
    show bnd (bnd (ret (.int 0)) fun u => lift (eqT false (.int w.rest) u)) boolM w = _
    rw [ret_bnd, eq_int]
    rfl
  have e3 : fB (fNe Dr.large 0) ρ w = some (.ok (!w.large.isEmpty), w) := by
    show bnd (fNe Dr.large 0 ρ) boolM w = _
    rw [bnd_at (a := T.bl (!w.large.isEmpty)) (w' := w) (onW_e h)]
    rfl
  show bnd (fB (f2 (eqT false) (fRest 0) (fC (.int 0))) ρ) _ w = _
  rw [bnd_at e2]
  cases w.rest == 0 with
  | true => rw [if_pos rfl, e3]; rfl
  | false => rw [if_neg (by simp)]; rfl
theorem while_e {ρ : Rho} {d : Addr} (h : ρ[0]? = some (.fz (.raw (.ref d)))) : ∀ (n : Nat) (w : Dr), w.large.length = n → DOk d w → ∃ w', whileN cW (dRestPop 0) (n + 1) ρ w = some (.ok (.nx ρ), w') ∧ DOk d w' ∧ w'.turn = w.turn
  | n, w, hn, hw => by
    have hd := hw.at_
    subst hd
    have e := cW_e h
    unfold whileN
    rw [bnd_at e]
    cases hc : (w.rest == 0 && !w.large.isEmpty) with
    | false => exact ⟨w, by rw [if_neg (by simp)]; rfl, hw, rfl⟩
    | true =>
      rw [if_pos rfl]
      cases hL : w.large with
      | nil => rw [hL] at hc; simp at hc
      | cons x r =>
        rw [hL] at hn
        cases n with
        | zero => cases hn
        | succ n =>
          have hx : 0 ≤ x := hw.large x (by rw [hL]; exact List.mem_cons_self)
          have e2 : dRestPop 0 ρ w = some (.ok (.nx ρ), { w with rest := x, large := r }) := by
            unfold dRestPop
            rw [onW_e h]
            rw [hL]
          rw [bnd_at e2]
          obtain ⟨w', h1, h2, h3⟩ := while_e h n { w with rest := x, large := r } (by simpa using hn) ⟨rfl, hx, hw.turn, fun y hy => hw.large y (by rw [hL]; exact List.mem_cons_of_mem _ hy)⟩
          exact ⟨w', h1, h2, h3⟩
abbrev sDraw (d : Addr) (k : Int) : Rho := [Sl.fz (.raw (.ref d)), .fz (.int k), .un, .un, .un, .un]
theorem mod_e {a b : Int} (h : 0 < b) : modT (.int a) (.int b) = some (.int (a % b)) := by
  show (if decide (0 < b) = true then some (T.int (a % b)) else none) = _
  rw [if_pos (by simpa using h)]
theorem cmul_e {a b : Int} (h : 0 ≤ a ∧ a < 1000000) : mulT (.int a) (.int b) = some (.int (a * b)) := by
  show (if decide (CMul a b) = true then some (T.int (a * b)) else none) = _
  rw [if_pos (by simp only [decide_eq_true_eq]; exact .inl ⟨by omega, by omega⟩)]
theorem cpow_e {a b : Int} (h : 0 ≤ a ∧ a < 18446744073709551616) (hb : 0 ≤ b ∧ b < 100) : powT (.int a) (.int b) = some (.int (a ^ b.toNat)) := by
  show (if decide (CPow a b) = true then some (T.int (a ^ b.toNat)) else none) = _
  rw [if_pos (by simp only [decide_eq_true_eq]; exact ⟨hb.1, by omega, by omega⟩)]
theorem cdiv_e {a b : Int} (h : 0 < b ∧ b < 1073741824) : fdivT (.int a) (.int b) = some (.int (a / b)) := by
  show (if decide (CDiv a b) = true then some (T.int (a / b)) else none) = _
  rw [if_pos (by simp only [decide_eq_true_eq]; exact h)]
theorem add_e {a b : Int} : addT (.int a) (.int b) = some (.int (a + b)) := rfl
theorem sub_e {a b : Int} : subT (.int a) (.int b) = some (.int (a - b)) := rfl
theorem f1_ret {g : T → Option T} {fa : Rho → M Dr T} {ρ : Rho} {w w' : Dr} {t u : T} (e : fa ρ w = some (.ok t, w')) (h : g t = some u) : f1 g fa ρ w = some (.ok u, w') := by
  show bnd (fa ρ) _ w = _
  rw [bnd_at e, h]
  rfl
theorem f2_ret {g : T → T → Option T} {fa fb : Rho → M Dr T} {ρ : Rho} {w w1 w2 : Dr} {t u v : T} (e : fa ρ w = some (.ok t, w1)) (e2 : fb ρ w1 = some (.ok u, w2)) (h : g t u = some v) : f2 g fa fb ρ w = some (.ok v, w2) := by
  show bnd (fa ρ) _ w = _
  rw [bnd_at e]
  show bnd (fb ρ) _ w1 = _
  rw [bnd_at e2, h]
  rfl
theorem fB_ret {fa : Rho → M Dr T} {ρ : Rho} {w w' : Dr} {b : Bool} (e : fa ρ w = some (.ok (.bl b), w')) : fB fa ρ w = some (.ok b, w') := by
  show bnd (fa ρ) _ w = _
  rw [bnd_at e]
  rfl
theorem dSet_ret {i : Nat} {fa : Rho → M Dr T} {ρ : Rho} {w w' : Dr} {t : T} (e : fa ρ w = some (.ok t, w')) : dSet i (xFz fa) ρ w = some (.ok (.nx (ρ.set i (.fz t))), w') := by
  show bnd (bnd (fa ρ) _) _ w = _
  rw [bnd_assoc, bnd_at e]
  rfl
theorem seq_ret {g h : Rho → M Dr Fl} {ρ ρ' : Rho} {w w' : Dr} (e : g ρ w = some (.ok (.nx ρ'), w')) : seqD g h ρ w = h ρ' w' := by
  show bnd (g ρ) _ w = _
  rw [bnd_at e]
theorem dRet_ret {fa : Rho → M Dr T} {ρ : Rho} {w w' : Dr} {t : T} (e : fa ρ w = some (.ok t, w')) : dRet fa ρ w = some (.ok (.rt t), w') := by
  show bnd (fa ρ) _ w = _
  rw [bnd_at e]
  rfl
theorem int_ret {fa : Rho → M Dr T} {ρ : Rho} {w w' : Dr} {i : Int} (e : fa ρ w = some (.ok (.int i), w')) : f1 toInt fa ρ w = some (.ok (.int i), w') := f1_ret e rfl
theorem intM_e (i : Int) : (intM (.int i) : M Dr Int) = ret i := rfl
theorem ex_of {x y : Option (R Fl × Dr)} {P : Int → Dr → Prop} (e : x = y) (h : ∃ i w', y = some (.ok (.rt (.int i)), w') ∧ P i w') : ∃ i w', x = some (.ok (.rt (.int i)), w') ∧ P i w' := by rw [e]; exact h
theorem draw_tot (c : Cs) {d : Addr} {k : Int} (hk : 0 < k) (hk2 : k < 1000000) : Tot d 1 (F__law_draw c [.raw (.ref d), .int k]) (fun t => ∃ i : Int, t = .int i ∧ 0 ≤ i ∧ i < k) := fun w hw hb => by
  have h0 : ∀ x y z u, ([Sl.fz (.raw (.ref d)), .fz (.int k), x, y, z, u] : Rho)[0]? = some (.fz (.raw (.ref d))) := fun _ _ _ _ => rfl
  obtain ⟨w1, e1, hw1, ht1⟩ := while_e (h0 .un .un .un .un) _ w rfl hw
  have hd := hw1.at_
  have e1' : dWhile cW (dRestPop 0) (sDraw d k) w = some (.ok (.nx (sDraw d k)), w1) := dWhile_iff.mpr ⟨_, e1⟩
  suffices hs : ∃ i w', g__law_draw c (sDraw d k) w = some (.ok (.rt (.int i)), w') ∧ (0 ≤ i ∧ i < k) ∧ DOk d w' ∧ w'.turn ≤ w.turn + 1 by
    obtain ⟨i, w', h1, h2, h3, h4⟩ := hs
    refine ⟨.int i, w', ?_, ⟨i, rfl, h2⟩, h3, h4⟩
    show bnd (g__law_draw c (sDraw d k)) _ w = _
    rw [bnd_at h1]
    rfl
  unfold g__law_draw
  rw [seq_ret e1']
  have r0 : ∀ x y z u w, w.d = d → fRest 0 [Sl.fz (.raw (.ref d)), .fz (.int k), x, y, z, u] w = some (.ok (.int w.rest), w) := fun x y z u w e => onW_e (by rw [e]; rfl)
  by_cases hr : 0 < w1.rest
  · have c1 : fB (f2 (ltT fun i j => decide (j < i)) (fRest 0) (fC (.int 0))) (sDraw d k) w1 = some (.ok true, w1) := fB_ret (f2_ret (r0 _ _ _ _ _ hd) rfl (by show some (T.bl (decide (0 < w1.rest))) = _; rw [decide_eq_true hr]))
    refine ⟨w1.rest % k, { w1 with rest := w1.rest / k }, ?_, ⟨Int.emod_nonneg _ (by omega), Int.emod_lt_of_pos _ hk⟩, ⟨hd, Int.ediv_nonneg hw1.rest (by omega), hw1.turn, hw1.large⟩, by show w1.turn ≤ _; omega⟩
    show bnd (dIf _ _ _ (sDraw d k)) _ w1 = _
    have e2 : dIf (fB (f2 (ltT fun i j => decide (j < i)) (fRest 0) (fC (.int 0)))) (seqD (dSet 2 (xFz (f2 modT (f1 toInt (fRest 0)) (fVar 1)))) (seqD (dRest 0 (f2 fdivT (fRest 0) (fVar 1))) (dRet (fVar 2)))) (fun ρ => ret (.nx ρ)) (sDraw d k) w1 = some (.ok (.rt (.int (w1.rest % k))), { w1 with rest := w1.rest / k }) := by
      show bnd (fB _ (sDraw d k)) _ w1 = _
      rw [bnd_at c1, if_pos rfl]
      refine (seq_ret (dSet_ret (f2_ret (t := .int w1.rest) (u := .int k) (int_ret (r0 _ _ _ _ _ hd)) rfl (mod_e hk)))).trans ?_
      have e3 : dRest 0 (f2 fdivT (fRest 0) (fVar 1)) [Sl.fz (.raw (.ref d)), .fz (.int k), .fz (.int (w1.rest % k)), .un, .un, .un] w1 = some (.ok (.nx [Sl.fz (.raw (.ref d)), .fz (.int k), .fz (.int (w1.rest % k)), .un, .un, .un]), { w1 with rest := w1.rest / k }) := by
        show bnd (f2 fdivT (fRest 0) (fVar 1) _) _ w1 = _
        rw [bnd_at (f2_ret (r0 _ _ _ _ _ hd) rfl (cdiv_e ⟨hk, by omega⟩))]
        rw [intM_e, ret_bnd, onW_e (by rw [hd]; rfl)]
      exact (seq_ret e3).trans rfl
    rw [bnd_at e2]
    rfl
  · have c1 : fB (f2 (ltT fun i j => decide (j < i)) (fRest 0) (fC (.int 0))) (sDraw d k) w1 = some (.ok false, w1) := fB_ret (f2_ret (r0 _ _ _ _ _ hd) rfl (by show some (T.bl (decide (0 < w1.rest))) = _; rw [decide_eq_false hr]))
    have e2 : dIf (fB (f2 (ltT fun i j => decide (j < i)) (fRest 0) (fC (.int 0)))) (seqD (dSet 2 (xFz (f2 modT (f1 toInt (fRest 0)) (fVar 1)))) (seqD (dRest 0 (f2 fdivT (fRest 0) (fVar 1))) (dRet (fVar 2)))) (fun ρ => ret (.nx ρ)) (sDraw d k) w1 = some (.ok (.nx (sDraw d k)), w1) := by
      show bnd (fB _ (sDraw d k)) _ w1 = _
      rw [bnd_at c1, if_neg (by simp)]
      rfl
    rw [seq_ret e2]
    have t0 : fTurn 0 (sDraw d k) w1 = some (.ok (.int w1.turn), w1) := onW_e (by rw [hd]; rfl)
    refine ex_of (seq_ret (dSet_ret (f2_ret (u := .int 1) t0 rfl add_e))) ?_
    let t := w1.turn + 1
    have ht : 0 < t ∧ t < 35184372088833 := ⟨by have := hw1.turn; omega, by omega⟩
    let w2 : Dr := { w1 with turn := t }
    have hw2 : DOk d w2 := ⟨hd, hw1.rest, by show 0 ≤ t; omega, hw1.large⟩
    have e3 : dTurn 0 (fVar 3) [Sl.fz (.raw (.ref d)), .fz (.int k), .un, .fz (.int t), .un, .un] w1 = some (.ok (.nx [Sl.fz (.raw (.ref d)), .fz (.int k), .un, .fz (.int t), .un, .un]), w2) := by
      show bnd (ret (T.int t)) _ w1 = _
      rw [ret_bnd, intM_e, ret_bnd, onW_e (by rw [hd]; rfl)]
    show ∃ i w', seqD (dTurn 0 (fVar 3)) _ [Sl.fz (.raw (.ref d)), .fz (.int k), .un, .fz (.int t), .un, .un] w1 = _ ∧ _
    rw [seq_ret e3]
    obtain ⟨cell, e4⟩ : ∃ cell : Int, fIf (fB (fNe Dr.cells 0)) (fCell 0 (f2 modT (f1 toInt (fVar 3)) (fLenC 0))) (fC (.int 0)) [Sl.fz (.raw (.ref d)), .fz (.int k), .un, .fz (.int t), .un, .un] w2 = some (.ok (.int cell), w2) := by
      have q1 : fB (fNe Dr.cells 0) [Sl.fz (.raw (.ref d)), .fz (.int k), .un, .fz (.int t), .un, .un] w2 = some (.ok (!w2.cells.isEmpty), w2) := fB_ret (onW_e (by show _ = some (Sl.fz (.raw (.ref w1.d))); rw [hd]; rfl))
      cases hC : w2.cells with
      | nil =>
        refine ⟨0, ?_⟩
        rw [hC] at q1
        show bnd (fB _ _) _ w2 = _
        rw [bnd_at q1]
        rfl
      | cons z zs =>
        rw [hC] at q1
        have hl : (0 : Int) < ((z :: zs).length : Nat) := by simp
        have hm1 := Int.emod_nonneg t (by omega : (((z :: zs).length : Nat) : Int) ≠ 0)
        have hm2 := Int.emod_lt_of_pos t hl
        have hlt : (t % (((z :: zs).length : Nat) : Int)).toNat < (z :: zs).length := by omega
        refine ⟨(z :: zs)[(t % (((z :: zs).length : Nat) : Int)).toNat], ?_⟩
        show bnd (fB _ _) _ w2 = _
        rw [bnd_at q1]
        show fCell 0 _ _ w2 = _
        unfold fCell
        rw [onW_e (by show _ = some (Sl.fz (.raw (.ref w1.d))); rw [hd]; rfl)]
        have q2 : fLenC 0 [Sl.fz (.raw (.ref d)), .fz (.int k), .un, .fz (.int t), .un, .un] w2 = some (.ok (.int ((z :: zs).length : Nat)), w2) := by
          unfold fLenC
          rw [onW_e (by show _ = some (Sl.fz (.raw (.ref w1.d))); rw [hd]; rfl), hC]
        rw [bnd_at (f2_ret (t := .int t) (int_ret (fa := fVar 3) (i := t) (w' := w2) rfl) q2 (mod_e hl)), intM_e, ret_bnd]
        rw [onW_e (by show _ = some (Sl.fz (.raw (.ref w1.d))); rw [hd]; rfl)]
        rw [if_pos hm1, hC, List.getElem?_eq_getElem hlt]
    rw [seq_ret (dSet_ret e4)]
    show ∃ i w', seqD (dSet 5 _) _ [Sl.fz (.raw (.ref d)), .fz (.int k), .un, .fz (.int t), .fz (.int cell), .un] w2 = _ ∧ _
    have m1 := Int.emod_nonneg cell (by decide : (2147483629 : Int) ≠ 0)
    have m2 := Int.emod_lt_of_pos cell (by decide : (0 : Int) < 2147483629)
    refine ex_of (seq_ret (dSet_ret (f2_ret (u := .int 2147483647) (int_ret (f2_ret (u := .int 3) (f2_ret (u := .int 12345) (f2_ret (f2_ret (u := .int 2147483629) (int_ret (i := cell) (w' := w2) rfl) rfl (mod_e (by decide))) (f2_ret (t := .int 69621) (u := .int t) (w2 := w2) rfl rfl (cmul_e ⟨by decide, by decide⟩)) add_e) rfl add_e) rfl (cpow_e ⟨by omega, by omega⟩ ⟨by decide, by decide⟩))) rfl (mod_e (by decide))))) ?_
    generalize hmix : (cell % 2147483629 + 69621 * t + 12345) ^ (Int.toNat 3) % 2147483647 = mix
    have x1 : 0 ≤ mix := by rw [← hmix]; exact Int.emod_nonneg _ (by decide)
    have x2 : mix < 2147483647 := by rw [← hmix]; exact Int.emod_lt_of_pos _ (by decide)
    refine ⟨_, w2, dRet_ret (f2_ret (u := .int k) (int_ret (f2_ret (u := .int 13) (f2_ret (u := .int 2147483587) (int_ret (f2_ret (u := .int 5) (f2_ret (t := .int mix) (w1 := w2) rfl (f2_ret (t := .int 104729) (u := .int t) (w2 := w2) rfl rfl (cmul_e ⟨by decide, by decide⟩)) add_e) rfl (cpow_e ⟨by omega, by omega⟩ ⟨by decide, by decide⟩))) rfl (mod_e (by decide))) rfl (cdiv_e ⟨by decide, by decide⟩))) rfl (mod_e hk)), ⟨Int.emod_nonneg _ (by omega), Int.emod_lt_of_pos _ hk⟩, hw2, by show w1.turn + 1 ≤ _; omega⟩
end
end PL

set_option maxHeartbeats 4000000
namespace PL
open PySem L2
/-! T12: loops of draws; _law_pick, _law_names. -/
section
variable {d : Addr} {n k N : Nat}
theorem Tot.eq {α : Type} {m m' : M Dr α} {P : α → Prop} (e : m = m') (h : Tot d n m' P) : Tot d n m P := by rw [e]; exact h
/-- goes on, with a state of which P -/
def Nx (P : Rho → Prop) : Fl → Prop := fun fl => ∃ ρ', fl = .nx ρ' ∧ P ρ'
theorem Tot.seq {g h : Rho → M Dr Fl} {ρ : Rho} {P : Rho → Prop} {Q : Fl → Prop} (hg : Tot d n (g ρ) (Nx P)) (hh : ∀ ρ', P ρ' → Tot d k (h ρ') Q) (e : n + k ≤ N) : Tot d N (seqD g h ρ) Q := by
  refine Tot.bnd hg (fun fl hf => ?_) e
  obtain ⟨ρ', rfl, hp⟩ := hf
  exact hh ρ' hp
theorem Tot.set {i : Nat} {fa : Rho → M Dr T} {ρ : Rho} {P : T → Prop} (h : Tot d n (fa ρ) P) : Tot d n (dSet i (xFz fa) ρ) (Nx fun ρ' => ∃ t, P t ∧ ρ' = ρ.set i (.fz t)) := by
  show Tot d n (PL.bnd (PL.bnd (fa ρ) fun t => PL.ret (Sl.fz t)) _) _
  rw [bnd_assoc]
  refine Tot.bnd h (fun t ht => ?_) (k := 0) (Nat.le_refl _)
  exact .ofRet rfl ⟨_, rfl, t, ht, rfl⟩
theorem Tot.f2 {g : T → T → Option T} {fa fb : Rho → M Dr T} {ρ : Rho} {P Q R : T → Prop} (ha : Tot d n (fa ρ) P) (hb : Tot d k (fb ρ) Q) (hg : ∀ t u, P t → Q u → ∃ v, g t u = some v ∧ R v) (e : n + k ≤ N) : Tot d N (f2 g fa fb ρ) R := by
  refine Tot.bnd ha (fun t ht => ?_) (k := k) e
  refine Tot.bnd hb (fun u hu => ?_) (k := 0) (Nat.le_refl _)
  obtain ⟨v, h1, h2⟩ := hg t u ht hu
  rw [h1]
  exact .ofRet rfl h2
theorem Tot.cons {fa : Rho → M Dr T} {fr : Rho → M Dr (List T)} {ρ : Rho} {P : T → Prop} {Q : List T → Prop} (ha : Tot d n (fa ρ) P) (hr : Tot d k (fr ρ) Q) (e : n + k ≤ N) : Tot d N (aCons fa fr ρ) (fun ts => ∃ t us, ts = t :: us ∧ P t ∧ Q us) := by
  refine Tot.bnd ha (fun t ht => ?_) e
  refine Tot.bnd hr (fun us hu => ?_) (k := 0) (Nat.le_refl _)
  exact .ofRet rfl ⟨t, us, rfl, ht, hu⟩
theorem Tot.val {fa : Rho → M Dr T} {ρ : Rho} {t : T} (e : fa ρ = ret t) : Tot d 0 (fa ρ) (fun u => u = t) := .ofRet e rfl
theorem nx_set {i : Nat} {ρ : Rho} {P : T → Prop} {Q : Rho → Prop} (h : ∀ t, P t → Q (ρ.set i (.fz t))) : ∀ fl, (Nx fun ρ' => ∃ t, P t ∧ ρ' = ρ.set i (.fz t)) fl → Nx Q fl := fun fl ⟨ρ', e, t, ht, e2⟩ => ⟨ρ', e, by rw [e2]; exact h t ht⟩
theorem Tot.iff_ {gc : Rho → M Dr Bool} {g h : Rho → M Dr Fl} {ρ : Rho} {P : Bool → Prop} {Q : Fl → Prop} (hc : Tot d n (gc ρ) P) (hg : P true → Tot d k (g ρ) Q) (hh : P false → Tot d k (h ρ) Q) (e : n + k ≤ N) : Tot d N (dIf gc g h ρ) Q := by
  refine Tot.bnd hc (fun b hb => ?_) e
  cases b with
  | true => exact hg hb
  | false => exact hh hb
theorem Tot.test {fa : Rho → M Dr T} {ρ : Rho} {P : Bool → Prop} (h : Tot d n (fa ρ) (fun t => ∃ b, t = .bl b ∧ P b)) : Tot d n (fB fa ρ) P := by
  refine Tot.bnd h (fun t ht => ?_) (k := 0) (Nat.le_refl _)
  obtain ⟨b, rfl, hb⟩ := ht
  exact .ofRet rfl hb
theorem Tot.asL {f : Rho → M Dr (List T)} {ρ : Rho} {P : List T → Prop} (h : Tot d n (f ρ) P) : Tot d n (asL f ρ) (fun t => ∃ ts, t = .lst ts ∧ P ts) := by
  refine Tot.bnd h (fun ts ht => ?_) (k := 0) (Nat.le_refl _)
  exact .ofRet rfl ⟨ts, rfl, ht⟩
theorem draw_call (c : Cs) {ρ : Rho} {fa fb : Rho → M Dr T} {k : Int} (h1 : fa ρ = ret (.raw (.ref d))) (h2 : fb ρ = ret (.int k)) (hk : 0 < k) (hk2 : k < 1000000) : Tot d 1 (fCall 2 (aCons fa (aCons fb aNil)) (F__law_draw c) ρ) (fun t => ∃ i : Int, t = .int i ∧ 0 ≤ i ∧ i < k) :=
  Tot.eq (fCall_e (aCons_e h1 (aCons_e h2 aNil_e)) rfl) (draw_tot c hk hk2)
theorem Tot.run {m : Nat} {g : Rho → M Dr Fl} {ts : List T} {P : T → Prop} (h : Tot d n (g (ts.map Sl.fz ++ List.replicate m Sl.un)) (fun fl => ∃ t, fl = .rt t ∧ P t)) : Tot d n (run m g ts) P := by
  refine Tot.bnd h (fun fl hf => ?_) (k := 0) (Nat.le_refl _)
  obtain ⟨t, rfl, ht⟩ := hf
  exact .ofRet rfl ht
theorem Tot.rt {fa : Rho → M Dr T} {ρ : Rho} {P : T → Prop} (h : Tot d n (fa ρ) P) : Tot d n (dRet fa ρ) (fun fl => ∃ t, fl = .rt t ∧ P t) := by
  refine Tot.bnd h (fun t ht => ?_) (k := 0) (Nat.le_refl _)
  exact .ofRet rfl ⟨t, rfl, ht⟩
theorem Tot.loop {i : Nat} {g : Rho → M Dr Fl} (Inv : List T → Rho → Prop) (step : ∀ t ts ρ, Inv (t :: ts) ρ → Tot d n (g (ρ.set i (.fz t))) (fun fl => ∃ ρ2, fl = .nx ρ2 ∧ Inv ts ρ2)) : ∀ ts ρ, Inv ts ρ → Tot d (ts.length * n) (loopD (gN i) g ts ρ) (fun fl => ∃ ρ', fl = .nx ρ' ∧ Inv [] ρ')
  | [], ρ, h => .ofRet rfl ⟨ρ, rfl, h⟩
  | t :: ts, ρ, h => by
    unfold loopD
    show Tot d _ (PL.bnd (lift (some (ρ.set i (.fz t)))) _) _
    rw [lift_some, ret_bnd]
    refine Tot.bnd (step t ts ρ h) (fun fl hf => ?_) (k := ts.length * n) (by rw [List.length_cons, Nat.succ_mul]; omega)
    obtain ⟨ρ2, rfl, h2⟩ := hf
    exact Tot.loop Inv step ts ρ2 h2
theorem Tot.comp {vs : List Nat} {i : Nat} {ge : Rho → M Dr T} {ρ : Rho} {P : T → Prop} : ∀ ts : List T, (∀ t ∈ ts, Tot d n (ge ((wipeR ρ vs).set i (.fz t))) P) → Tot d (ts.length * n) (compD vs (gN i) tYesM ge ρ ts) (fun us => us.length = ts.length ∧ ∀ u ∈ us, P u)
  | [], _ => .ofRet rfl ⟨rfl, fun _ h => nomatch h⟩
  | t :: ts, h => by
    unfold compD
    show Tot d _ (PL.bnd (lift (some ((wipeR ρ vs).set i (.fz t)))) _) _
    rw [lift_some, ret_bnd]
    show Tot d _ (PL.bnd (PL.noEr (PL.ret true)) _) _
    rw [noEr_ret, ret_bnd, if_pos rfl]
    refine Tot.bnd (h t List.mem_cons_self).noEr (fun u hu => ?_) (k := ts.length * n) (by rw [List.length_cons, Nat.succ_mul]; omega)
    refine Tot.bnd (Tot.comp ts fun v hv => h v (List.mem_cons_of_mem _ hv)) (fun us hus => ?_) (k := 0) (Nat.le_refl _)
    refine .ofRet rfl ⟨by rw [List.length_cons, List.length_cons, hus.1], fun v hv => ?_⟩
    rcases List.mem_cons.mp hv with rfl | hv
    · exact hu
    · exact hus.2 v hv
/-- a while loop with a measure -/
theorem Tot.whl {gc : Rho → M Dr Bool} {g : Rho → M Dr Fl} (Inv : Nat → Rho → Prop) (hc : ∀ m ρ, Inv m ρ → gc ρ = ret (decide (0 < m))) (step : ∀ m ρ, 0 < m → Inv m ρ → Tot d n (g ρ) (fun fl => ∃ ρ2 m2, fl = .nx ρ2 ∧ m2 < m ∧ Inv m2 ρ2)) : ∀ m ρ, Inv m ρ → Tot d (m * n) (dWhile gc g ρ) (fun fl => ∃ ρ', fl = .nx ρ' ∧ Inv 0 ρ') := by
  intro m
  induction m using Nat.strongRecOn with
  | ind m ih =>
    intro ρ h
    rw [dWhile_eq, hc m ρ h, ret_bnd]
    by_cases hm : 0 < m
    · rw [decide_eq_true hm, if_pos rfl]
      refine Tot.bnd (step m ρ hm h) (fun fl hf => ?_) (k := (m - 1) * n) (by
        obtain ⟨m', rfl⟩ : ∃ m', m = m' + 1 := ⟨m - 1, by omega⟩
        rw [Nat.succ_mul, Nat.add_sub_cancel]; omega)
      obtain ⟨ρ2, m2, rfl, hlt, h2⟩ := hf
      exact (ih m2 hlt ρ2 h2).mono (Nat.mul_le_mul_right n (by omega)) fun _ q => q
    · rw [decide_eq_false hm, if_neg (by simp)]
      have : m = 0 := by omega
      subst this
      exact .ofRet rfl ⟨ρ, rfl, h⟩
end
section
variable {d : Addr}
theorem at_mem {α : Type} {ts : List α} {i : Int} (h0 : 0 ≤ i) (h1 : i < (ts.length : Nat)) : ∃ t, atI ts i = some t ∧ t ∈ ts := by
  have hlt : i.toNat < ts.length := by omega
  refine ⟨ts[i.toNat], ?_, List.getElem_mem _⟩
  unfold atI ixN
  rw [if_pos h0, if_pos h1]
  exact List.getElem?_eq_getElem hlt
theorem pick_lst (c : Cs) {ts : List T} (h0 : 0 < ts.length) (hl : ts.length < 1000000) : Tot d 1 (F__law_pick c [.raw (.ref d), .lst ts]) (fun t => t ∈ ts) := by
  refine Tot.run (Tot.rt (Tot.f2 (n := 0) (k := 1) (P := fun t => t = .lst ts) (.val rfl) (draw_call c (k := (ts.length : Nat)) rfl (f1_e (t := .lst ts) rfl rfl) (by omega) (by omega)) (fun t u ht hu => ?_) (Nat.le_refl _)))
  subst ht
  obtain ⟨i, rfl, h1, h2⟩ := hu
  exact at_mem h1 h2
theorem pick_str (c : Cs) {z : Str} (h0 : 0 < z.length) (hl : z.length < 1000) : Tot d 1 (F__law_pick c [.raw (.ref d), .str z]) (fun t => ∃ x, t = .str ⟨#[x]⟩ ∧ x ∈ z.cps.toList) := by
  have hz : z.length ≤ sizeLine := by rw [sizeLine_eq]; omega
  have hlen : lenT (.str z) = some (.int (z.length : Nat)) := by show (if z.length ≤ sizeLine then some (T.int (z.length : Nat)) else none) = _; rw [if_pos hz]
  refine Tot.run (Tot.rt (Tot.f2 (n := 0) (k := 1) (P := fun t => t = .str z) (.val rfl) (draw_call c (k := (z.length : Nat)) rfl (f1_e (t := .str z) rfl hlen) (by omega) (by omega)) (fun t u ht hu => ?_) (Nat.le_refl _)))
  subst ht
  obtain ⟨i, rfl, h1, h2⟩ := hu
  obtain ⟨x, hx, hm⟩ := at_mem (ts := z.cps.toList) h1 (by rw [Array.length_toList]; exact h2)
  refine ⟨.str ⟨#[x]⟩, ?_, x, rfl, hm⟩
  show (if z.length ≤ sizeLine then (atI z.cps.toList i).map fun c => T.str ⟨#[c]⟩ else none) = _
  rw [if_pos hz, hx]
  rfl
/-! ### words -/
def LET : Str := "abcdefghijklmnopqrstuvwxyz"
theorem let_in : ∀ x ∈ LET.cps.toList, inL x = true := by
  have : LET.cps.toList.all inL = true := by decide +kernel
  exact fun x hx => List.all_eq_true.mp this x hx
theorem isStep_iff {s : Str} : isStep s = true ↔ 1 ≤ s.length ∧ s.length ≤ 6 ∧ ∀ x ∈ s.cps.toList, inL x = true := by
  unfold isStep
  simp only [Bool.and_eq_true, decide_eq_true_eq, List.all_eq_true]
  exact ⟨fun ⟨⟨a, b⟩, c⟩ => ⟨a, b, c⟩, fun ⟨a, b, c⟩ => ⟨⟨a, b⟩, c⟩⟩
theorem str_app_len (a b : Str) : (a ++ b).length = a.length + b.length := by
  show (a.cps ++ b.cps).size = _
  rw [Array.size_append]
  rfl
theorem str_app_toList (a b : Str) : (a ++ b).cps.toList = a.cps.toList ++ b.cps.toList := by
  show (a.cps ++ b.cps).toList = _
  rw [Array.toList_append]
theorem cut5_toList (z : Str) : (cutS z none (some 5)).cps.toList = z.cps.toList.take 5 := by
  unfold cutS
  show (z.cps.toList.drop 0).take (HT.sIx z.length z.length (some ((5 : Nat) : Int)) - 0) = _
  rw [HT.sIx_nat, List.drop_zero, Nat.sub_zero]
  by_cases h : z.length ≤ 5
  · rw [Nat.min_eq_right h]
    rw [List.take_of_length_le (by rw [Array.length_toList]; exact Nat.le_refl _), List.take_of_length_le (by rw [Array.length_toList]; exact h)]
  · rw [Nat.min_eq_left (by omega)]
theorem len_toList (z : Str) : z.cps.toList.length = z.length := Array.length_toList
theorem cut5_step {z : Str} (h : isStep z = true) : isStep (cutS z none (some 5)) = true := by
  rw [isStep_iff] at h ⊢
  rw [← len_toList, cut5_toList, List.length_take, len_toList]
  exact ⟨by omega, by omega, fun x hx => h.2.2 x (List.mem_of_mem_take hx)⟩
theorem cut5_len {z : Str} : (cutS z none (some 5)).length ≤ 5 := by
  rw [← len_toList, cut5_toList, List.length_take]
  omega
theorem app_step {z : Str} {x : Nat} (h : isStep z = true) (h5 : z.length ≤ 5) (hx : inL x = true) : isStep (z ++ ⟨#[x]⟩) = true := by
  rw [isStep_iff] at h ⊢
  rw [str_app_len, str_app_toList]
  refine ⟨by omega, by show z.length + 1 ≤ 6; omega, fun y hy => ?_⟩
  rcases List.mem_append.mp hy with hy | hy
  · exact h.2.2 y hy
  · rcases List.mem_singleton.mp hy with rfl
    exact hx
theorem nodup_sub {α : Type} [DecidableEq α] : ∀ {l m : List α}, l.Nodup → (∀ x ∈ l, x ∈ m) → l.length ≤ m.length
  | [], m, _, _ => Nat.zero_le _
  | x :: l, m, h, hs => by
    have hx : x ∈ m := hs x List.mem_cons_self
    have hn := List.nodup_cons.mp h
    have ih := nodup_sub (l := l) (m := m.erase x) hn.2 fun y hy => (List.mem_erase_of_ne (fun e => hn.1 (by rw [← e]; exact hy))).mpr (hs y (List.mem_cons_of_mem _ hy))
    rw [List.length_erase_of_mem hx] at ih
    have : 0 < m.length := List.length_pos_of_mem hx
    rw [List.length_cons]
    omega
/-- the word and those near it -/
def nears (w : Str) : List Str := w :: LET.cps.toList.map fun x => cutS w none (some 5) ++ ⟨#[x]⟩
theorem nears_step {w : Str} (h : isStep w = true) : ∀ s ∈ nears w, isStep s = true := by
  intro s hs
  rcases List.mem_cons.mp hs with rfl | hs
  · exact h
  · obtain ⟨x, hx, rfl⟩ := List.mem_map.mp hs
    exact app_step (cut5_step h) cut5_len (let_in x hx)
theorem let_nodup : LET.cps.toList.Nodup := by decide +kernel
theorem let_len : LET.cps.toList.length = 26 := by decide +kernel
theorem nears_new (w : Str) {xs : List Str} (h : xs.length < 26) : ∃ s ∈ nears w, s ∉ xs := by
  apply Classical.byContradiction
  intro hc
  have hall : ∀ s ∈ nears w, s ∈ xs := fun s hs => Classical.byContradiction fun z => hc ⟨s, hs, z⟩
  have nd : (LET.cps.toList.map fun x => cutS w none (some 5) ++ (⟨#[x]⟩ : Str)).Nodup := by
    refine List.Pairwise.map _ (fun a b hab e => hab ?_) let_nodup
    have := congrArg (fun z : Str => z.cps.toList) e
    rw [str_app_toList, str_app_toList] at this
    have := List.append_cancel_left this
    simpa using this
  have := nodup_sub nd fun s hs => hall s (List.mem_cons_of_mem _ hs)
  rw [List.length_map, let_len] at this
  omega
end
/-! T13: what is promised of the parts of a body that draws; _law_names. -/
section
variable {d : Addr} {n k N : Nat}
/-- ints from 0 -/
theorem range_tot {fa : Rho → M Dr T} {ρ : Rho} {lo hi : Int} (h0 : hi < 1000000) (h : Tot d n (fa ρ) (fun t => ∃ i : Int, t = .int i ∧ lo ≤ i ∧ i ≤ hi)) (hlo : 0 ≤ lo) : Tot d n (fRange1 fa ρ) (fun ts => (lo : Int) ≤ (ts.length : Nat) ∧ ((ts.length : Nat) : Int) ≤ hi) := by
  refine Tot.bnd h (fun t ht => ?_) (k := 0) (Nat.le_refl _)
  obtain ⟨i, rfl, h1, h2⟩ := ht
  show Tot d 0 (PL.bnd (PL.ret i) _) _
  rw [ret_bnd, if_pos ⟨by omega, by omega⟩]
  refine .ofRet rfl ?_
  show lo ≤ (((List.range i.toNat).map fun j => T.int (0 + (j : Nat))).length : Nat) ∧ _
  unfold intsT
  rw [List.length_map, List.length_range]
  omega
theorem lc_tot {fi : Rho → M Dr (List T)} {vs : List Nat} {i : Nat} {ge : Rho → M Dr T} {ρ : Rho} {m : Nat} {Q : List T → Prop} {P : T → Prop} (hi : Tot d n (fi ρ) (fun ts => ts.length ≤ m ∧ Q ts)) (hm : m ≤ 1000) (he : ∀ t, Tot d k (ge ((wipeR ρ vs).set i (.fz t))) P) (e : n + m * k ≤ N) :
    Tot d N (fLc fi vs (gN i) tYesM ge ρ) (fun us => (∃ ts : List T, Q ts ∧ us.length = ts.length) ∧ ∀ u ∈ us, P u) := by
  refine Tot.bnd hi (fun ts ht => ?_) (k := m * k) e
  rw [if_pos (by rw [sizeLine_eq]; omega)]
  refine (Tot.comp (P := P) ts fun t _ => he t).mono (Nat.mul_le_mul_right k ht.1) fun us hus => ⟨⟨ts, ht.2, hus.1⟩, hus.2⟩
end
theorem strsT_map : ∀ xs : List Str, strsT (xs.map T.str) = some xs
  | [] => rfl
  | x :: xs => by rw [List.map_cons]; unfold strsT; rw [strsT_map xs]; rfl
theorem lst_nil {W : Type} {ρ : Rho} : (asL (fLst aNil) ρ : M W T) = ret (sLst []) := asL_e (by unfold fLst; rw [aNil_e, ret_bnd, if_pos (by rw [sizeLine_eq]; simp)]; rfl)
/-- letters joined -/
theorem glue_fold : ∀ (xs : List Nat) (acc : Array Nat), ((xs.map fun x => (⟨#[x]⟩ : Str)).foldl (fun acc p => acc ++ (Str.ofString "").cps ++ p.cps) acc).toList = acc.toList ++ xs
  | [], acc => by simp
  | x :: xs, acc => by
    rw [List.map_cons, List.foldl_cons, glue_fold xs]
    rw [Array.toList_append, Array.toList_append, show (Str.ofString "").cps.toList = [] from by decide +kernel]
    simp
theorem join_letters (xs : List Nat) : (Txt.join "" (xs.map fun x => (⟨#[x]⟩ : Str))).cps.toList = xs := by
  unfold Txt.join Builtin.Str.glued
  cases xs with
  | nil => rfl
  | cons x xs =>
    show (((xs.map fun x => (⟨#[x]⟩ : Str)).foldl (fun acc p => acc ++ (Str.ofString "").cps ++ p.cps) #[x]).toList) = _
    rw [glue_fold]
    rfl
theorem letters_of : ∀ {us : List T}, (∀ u ∈ us, ∃ x, u = T.str ⟨#[x]⟩ ∧ x ∈ LET.cps.toList) → ∃ xs : List Nat, us = xs.map (fun x => T.str ⟨#[x]⟩) ∧ ∀ x ∈ xs, x ∈ LET.cps.toList
  | [], _ => ⟨[], rfl, fun _ h => nomatch h⟩
  | u :: us, h => by
    obtain ⟨x, hx, hm⟩ := h u List.mem_cons_self
    obtain ⟨xs, e, ha⟩ := letters_of fun v hv => h v (List.mem_cons_of_mem _ hv)
    refine ⟨x :: xs, by rw [hx, e]; rfl, fun y hy => ?_⟩
    rcases List.mem_cons.mp hy with rfl | hy
    · exact hm
    · exact ha y hy
theorem joinT_letters {xs : List Nat} (hl : xs.length ≤ 100) : joinT "" (.lst (xs.map fun x => T.str ⟨#[x]⟩)) = some (.str (Txt.join "" (xs.map fun x => (⟨#[x]⟩ : Str)))) := by
  have e : (xs.map fun x => T.str ⟨#[x]⟩) = (xs.map fun x => (⟨#[x]⟩ : Str)).map T.str := by rw [List.map_map]; rfl
  show ((some (xs.map fun x => T.str ⟨#[x]⟩)).bind fun ts => (strsT ts).bind fun ys => if (ys.map (·.length)).sum + ys.length * (Str.ofString "").length ≤ 16777216 then some (T.str (Txt.join "" ys)) else none) = _
  rw [e]
  show ((strsT _).bind fun ys => _) = _
  rw [strsT_map]
  show (if ((xs.map fun x => (⟨#[x]⟩ : Str)).map (·.length)).sum + (xs.map fun x => (⟨#[x]⟩ : Str)).length * (Str.ofString "").length ≤ 16777216 then _ else none) = _
  rw [if_pos ?_]
  rw [show (Str.ofString "").length = 0 from by decide +kernel, Nat.mul_zero, Nat.add_zero, List.map_map]
  have : ∀ l : List Nat, (l.map ((fun s : Str => s.length) ∘ fun x => (⟨#[x]⟩ : Str))).sum = l.length := fun l => by
    induction l with
    | nil => rfl
    | cons a l ih => rw [List.map_cons, List.sum_cons, ih, List.length_cons]; show 1 + _ = _; omega
  rw [this]
  omega
theorem join_step {xs : List Nat} (h1 : 1 ≤ xs.length) (h2 : xs.length ≤ 6) (ha : ∀ x ∈ xs, x ∈ LET.cps.toList) : isStep (Txt.join "" (xs.map fun x => (⟨#[x]⟩ : Str))) = true := by
  rw [isStep_iff, ← len_toList, join_letters]
  exact ⟨h1, h2, fun x hx => let_in x (ha x hx)⟩
section
variable {W : Type} {ρ : Rho}
theorem fLst_e {fa : Rho → M W (List T)} {ts : List T} (e : fa ρ = ret ts) (h : ts.length ≤ 1000) : fLst fa ρ = ret ts := by
  unfold fLst
  rw [e, ret_bnd, if_pos (by rw [sizeLine_eq]; omega)]
theorem fTup_e {fa : Rho → M W (List T)} {ts : List T} (e : fa ρ = ret ts) (h : ts.length ≤ 1000) : fTup fa ρ = ret (.tup ts) := by
  unfold fTup
  rw [e, ret_bnd, if_pos (by rw [sizeLine_eq]; omega)]
theorem fSlice_e {fa : Rho → M W T} {l h : Rho → M W (Option Int)} {t u : T} {lo hi : Option Int} (e : fa ρ = ret t) (e1 : l ρ = ret lo) (e2 : h ρ = ret hi) (q : sliceT lo hi t = some u) : fSlice fa l h ρ = ret u := by
  unfold fSlice
  rw [e, ret_bnd, e1, ret_bnd, e2, ret_bnd, q]
  rfl
theorem fPart_e {fa : Rho → M W T} {i : Int} (e : fa ρ = ret (.int i)) : fPart fa ρ = ret (some i) := by
  unfold fPart
  rw [e, ret_bnd]
  rfl
end
end PL

set_option maxHeartbeats 4000000
/-! X1: rows that are full, by the program and by the law. -/
namespace PL
open PySem L2
/-- a thing that may be asked whether it is a step -/
def el (u : T) : Prop := (∃ x, u = .str x ∧ x.length ≤ 100000) ∨ isaT "str" u = some (.bl false)
def rw_ (t : T) : Prop := (∃ ts, t = .tup ts ∧ ts.length ≤ 100000 ∧ ∀ u ∈ ts, el u) ∨ isaT "tuple" t = some (.bl false)
def stepT (u : T) : Bool := match u with
  | .str x => isStep x
  | _ => false
def fullT (t : T) : Bool := match t with
  | .tup ts => !ts.isEmpty && ts.all stepT
  | _ => false
theorem isa_str {u : T} (h : isaT "str" u = some (.bl false)) : ∀ x, u ≠ .str x := fun x e => by
  subst e
  rw [isa_str_str] at h
  cases h
theorem isa_tup {u : T} (h : isaT "tuple" u = some (.bl false)) : ∀ x, u ≠ .tup x := fun x e => by
  subst e
  rw [isa_tup_tup] at h
  cases h
theorem stepT_not {u : T} (h : isaT "str" u = some (.bl false)) : stepT u = false := by
  unfold stepT
  split
  · exact absurd rfl (isa_str h _)
  · rfl
theorem fullT_not {u : T} (h : isaT "tuple" u = some (.bl false)) : fullT u = false := by
  unfold fullT
  split
  · exact absurd rfl (isa_tup h _)
  · rfl
section
variable {W : Type}
theorem F_is_step_all (c : Cs) {u : T} (h : el u) : F_is_step c [u] = (ret (.bl (stepT u)) : M W T) := by
  rcases h with ⟨x, rfl, hx⟩ | h
  · exact F_is_step_str c hx
  · rw [stepT_not h]
    unfold F_is_step g_is_step
    rw [ev_run]
    simp -implicitDefEqProofs [h]
theorem bools_map (f : T → Bool) : ∀ l : List T, boolsT (l.map fun n => T.bl (f n)) = some (l.map f)
  | [] => rfl
  | a :: l => by rw [List.map_cons]; unfold boolsT; rw [bools_map f l]; rfl
theorem all_map (f : T → Bool) (l : List T) : allT (.lst (l.map fun n => T.bl (f n))) = some (.bl (l.all f)) := by
  show (boolsT _).map _ = _
  rw [bools_map]
  show some (T.bl ((l.map f).all id)) = _
  rw [List.all_map]
  rfl
@[simp] theorem ev_eqEt {neg : Bool} {ts : List T} : eqE neg (.tup ts) (.tup []) = some (.bl (if neg then !ts.isEmpty else ts.isEmpty)) := (rfl)
@[simp] theorem ev_eqEl {neg : Bool} {ts : List T} : eqE neg (.lst ts) (.lst []) = some (.bl (if neg then !ts.isEmpty else ts.isEmpty)) := (rfl)
theorem F_is_full_row_e (c : Cs) {t : T} (h : rw_ t) : F_is_full_row c [t] = (ret (.bl (fullT t)) : M W T) := by
  rcases h with ⟨ts, rfl, hl, he⟩ | h
  · have e1 : (fLc (fItems (fVar 0)) [1] (gN 1) tYesM (fCall 1 (aCons (fVar 1) aNil) (F_is_step c)) [Sl.fz (.tup ts), Sl.un] : M W (List T)) = ret (ts.map fun u => .bl (stepT u)) :=
      fLc_map (fun u => .bl (stepT u)) rfl (by rw [sizeLine_eq]; omega) fun u hu => by
        show fCall 1 (aCons (fVar 1) aNil) (F_is_step c) [Sl.fz (.tup ts), .fz u] = _
        simp -implicitDefEqProofs [F_is_step_all c (he u hu)]
    unfold F_is_full_row g_is_full_row
    rw [ev_run]
    cases hs : ts.isEmpty with
    | true => simp -implicitDefEqProofs [isa_tup_tup, hs, fullT]
    | false => simp -implicitDefEqProofs [isa_tup_tup, hs, fullT, e1, all_map]
  · rw [fullT_not h]
    unfold F_is_full_row g_is_full_row
    rw [ev_run]
    simp -implicitDefEqProofs [h]
end
end PL

set_option maxHeartbeats 4000000
/-! X2: _law_is_full. -/
namespace PL
open PySem L2
def isS (u : T) : Bool := match u with
  | .str _ => true
  | _ => false
theorem isS_not {u : T} (h : isaT "str" u = some (.bl false)) : isS u = false := by
  unfold isS
  split
  · exact absurd rfl (isa_str h _)
  · rfl
theorem stepT_isS {u : T} (h : stepT u = true) : isS u = true := by
  unfold stepT at h
  split at h
  · rfl
  · cases h
section
variable {W : Type}
theorem filt_no {ts : List T} {p q : T → Bool} (h : ∀ u ∈ ts, p u = !(q u)) : ((ts.filter p).map id).isEmpty = ts.all q := by
  rw [List.map_id]
  induction ts with
  | nil => rfl
  | cons t ts ih =>
    have ih := ih fun u hu => h u (List.mem_cons_of_mem _ hu)
    rw [List.filter_cons, List.all_cons, h t List.mem_cons_self]
    cases hq : q t with
    | true => simpa using ih
    | false => rfl
theorem len_chain {x : Str} {ρ : Rho} (h : ρ[2]? = some (.fz (.str x))) (hx : x.length ≤ 100000) : (fChain (ltT fun i j => decide (i ≤ j)) (ltT fun i j => decide (i ≤ j)) (fC (.int 1)) (f1 lenT (fVar 2)) (fC (.int 6)) ρ : M W T) = ret (.bl (decide (1 ≤ x.length) && decide (x.length ≤ 6))) := by
  have e : (f1 lenT (fVar 2) ρ : M W T) = ret (.int (x.length : Nat)) := f1_e (fVar_e h) (ev_lenS (by omega))
  by_cases h1 : 1 ≤ x.length
  · rw [fChain_t (t := .int 1) (u := .int (x.length : Nat)) (v := .int 6) (z := .bl (decide (x.length ≤ 6))) rfl e (by show some (T.bl (decide ((1 : Int) ≤ (x.length : Nat)))) = _; rw [decide_eq_true (by omega)]) rfl (by show some (T.bl (decide (((x.length : Nat) : Int) ≤ 6))) = _; congr 2; exact decide_eq_decide.mpr (by omega))]
    simp [h1]
  · rw [fChain_f (t := .int 1) (u := .int (x.length : Nat)) rfl e (by show some (T.bl (decide ((1 : Int) ≤ (x.length : Nat)))) = _; rw [decide_eq_false (by omega)])]
    simp [h1]
theorem signs_all (x : Str) : (((signs x).filter fun u => match u with | .str z => !(inL (z.cps.getD 0 0)) | _ => true).map id).isEmpty = x.cps.toList.all inL := by
  rw [filt_no (q := fun u => match u with | .str z => inL (z.cps.getD 0 0) | _ => false) (fun u hu => by
    obtain ⟨n, _, rfl⟩ := List.mem_map.mp hu
    rfl)]
  unfold signs
  rw [List.all_map]
  rfl
theorem F__law_is_full_e (c : Cs) {t : T} (h : rw_ t) : F__law_is_full c [t] = (ret (.bl (fullT t)) : M W T) := by
  rcases h with ⟨ts, rfl, hl, he⟩ | h
  · have eA : (fLc (fItems (fVar 0)) [2] (gN 2) (bNot (fB (f1 (isaT "str") (fVar 2)))) (fVar 2) [Sl.fz (.tup ts), .fz (.str "abcdefghijklmnopqrstuvwxyz"), Sl.un, Sl.un] : M W (List T)) = ret ((ts.filter fun u => !(isS u)).map id) :=
      fLc_pure (fun u => !(isS u)) id rfl (by rw [sizeLine_eq]; omega) (fun u hu => by
        show bNot (fB (f1 (isaT "str") (fVar 2))) [Sl.fz (.tup ts), .fz (.str "abcdefghijklmnopqrstuvwxyz"), .fz u, Sl.un] = _
        rcases he u hu with ⟨x, rfl, _⟩ | hn
        · simp -implicitDefEqProofs [isa_str_str, isS]
        · simp -implicitDefEqProofs [hn, isS_not hn]) fun u hu _ => rfl
    unfold F__law_is_full g__law_is_full
    rw [ev_run]
    cases hs : ts.isEmpty with
    | true => simp -implicitDefEqProofs [isa_tup_tup, hs, fullT]
    | false =>
      have g1 := filt_no (ts := ts) (p := fun u => !(isS u)) (q := isS) fun _ _ => rfl
      cases ha : ts.all isS with
      | false =>
        rw [ha] at g1
        have hf : fullT (.tup ts) = false := by
          cases hb : ts.all stepT with
          | false => show (!ts.isEmpty && ts.all stepT) = false; rw [hb]; simp
          | true =>
            have : ts.all isS = true := List.all_eq_true.mpr fun u hu => stepT_isS (List.all_eq_true.mp hb u hu)
            rw [ha] at this
            cases this
        simp only [List.map_id] at g1 eA
        simp -implicitDefEqProofs [isa_tup_tup, hs, eA, g1, hf]
      | true =>
        rw [ha] at g1
        have eB : (fLc (fItems (fVar 0)) [2] (gN 2) (bOr (bNot (fB (fChain (ltT fun i j => decide (i ≤ j)) (ltT fun i j => decide (i ≤ j)) (fC (.int 1)) (f1 lenT (fVar 2)) (fC (.int 6))))) (fB (f2 (eqE true) (asL (fLc (fItems (fVar 2)) [3] (gN 3) (fB (f2 (inT true) (fVar 3) (fVar 1))) (fVar 3))) (asL (fLst aNil))))) (fVar 2) [Sl.fz (.tup ts), .fz (.str "abcdefghijklmnopqrstuvwxyz"), Sl.un, Sl.un] : M W (List T)) = ret ((ts.filter fun u => !(stepT u)).map id) :=
          fLc_pure (fun u => !(stepT u)) id rfl (by rw [sizeLine_eq]; omega) (fun u hu => by
            show bOr _ _ [Sl.fz (.tup ts), .fz (.str "abcdefghijklmnopqrstuvwxyz"), .fz u, Sl.un] = _
            rcases he u hu with ⟨x, rfl, hx⟩ | hn
            · have e2 : (fLc (fItems (fVar 2)) [3] (gN 3) (fB (f2 (inT true) (fVar 3) (fVar 1))) (fVar 3) [Sl.fz (.tup ts), .fz (.str "abcdefghijklmnopqrstuvwxyz"), .fz (.str x), Sl.un] : M W (List T)) = ret (((signs x).filter fun u => match u with | .str z => !(inL (z.cps.getD 0 0)) | _ => true).map id) :=
                fLc_pure _ id rfl (by show (x.cps.toList.map _).length ≤ _; rw [List.length_map, Array.length_toList, sizeLine_eq]; show x.length ≤ _; omega) (fun u hu => by
                  obtain ⟨n, _, rfl⟩ := List.mem_map.mp hu
                  exact fB_e (f2_e (t := .str ⟨#[n]⟩) (u := .str "abcdefghijklmnopqrstuvwxyz") rfl rfl rfl)) fun _ _ _ => rfl
              have e3 := signs_all x
              simp only [List.map_id] at e2 e3
              have e4 : stepT (.str x) = (decide (1 ≤ x.length) && decide (x.length ≤ 6) && x.cps.toList.all inL) := rfl
              rw [e4]
              have e5 := len_chain (W := W) (ρ := [Sl.fz (.tup ts), .fz (.str "abcdefghijklmnopqrstuvwxyz"), .fz (.str x), Sl.un]) rfl hx
              cases hb : (decide (1 ≤ x.length) && decide (x.length ≤ 6)) with
              | false =>
                rw [hb] at e5
                rw [bOr_t (bNot_e (fB_e e5))]
                rfl
              | true =>
                rw [hb] at e5
                rw [bOr_f (bNot_e (fB_e e5)), fB_e (f2_e (asL_e e2) (asL_e rfl) rfl), e3]
                rfl
            · have := List.all_eq_true.mp ha u hu
              rw [isS_not hn] at this
              cases this) fun _ _ _ => rfl
        have g2 := filt_no (ts := ts) (p := fun u => !(stepT u)) (q := stepT) fun _ _ => rfl
        have hf : fullT (.tup ts) = ts.all stepT := by show (!ts.isEmpty && ts.all stepT) = _; rw [hs]; rfl
        simp only [List.map_id] at g1 eA g2 eB
        rw [hf]
        simp -implicitDefEqProofs [isa_tup_tup, hs, eA, g1, eB, g2]
  · rw [fullT_not h]
    unfold F__law_is_full g__law_is_full
    rw [ev_run]
    simp -implicitDefEqProofs [h]
end
end PL

set_option maxHeartbeats 4000000
/-! X3: the first row that is not full, by need_rows and by _law_due. -/
namespace PL
open PySem L2
def lg (t : T) : Prop := (∃ ts, (t = .lst ts ∨ t = .tup ts) ∧ ts.length ≤ 100000 ∧ ∀ u ∈ ts, rw_ u) ∨ isaTT "list" "tuple" t = some (.bl false)
def badAt : Nat → List T → Option Nat
  | _, [] => none
  | k, t :: ts => if fullT t = true then badAt (k + 1) ts else some k
def dueO (t : T) : T := match itemsT t with
  | some ts => if ts.isEmpty then .int 0 else match badAt 0 ts with
    | some i => .int (i : Nat)
    | none => .non
  | none => .int 0
theorem kb_ll : kitB "list" "list" = some true := by decide +kernel
theorem kb_lt : kitB "list" "tuple" = some false := by decide +kernel
theorem kb_tl : kitB "tuple" "list" = some false := by decide +kernel
theorem isa2_l {ts : List T} : isaTT "list" "tuple" (.lst ts) = some (.bl true) := by
  show (Option.bind ((kitB "list" "list").map T.bl) fun u => ((kitB "list" "tuple").map T.bl).map fun v => match u, v with | .bl p, .bl q => T.bl (p || q) | _, _ => .bl false) = _
  rw [kb_ll, kb_lt]
  rfl
theorem isa2_t {ts : List T} : isaTT "list" "tuple" (.tup ts) = some (.bl true) := by
  show (Option.bind ((kitB "tuple" "list").map T.bl) fun u => ((kitB "tuple" "tuple").map T.bl).map fun v => match u, v with | .bl p, .bl q => T.bl (p || q) | _, _ => .bl false) = _
  rw [kb_tl, kb_tt]
  rfl
theorem items_not {t : T} (h : isaTT "list" "tuple" t = some (.bl false)) : itemsT t = none := by
  unfold itemsT
  split
  · rw [isa2_l] at h; cases h
  · rw [isa2_t] at h; cases h
  · rfl
section
variable {W : Type}
noncomputable abbrev needB (c : Cs) : Rho → M W Fl := dIf (bNot (fB (fCall 1 (aCons (fVar 2) aNil) (F_is_full_row c)))) (dRaise1 c.NoRow "at" (fVar 1)) (fun ρ => ret (.nx ρ))
theorem need_loop (c : Cs) (t0 : T) : ∀ (ts : List T) (k : Nat) (a b : Sl), (∀ u ∈ ts, rw_ u) →
    (badAt k ts = none → ∃ a' b', (loopD (gT2 1 2) (needB c) (enumTs k ts) [.fz t0, a, b] : M W Fl) = ret (.nx [.fz t0, a', b'])) ∧
    (∀ i, badAt k ts = some i → (loopD (gT2 1 2) (needB c) (enumTs k ts) [.fz t0, a, b] : M W Fl) = raiseM ⟨c.NoRow, ["at"], [.int (i : Nat)]⟩)
  | [], k, a, b, _ => ⟨fun _ => ⟨a, b, rfl⟩, fun _ z => nomatch z⟩
  | u :: ts, k, a, b, h => by
    have hu := F_is_full_row_e (W := W) c (h u List.mem_cons_self)
    have ih := need_loop c t0 ts (k + 1) (.fz (.int (k : Nat))) (.fz u) fun v hv => h v (List.mem_cons_of_mem _ hv)
    have e : (loopD (gT2 1 2) (needB c) (enumTs k (u :: ts)) [.fz t0, a, b] : M W Fl) = bnd (needB c [.fz t0, .fz (.int (k : Nat)), .fz u]) fun fl => match fl with
      | .nx ρ2 => loopD (gT2 1 2) (needB c) (enumTs (k + 1) ts) ρ2
      | .ct ρ2 => loopD (gT2 1 2) (needB c) (enumTs (k + 1) ts) ρ2
      | .bk ρ2 => ret (.nx ρ2)
      | .rt t => ret (.rt t) := rfl
    rw [e]
    unfold badAt
    cases hf : fullT u with
    | true =>
      rw [hf] at hu
      have e2 : (needB c [.fz t0, .fz (.int (k : Nat)), .fz u] : M W Fl) = ret (.nx [.fz t0, .fz (.int (k : Nat)), .fz u]) := by simp -implicitDefEqProofs [needB, hu]
      rw [e2, if_pos rfl]
      exact ih
    | false =>
      rw [hf] at hu
      have e2 : (needB c [.fz t0, .fz (.int (k : Nat)), .fz u] : M W Fl) = raiseM ⟨c.NoRow, ["at"], [.int (k : Nat)]⟩ := by simp -implicitDefEqProofs [needB, hu]
      rw [e2, if_neg (by simp)]
      exact ⟨(fun z => nomatch z), fun i hi => by cases hi; rfl⟩
@[simp] theorem ev_eqI {neg : Bool} {a b : Int} : eqT neg (.int a) (.int b) = some (.bl (if neg then !(a == b) else a == b)) := (eq_int neg a b)
noncomputable def needR (c : Cs) (t : T) : M W T := match dueO t with
  | .int i => raiseM ⟨c.NoRow, ["at"], [.int i]⟩
  | _ => ret .non
theorem nat0 {n : Nat} : ((n : Int) == 0) = decide (n = 0) := by
  rw [Bool.eq_iff_iff]
  simp
theorem F_need_rows_e (c : Cs) {t : T} (h : lg t) : F_need_rows c [t] = (needR c t : M W T) := by
  rcases h with ⟨ts, ht, hl, hr⟩ | h
  · have hi : itemsT t = some ts := by rcases ht with rfl | rfl <;> rfl
    have hlen : lenT t = some (.int (ts.length : Nat)) := by rcases ht with rfl | rfl <;> rfl
    have ha : isaTT "list" "tuple" t = some (.bl true) := by rcases ht with rfl | rfl; exact isa2_l; exact isa2_t
    unfold needR dueO
    rw [hi]
    cases ts with
    | nil =>
      unfold F_need_rows g_need_rows
      rw [ev_run]
      simp -implicitDefEqProofs [ha, hlen]
    | cons u ts =>
      have L := need_loop (W := W) c t (u :: ts) 0 .un .un hr
      have e1 : (dFor (fEnum (fVar 0)) (gT2 1 2) (needB c) [.fz t, .un, .un] : M W Fl) = loopD (gT2 1 2) (needB c) (enumTs 0 (u :: ts)) [.fz t, .un, .un] := by
        unfold dFor
        simp -implicitDefEqProofs [hi]
      unfold F_need_rows g_need_rows
      rw [ev_run]
      simp only [List.isEmpty_cons, Bool.false_eq_true, if_false]
      cases hb : badAt 0 (u :: ts) with
      | none =>
        obtain ⟨a', b', e2⟩ := L.1 hb
        have e3 := e1.trans e2
        unfold needB at e3
        have hz : ((ts.length : Int) + 1 == 0) = false := by
          rw [beq_eq_false_iff_ne]; omega
        simp -implicitDefEqProofs [ha, hlen, e3, hz]
      | some i =>
        have e3 := e1.trans (L.2 i hb)
        unfold needB at e3
        have hz : ((ts.length : Int) + 1 == 0) = false := by
          rw [beq_eq_false_iff_ne]; omega
        simp -implicitDefEqProofs [ha, hlen, e3, hz]
  · unfold needR dueO
    rw [items_not h]
    unfold F_need_rows g_need_rows
    rw [ev_run]
    simp -implicitDefEqProofs [h]
theorem compD_gen {vs : List Nat} {h : T → Rho → Option Rho} {gt : Rho → M W Bool} {ge : Rho → M W T} {ρ : Rho} (r : T → Rho) (p : T → Bool) (f : T → T) : ∀ ts : List T, (∀ t ∈ ts, h t (wipeR ρ vs) = some (r t) ∧ gt (r t) = ret (p t) ∧ (p t = true → ge (r t) = ret (f t))) →
    compD vs h gt ge ρ ts = ret ((ts.filter p).map f)
  | [], _ => rfl
  | t :: ts, hh => by
    have ih := compD_gen r p f ts fun u hu => hh u (List.mem_cons_of_mem _ hu)
    obtain ⟨h1, h2, h3⟩ := hh t List.mem_cons_self
    unfold compD
    rw [h1, lift_some, ret_bnd, h2, noEr_ret, ret_bnd, List.filter_cons]
    cases hp : p t with
    | true => rw [if_pos rfl, if_pos rfl, h3 hp, noEr_ret, ret_bnd, ih, ret_bnd]; rfl
    | false => rw [if_neg (by simp), if_neg (by simp), ih]
def pB (u : T) : Bool := match u with
  | .tup [_, v] => !(fullT v)
  | _ => false
def fB1 (u : T) : T := match u with
  | .tup [i, _] => i
  | _ => .non
theorem enum_bad : ∀ (ts : List T) (k : Nat), match badAt k ts with
    | none => ((enumTs k ts).filter pB).map fB1 = []
    | some i => ∃ r, ((enumTs k ts).filter pB).map fB1 = .int (i : Nat) :: r
  | [], k => rfl
  | u :: ts, k => by
    have ih := enum_bad ts (k + 1)
    have e : enumTs k (u :: ts) = .tup [.int (k : Nat), u] :: enumTs (k + 1) ts := rfl
    rw [e, List.filter_cons]
    unfold badAt
    cases hf : fullT u with
    | true =>
      have : pB (.tup [.int (k : Nat), u]) = false := by show (!(fullT u)) = _; rw [hf]; rfl
      rw [this, if_pos rfl]
      exact ih
    | false =>
      have : pB (.tup [.int (k : Nat), u]) = true := by show (!(fullT u)) = _; rw [hf]; rfl
      rw [this, if_neg (by simp), if_pos rfl]
      exact ⟨_, rfl⟩
theorem enum_len : ∀ (ts : List T) (k : Nat), (enumTs k ts).length = ts.length
  | [], _ => rfl
  | t :: ts, k => by show (enumTs (k + 1) ts).length + 1 = _; rw [enum_len ts]; rfl
theorem enum_mem : ∀ (ts : List T) (k : Nat) (u : T), u ∈ enumTs k ts → ∃ i v, u = .tup [.int i, v] ∧ v ∈ ts
  | [], _, _, h => nomatch h
  | t :: ts, k, u, h => by
    rcases List.mem_cons.mp h with rfl | h
    · exact ⟨_, t, rfl, List.mem_cons_self⟩
    · obtain ⟨i, v, e, hv⟩ := enum_mem ts (k + 1) u h
      exact ⟨i, v, e, List.mem_cons_of_mem _ hv⟩
theorem F__law_due_e (c : Cs) {t : T} (h : lg t) : F__law_due c [t] = (ret (dueO t) : M W T) := by
  rcases h with ⟨ts, ht, hl, hr⟩ | h
  · have hi : itemsT t = some ts := by rcases ht with rfl | rfl <;> rfl
    have hlen : lenT t = some (.int (ts.length : Nat)) := by rcases ht with rfl | rfl <;> rfl
    have ha : isaTT "list" "tuple" t = some (.bl true) := by rcases ht with rfl | rfl; exact isa2_l; exact isa2_t
    unfold dueO
    rw [hi]
    unfold F__law_due g__law_due
    rw [ev_run]
    cases ts with
    | nil => simp -implicitDefEqProofs [ha, hlen]
    | cons u ts =>
      have e1 : (fLc (fEnum (fVar 0)) [1, 2] (gT2 1 2) (bNot (fB (fCall 1 (aCons (fVar 2) aNil) (F__law_is_full c)))) (fVar 1) [.fz t, .un, .un] : M W (List T)) = ret (((enumTs 0 (u :: ts)).filter pB).map fB1) := by
        have e0 : (fEnum (fVar 0) [.fz t, .un, .un] : M W (List T)) = ret (enumTs 0 (u :: ts)) := by simp -implicitDefEqProofs [hi]
        unfold fLc
        rw [e0, ret_bnd, if_pos (by rw [enum_len, sizeLine_eq]; omega)]
        refine compD_gen (fun q => match q with | .tup [i, v] => [.fz t, .fz i, .fz v] | _ => []) pB fB1 _ fun q hq => ?_
        obtain ⟨i, v, rfl, hv⟩ := enum_mem _ _ _ hq
        refine ⟨rfl, ?_, fun _ => rfl⟩
        have := F__law_is_full_e (W := W) c (hr v hv)
        show bNot (fB (fCall 1 (aCons (fVar 2) aNil) (F__law_is_full c))) [.fz t, .fz (.int i), .fz v] = ret (!(fullT v))
        simp -implicitDefEqProofs [this]
      have e2 := enum_bad (u :: ts) 0
      have hz : ((ts.length : Int) + 1 == 0) = false := by
        rw [beq_eq_false_iff_ne]; omega
      have hle : (((enumTs 0 (u :: ts)).filter pB).map fB1).length ≤ 100000 := by
        rw [List.length_map]
        have := List.length_filter_le pB (enumTs 0 (u :: ts))
        rw [enum_len] at this
        omega
      generalize ((enumTs 0 (u :: ts)).filter pB).map fB1 = l at e1 e2 hle
      have e4 : addT (.lst l) (.lst [.non]) = some (.lst (l ++ [.non])) := ev_addL (by simp; omega)
      cases hb : badAt 0 (u :: ts) with
      | none =>
        rw [hb] at e2
        have e2 : l = [] := e2
        subst e2
        simp -implicitDefEqProofs [ha, hlen, e1, hz, e4, hb, ixT, atI, ixN]
      | some i =>
        rw [hb] at e2
        obtain ⟨r, e2⟩ := e2
        subst e2
        have e5 : ixT (.lst (.int (i : Nat) :: r ++ [.non])) (.int 0) = some (.int (i : Nat)) := by
          have : (0 : Int) < (r.length : Int) + 1 + 1 := by omega
          simp [ixT, atI, ixN, this]
        simp -implicitDefEqProofs only [List.cons_append] at e4 e5
        simp -implicitDefEqProofs [ha, hlen, e1, hz, e4, e5, hb]
  · unfold dueO
    rw [items_not h]
    unfold F__law_due g__law_due
    rw [ev_run]
    simp -implicitDefEqProofs [h]
end
end PL

set_option maxHeartbeats 4000000
/-! X4: texts: lines, rows, their joining. -/
namespace PL
open PySem L2 TL
def lineS (xs : List Str) : Str := Txt.join " " xs
def logS (rows : List (List Str)) : Str := Txt.join "" (rows.map fun xs => lineS xs ++ "\n")
def rowT (xs : List Str) : T := .tup (xs.map T.str)
theorem nl_tl : tl ("\n" : Str) = [10] := by decide +kernel
theorem sp_tl : tl (" " : Str) = [32] := by decide +kernel
theorem no_tl : tl ("" : Str) = [] := by decide +kernel
theorem nl_len : ("\n" : Str).length = 1 := by decide +kernel
theorem sp_len : (" " : Str).length = 1 := by decide +kernel
theorem no_len : ("" : Str).length = 0 := by decide +kernel
/-! ### the last sign -/
def ends (x : Str) : Bool := (tl x).getLast? == some 10
theorem cut_most (x : Str) : tl (cutS x none (some (-1))) = (tl x).dropLast := by
  have e : HT.sIx x.length x.length (some (-1)) = x.length - 1 := by
    show (if (-1 : Int) < 0 then ((-1 : Int) + (x.length : Int)).toNat else min (-1 : Int).toNat x.length) = _
    rw [if_pos (by decide)]
    omega
  show ((tl x).drop 0).take (HT.sIx x.length x.length (some (-1)) - 0) = _
  rw [e, List.drop_zero, List.dropLast_eq_take, len_tl]
  rfl
theorem cut_last (x : Str) : tl (cutS x (some (-1)) none) = (tl x).drop ((tl x).length - 1) := by
  have e : HT.sIx x.length 0 (some (-1)) = x.length - 1 := by
    show (if (-1 : Int) < 0 then ((-1 : Int) + (x.length : Int)).toNat else min (-1 : Int).toNat x.length) = _
    rw [if_pos (by decide)]
    omega
  show ((tl x).drop (HT.sIx x.length 0 (some (-1)))).take (x.length - HT.sIx x.length 0 (some (-1))) = _
  rw [e, len_tl]
  exact List.take_of_length_le (by rw [List.length_drop]; omega)
theorem last_drop : ∀ l : List Nat, l ≠ [] → l.drop (l.length - 1) = [l.getLast?.getD 0]
  | [], h => absurd rfl h
  | [a], _ => rfl
  | a :: b :: r, _ => by
    have ih := last_drop (b :: r) (by simp)
    simpa using ih
theorem drop_nil' {l : List Nat} (h : l = []) : l.drop (l.length - 1) = [] := by rw [h]; rfl
theorem ends_cut (x : Str) : (cutS x (some (-1)) none == ("\n" : Str)) = ends x := by
  have key : (cutS x (some (-1)) none = ("\n" : Str)) ↔ (tl x).getLast? = some 10 := by
    constructor
    · intro h
      have h2 := congrArg tl h
      rw [cut_last, nl_tl] at h2
      by_cases hn : tl x = []
      · rw [drop_nil' hn] at h2; cases h2
      · rw [last_drop _ hn] at h2
        cases hg : (tl x).getLast? with
        | none => rw [List.getLast?_eq_none_iff] at hg; exact absurd hg hn
        | some a => rw [hg] at h2; simp at h2; rw [h2]
    · intro h
      apply ext_tl
      have hn : tl x ≠ [] := fun z => by rw [z] at h; cases h
      rw [cut_last, nl_tl, last_drop _ hn, h]
      rfl
  unfold ends
  rw [Bool.eq_iff_iff, beq_iff_eq, beq_iff_eq]
  exact key
theorem back_nl {x : Str} (h : ends x = true) : cutS x none (some (-1)) ++ "\n" = x := by
  apply ext_tl
  unfold ends at h
  rw [beq_iff_eq] at h
  rw [tl_append, cut_most, nl_tl]
  obtain ⟨l, e⟩ : ∃ l, tl x = l ++ [10] := by
    have := List.getLast?_eq_some_iff.mp h
    exact this
  rw [e]
  simp
theorem at_last (x : Str) (h : tl x ≠ []) : L2.atI x.cps.toList (-1) = some ((tl x).getLast?.getD 0) := by
  have hl : 0 < (tl x).length := List.length_pos_iff.mpr h
  have e : L2.atI (tl x) (-1) = (tl x)[(tl x).length - 1]? := by
    unfold L2.atI L2.ixN
    rw [if_neg (by decide), if_pos (by omega)]
    show (tl x)[((-1 : Int) + ((tl x).length : Nat)).toNat]? = _
    congr 1
    omega
  show L2.atI (tl x) (-1) = _
  rw [e, ← List.getLast?_eq_getElem?]
  cases hg : (tl x).getLast? with
  | none => rw [List.getLast?_eq_none_iff] at hg; exact absurd hg h
  | some a => rfl
/-! ### joining -/
theorem join_feeds : ∀ ls : List Str, ls ≠ [] → Str.join "" (ls.map fun l => l ++ "\n") = Str.join "\n" ls ++ "\n"
  | [], h => absurd rfl h
  | [l], _ => rfl
  | l :: m :: r, _ => by
    have ih := join_feeds (m :: r) (by simp)
    show (l ++ "\n") ++ "" ++ Str.join "" ((m :: r).map fun l => l ++ "\n") = (l ++ "\n" ++ Str.join "\n" (m :: r)) ++ "\n"
    rw [ih]
    apply ext_tl
    simp only [tl_append, no_tl, List.append_nil, List.append_assoc]
/-- the rows of a text -/
def rowsOf (x : Str) : List (List Str) := (Txt.split (cutS x none (some (-1))) "\n").map fun l => Txt.split l " "
theorem log_back {x : Str} (h : ends x = true) : logS (rowsOf x) = x := by
  unfold logS rowsOf lineS
  rw [List.map_map]
  have e1 : ((fun xs => Txt.join " " xs ++ ("\n" : Str)) ∘ fun l => Txt.split l " ") = fun l : Str => l ++ "\n" := by
    funext l
    show Txt.join " " (Txt.split l " ") ++ _ = _
    rw [join_eq, PySem.StrLaws.join_split]
  have hne : Txt.split (cutS x none (some (-1))) "\n" ≠ [] := fun z => by
    have := split_spl (cutS x none (some (-1))) "\n" (by rw [nl_tl]; simp) (TL.kind_ok (by decide +kernel))
    rw [z] at this
    have hs : ∀ (S : List Nat) (k : Nat) (a l : List Nat), spl S k a l ≠ [] := by
      intro S k a l
      induction l generalizing k a with
      | nil => rw [spl_nil]; simp
      | cons c r ih =>
        cases k with
        | zero =>
          show (if pre S (c :: r) = true then a :: spl S (S.length - 1) [] r else spl S 0 (a ++ [c]) r) ≠ []
          split
          · simp
          · exact ih _ _
        | succ k => exact ih _ _
    exact hs _ _ _ _ this.symm
  rw [e1, join_eq, join_feeds _ hne, PySem.StrLaws.join_split, back_nl h]
theorem sum_split (x y : Str) (hy : y.length = 1) : ((Txt.split x y).map (·.length)).sum + ((Txt.split x y).length - 1) = x.length := by
  have e := congrArg Str.length (PySem.StrLaws.join_split x y)
  rw [← join_eq] at e
  have s := PySem.size_glued y (Txt.split x y)
  rw [hy, Nat.mul_one] at s
  show _ = _
  rw [← e]
  exact s.symm
theorem le_sum : ∀ {l : List Nat} {a : Nat}, a ∈ l → a ≤ l.sum
  | [], _, h => nomatch h
  | b :: l, a, h => by
    rw [List.sum_cons]
    rcases List.mem_cons.mp h with rfl | h
    · omega
    · have := le_sum h; omega
theorem split_small {x y : Str} (hy : y.length = 1) {p : Str} (hp : p ∈ Txt.split x y) : p.length ≤ x.length := by
  have := sum_split x y hy
  have := le_sum (List.mem_map.mpr ⟨p, hp, rfl⟩ : p.length ∈ (Txt.split x y).map (·.length))
  omega
theorem split_few (x y : Str) (hy : y.length = 1) : (Txt.split x y).length ≤ x.length + 1 := by
  have := sum_split x y hy
  omega
end PL

set_option maxHeartbeats 4000000
/-! X5: log_text, lines_of, read_log. -/
namespace PL
open PySem L2 TL
section
variable {W : Type} {ρ : Rho} {i m : Nat} {ts : List T}
def seqGK (h : Rho → M W Fg) : Fl → M W Fg := fun fl => match fl with
  | .nx ρ' => h ρ'
  | _ => stuck
@[simp] theorem seqGK_nx {h : Rho → M W Fg} : seqGK h (.nx ρ) = h ρ := (rfl)
@[simp ↓] theorem ev_seqG {g : Rho → M W Fl} {h : Rho → M W Fg} : seqG g h ρ = bnd (g ρ) (seqGK h) := (rfl)
def runLK : Fg → M W (List T) := fun fl => match fl with
  | .rl us => ret us
  | _ => stuck
@[simp] theorem runLK_rl : (runLK (.rl ts) : M W (List T)) = ret ts := (rfl)
theorem ev_runL {g : Rho → M W Fg} : runL m g ts = bnd (g (ts.map Sl.fz ++ List.replicate m Sl.un)) runLK := rfl
@[simp] theorem ev_gOwn : (gOwn i ρ : M W Fg) = owM i ρ fun ts => ret (.rl ts) := (rfl)
def viewK (t : T) : M W T := if scal t = true then ret t else stuck
@[simp] theorem viewK_bl {b : Bool} : (viewK (.bl b) : M W T) = ret (.bl b) := (rfl)
@[simp] theorem viewK_str {b : Str} : (viewK (.str b) : M W T) = ret (.str b) := (rfl)
@[simp ↓] theorem ev_fView {fa : Rho → M W T} : fView i fa ρ = bnd (noEr (fa (frzAt i ρ))) viewK := (rfl)
@[simp ↓] theorem ev_fM1 {g : Str → T → Option T} {fa fb : Rho → M W T} : fM1 g fa fb ρ = bnd (fa ρ) fun t => bnd (strM t) fun a => bnd (fb ρ) fun u => lift (g a u) := (rfl)
@[simp ↓] theorem ev_fM1l {g : Str → T → Option (List T)} {fa fb : Rho → M W T} : fM1l g fa fb ρ = bnd (fa ρ) fun t => bnd (strM t) fun a => bnd (fb ρ) fun u => lift (g a u) := (rfl)
@[simp] theorem ev_strM {x : Str} : (strM (.str x) : M W Str) = ret x := (rfl)
theorem joinT_l {a : Str} {xs : List Str} (h : (xs.map (·.length)).sum + xs.length * a.length ≤ 16777216) : joinT a (.lst (xs.map T.str)) = some (.str (Txt.join a xs)) := by
  show ((strsT (xs.map T.str)).bind fun ys => _) = _
  rw [strsT_map]
  exact if_pos h
theorem joinT_t {a : Str} {xs : List Str} (h : (xs.map (·.length)).sum + xs.length * a.length ≤ 16777216) : joinT a (.tup (xs.map T.str)) = some (.str (Txt.join a xs)) := by
  show ((strsT (xs.map T.str)).bind fun ys => _) = _
  rw [strsT_map]
  exact if_pos h
theorem splitT_e {a b : Str} (h : b.length = 1) (ha : a.length ≤ 100000) : splitT a (.str b) = some ((Txt.split a b).map .str) := by
  show (if (b.length == 0) = false ∧ a.length + 2 ≤ sizeLine then _ else none) = _
  rw [if_pos ⟨by rw [h]; rfl, by rw [sizeLine_eq]; omega⟩]
theorem F_text_of_e (c : Cs) {ys : List Str} (h1 : ys.length ≤ 100000) (h2 : ∀ y ∈ ys, y.length ≤ 100000) (h3 : (ys.map fun y => y.length + 1).sum ≤ 16777216) : F_text_of c [.lst (ys.map T.str)] = (ret (.str (Txt.join "" (ys.map fun y : Str => y ++ "\n"))) : M W T) := by
  have e1 : (fLc (fItems (fVar 0)) [1] (gN 1) tYesM (f2 addT (fVar 1) (fC (.str "\n"))) [Sl.fz (.lst (ys.map T.str)), Sl.un] : M W (List T)) = ret (ys.map fun y => .str (y ++ "\n")) :=
    fLc_mapP ys T.str _ rfl (by rw [sizeLine_eq]; omega) fun y hy => by
      show f2 addT (fVar 1) (fC (.str "\n")) [Sl.fz (.lst (ys.map T.str)), .fz (.str y)] = _
      have := h2 y hy
      have e := ev_addS (a := y) (b := "\n") (by rw [nl_len]; omega)
      simp -implicitDefEqProofs [e]
  have e2 : joinT "" (.lst ((ys.map fun y : Str => y ++ "\n").map T.str)) = some (.str (Txt.join "" (ys.map fun y : Str => y ++ "\n"))) := joinT_l (by
    rw [no_len, Nat.mul_zero, List.map_map]
    have : ((fun s : Str => s.length) ∘ fun y : Str => y ++ "\n") = fun y : Str => y.length + 1 := by
      funext y
      show (y ++ ("\n" : Str)).length = _
      rw [len_tl, tl_append, List.length_append, nl_tl, ← len_tl]
      rfl
    rw [this]
    omega)
  rw [List.map_map] at e2
  have e3 : (T.str ∘ fun y : Str => y ++ "\n") = fun y => T.str (y ++ "\n") := rfl
  rw [e3] at e2
  unfold F_text_of g_text_of
  rw [ev_run]
  simp -implicitDefEqProofs [e1, e2]
/-- small enough to be joined -/
structure Fit (rows : List (List Str)) : Prop where
  few : rows.length ≤ 100000
  row : ∀ xs ∈ rows, (xs.map (·.length)).sum + xs.length ≤ 100000
  all : (rows.map fun xs => (lineS xs).length + 1).sum ≤ 16777216
theorem line_len (xs : List Str) : (lineS xs).length ≤ (xs.map (·.length)).sum + xs.length := by
  have := PySem.size_glued (" " : Str) xs
  rw [sp_len, Nat.mul_one] at this
  show (Builtin.Str.glued " " xs).length ≤ _
  omega
theorem F_log_text_e (c : Cs) {t : T} {rows : List (List Str)} (ht : t = .lst (rows.map rowT) ∨ t = .tup (rows.map rowT)) (hl : lg t) (hd : dueO t = .non) (hf : Fit rows) : F_log_text c [t] = (ret (.str (logS rows)) : M W T) := by
  have hi : itemsT t = some (rows.map rowT) := by rcases ht with rfl | rfl <;> rfl
  have hi2 : (seqM t : M W (List T)) = ret (rows.map rowT) := by rcases ht with rfl | rfl <;> rfl
  have e0 : F_need_rows c [t] = (ret .non : M W T) := by
    rw [F_need_rows_e c hl]
    unfold needR
    rw [hd]
  have e1 : (fLc (fItems (fVar 0)) [1] (gN 1) tYesM (fM1 joinT (fC (.str " ")) (fVar 1)) [Sl.fz t, Sl.un] : M W (List T)) = ret (rows.map fun xs => .str (lineS xs)) :=
    fLc_mapP rows rowT _ (by simp -implicitDefEqProofs [hi2]) (by have := hf.few; rw [sizeLine_eq]; omega) fun xs hx => by
      show fM1 joinT (fC (.str " ")) (fVar 1) [Sl.fz t, .fz (rowT xs)] = _
      have := hf.row xs hx
      have e : joinT " " (rowT xs) = some (.str (lineS xs)) := joinT_t (by rw [sp_len, Nat.mul_one]; omega)
      simp -implicitDefEqProofs [e]
  have e2 := F_text_of_e (W := W) c (ys := rows.map lineS) (by rw [List.length_map]; exact hf.few) (fun y hy => by
    obtain ⟨xs, hx, rfl⟩ := List.mem_map.mp hy
    have := hf.row xs hx
    have := line_len xs
    omega) (by rw [List.map_map]; exact hf.all)
  rw [List.map_map] at e2
  have e3 : T.str ∘ lineS = fun xs => T.str (lineS xs) := rfl
  rw [e3, List.map_map] at e2
  unfold F_log_text g_log_text
  rw [ev_run]
  simp -implicitDefEqProofs [e0, e1, e2]
  rfl
theorem F_log_text_no (c : Cs) {t : T} {i : Int} (hl : lg t) (hd : dueO t = .int i) : F_log_text c [t] = (raiseM ⟨c.NoRow, ["at"], [.int i]⟩ : M W T) := by
  have e0 : F_need_rows c [t] = (raiseM ⟨c.NoRow, ["at"], [.int i]⟩ : M W T) := by
    rw [F_need_rows_e c hl]
    unfold needR
    rw [hd]
  unfold F_log_text g_log_text
  rw [ev_run]
  simp -implicitDefEqProofs [e0]
/-! ### reading -/
@[simp] theorem ev_eqS {neg : Bool} {a b : Str} : eqT neg (.str a) (.str b) = some (.bl (if neg then !(a == b) else (a == b))) := (eq_str neg a b)
theorem F_lines_of_not (c : Cs) {t : T} (h : isaT "str" t = some (.bl false)) : F_lines_of c [t] = (raiseM ⟨c.NoText, [], []⟩ : M W T) := by
  unfold F_lines_of g_lines_of
  rw [ev_run]
  simp -implicitDefEqProofs [h]
theorem slice_most {x : Str} (hx : x.length ≤ 100000) : sliceT none (some (-1)) (.str x) = some (.str (cutS x none (some (-1)))) := by
  show (if x.length ≤ sizeLine then _ else none) = _
  rw [if_pos (by rw [sizeLine_eq]; omega)]
theorem cut_most_len (x : Str) : (cutS x none (some (-1))).length ≤ x.length := by
  rw [len_tl, cut_most, len_tl, List.length_dropLast]
  omega
theorem F_lines_of_e (c : Cs) {x : Str} (hx : x.length ≤ 100000) : F_lines_of c [.str x] = (if ends x = true then ret (.lst ((Txt.split (cutS x none (some (-1))) "\n").map .str)) else raiseM ⟨c.NoText, [], []⟩ : M W T) := by
  unfold F_lines_of g_lines_of
  rw [ev_run]
  by_cases hn : tl x = []
  · have e : x = ("" : Str) := ext_tl (by rw [hn, no_tl])
    have e1 : (x == ("" : Str)) = true := by rw [e]; exact beq_self_eq_true _
    have e2 : ends x = false := by unfold ends; rw [hn]; rfl
    rw [e2]
    simp -implicitDefEqProofs [isa_str_str, e1]
  · have e1 : (x == ("" : Str)) = false := by
      rw [beq_eq_false_iff_ne]
      intro e
      exact hn (by rw [e, no_tl])
    have e2 : ixT (.str x) (.int (-1)) = some (.str ⟨#[(tl x).getLast?.getD 0]⟩) := by
      show (if x.length ≤ sizeLine then (L2.atI x.cps.toList (-1)).map fun c => T.str ⟨#[c]⟩ else none) = _
      rw [if_pos (by rw [sizeLine_eq]; omega), at_last x hn]
      rfl
    have e3 : ((⟨#[(tl x).getLast?.getD 0]⟩ : Str) == ("\n" : Str)) = ends x := by
      cases hg : (tl x).getLast? with
      | none => rw [List.getLast?_eq_none_iff] at hg; exact absurd hg hn
      | some a =>
        unfold ends
        rw [hg, Bool.eq_iff_iff, beq_iff_eq, beq_iff_eq]
        constructor
        · intro h
          have := congrArg tl h
          rw [nl_tl] at this
          have h2 : [a] = [10] := this
          simp at h2
          rw [h2]
        · intro h
          cases h
          exact ext_tl (by rw [nl_tl]; rfl)
    generalize (⟨#[(tl x).getLast?.getD 0]⟩ : Str) = z at e2 e3
    have e4 := slice_most hx
    have e5 := splitT_e (a := cutS x none (some (-1))) (b := "\n") nl_len (by have := cut_most_len x; omega)
    cases he : ends x with
    | true =>
      rw [he] at e3
      simp -implicitDefEqProofs [isa_str_str, e1, e2, e3, e4, e5, negT]
    | false =>
      rw [he] at e3
      simp -implicitDefEqProofs [isa_str_str, e1, e2, e3, negT]
end
end PL

set_option maxHeartbeats 4000000
/-! X6: read_log. -/
namespace PL
open PySem L2 TL
def fullR (xs : List Str) : Bool := fullT (rowT xs)
theorem rw_row {xs : List Str} (h : xs.length ≤ 100000) (h2 : ∀ x ∈ xs, x.length ≤ 100000) : rw_ (rowT xs) := .inl ⟨_, rfl, by rw [List.length_map]; exact h, fun u hu => by
  obtain ⟨x, hx, rfl⟩ := List.mem_map.mp hu
  exact .inl ⟨x, rfl, h2 x hx⟩⟩
theorem rowsOf_few (x : Str) : (rowsOf x).length ≤ x.length + 1 := by
  unfold rowsOf
  rw [List.length_map]
  have := split_few (cutS x none (some (-1))) "\n" nl_len
  have := cut_most_len x
  omega
theorem rowsOf_row {x : Str} {xs : List Str} (h : xs ∈ rowsOf x) : (xs.map (·.length)).sum + xs.length ≤ x.length + 1 ∧ xs.length ≤ x.length + 1 ∧ (∀ s ∈ xs, s.length ≤ x.length) := by
  obtain ⟨l, hl, rfl⟩ := List.mem_map.mp h
  have h1 := split_small nl_len hl
  have h2 := cut_most_len x
  have h3 := sum_split l " " sp_len
  have h4 := split_few l " " sp_len
  refine ⟨by omega, by omega, fun s hs => ?_⟩
  have := split_small sp_len hs
  omega
theorem rowsOf_fit {x : Str} (hx : x.length ≤ 50000) : Fit (rowsOf x) := by
  refine ⟨by have := rowsOf_few x; omega, fun xs h => by have := (rowsOf_row h).1; omega, ?_⟩
  have e : (rowsOf x).map (fun xs => (lineS xs).length + 1) = (Txt.split (cutS x none (some (-1))) "\n").map fun l => l.length + 1 := by
    unfold rowsOf
    rw [List.map_map]
    refine List.map_congr_left fun l _ => ?_
    show (Txt.join " " (Txt.split l " ")).length + 1 = _
    rw [join_eq, PySem.StrLaws.join_split]
  rw [e]
  have h1 := sum_split (cutS x none (some (-1))) "\n" nl_len
  have h2 := cut_most_len x
  have h3 : ∀ l : List Str, (l.map fun s => s.length + 1).sum = (l.map (·.length)).sum + l.length := fun l => by
    induction l with
    | nil => rfl
    | cons a l ih => simp only [List.map_cons, List.sum_cons, List.length_cons, ih]; omega
  rw [h3]
  omega
theorem rowsOf_rw {x : Str} (hx : x.length ≤ 50000) {xs : List Str} (h : xs ∈ rowsOf x) : rw_ (rowT xs) := by
  obtain ⟨h1, h2, h3⟩ := rowsOf_row h
  exact rw_row (by omega) fun s hs => by have := h3 s hs; omega
theorem rowsOf_ne (x : Str) : rowsOf x ≠ [] := fun z => by
  have hne : Txt.split (cutS x none (some (-1))) "\n" ≠ [] := fun z => by
    have := split_spl (cutS x none (some (-1))) "\n" (by rw [nl_tl]; simp) (TL.kind_ok (by decide +kernel))
    rw [z] at this
    have hs : ∀ (S : List Nat) (k : Nat) (a l : List Nat), spl S k a l ≠ [] := by
      intro S k a l
      induction l generalizing k a with
      | nil => rw [spl_nil]; simp
      | cons c r ih =>
        cases k with
        | zero =>
          show (if pre S (c :: r) = true then a :: spl S (S.length - 1) [] r else spl S 0 (a ++ [c]) r) ≠ []
          split
          · simp
          · exact ih _ _
        | succ k => exact ih _ _
    exact hs _ _ _ _ this.symm
  unfold rowsOf at z
  exact hne (List.map_eq_nil_iff.mp z)
section
variable {W : Type}
theorem F_read_log_not (c : Cs) {t : T} (h : isaT "str" t = some (.bl false)) : F_read_log c [t] = (raiseM ⟨c.NoText, [], []⟩ : M W (List T)) := by
  have e0 := F_lines_of_not (W := W) c h
  have e1 : (fLc (fItems (fCall 1 (aCons (fVar 0) aNil) (F_lines_of c))) [2] (gN 2) tYesM (f1 tupT (asL (fM1l splitT (fVar 2) (fC (.str " "))))) [Sl.fz t, .un, .un, .un] : M W (List T)) = raiseM ⟨c.NoText, [], []⟩ := by
    unfold fLc
    simp -implicitDefEqProofs [e0]
  unfold F_read_log g_read_log
  rw [ev_runL]
  simp -implicitDefEqProofs [e1]
theorem F_read_log_e (c : Cs) {x : Str} (hx : x.length ≤ 50000) : F_read_log c [.str x] = (if (ends x && (rowsOf x).all fullR) = true then ret ((rowsOf x).map rowT) else raiseM ⟨c.NoText, [], []⟩ : M W (List T)) := by
  have e0 := F_lines_of_e (W := W) c (x := x) (by omega)
  unfold F_read_log g_read_log
  rw [ev_runL]
  cases he : ends x with
  | false =>
    rw [he] at e0
    have e1 : (fLc (fItems (fCall 1 (aCons (fVar 0) aNil) (F_lines_of c))) [2] (gN 2) tYesM (f1 tupT (asL (fM1l splitT (fVar 2) (fC (.str " "))))) [Sl.fz (.str x), .un, .un, .un] : M W (List T)) = raiseM ⟨c.NoText, [], []⟩ := by
      unfold fLc
      simp -implicitDefEqProofs [e0]
    simp -implicitDefEqProofs [e1]
  | true =>
    rw [he] at e0
    have hc := cut_most_len x
    have e1 : (fLc (fItems (fCall 1 (aCons (fVar 0) aNil) (F_lines_of c))) [2] (gN 2) tYesM (f1 tupT (asL (fM1l splitT (fVar 2) (fC (.str " "))))) [Sl.fz (.str x), .un, .un, .un] : M W (List T)) = ret ((rowsOf x).map rowT) := by
      have q := fLc_mapP (W := W) (fi := fItems (fCall 1 (aCons (fVar 0) aNil) (F_lines_of c))) (vs := [2]) (i := 2) (ge := f1 tupT (asL (fM1l splitT (fVar 2) (fC (.str " "))))) (ρ := [Sl.fz (.str x), .un, .un, .un]) (Txt.split (cutS x none (some (-1))) "\n") T.str (fun l => rowT (Txt.split l " ")) (by simp -implicitDefEqProofs [e0]) (by have := split_few (cutS x none (some (-1))) "\n" nl_len; rw [sizeLine_eq]; omega) fun l hl => by
        show f1 tupT (asL (fM1l splitT (fVar 2) (fC (.str " ")))) [Sl.fz (.str x), .un, .fz (.str l), .un] = _
        have h1 := split_small nl_len hl
        have e5 := splitT_e (a := l) (b := " ") sp_len (by omega)
        simp -implicitDefEqProofs [e5]
        rfl
      rw [q]
      unfold rowsOf
      rw [List.map_map]
      rfl
    have e2 : (fLc (fItems (fVar 1)) [3] (gN 3) tYesM (fCall 1 (aCons (fVar 3) aNil) (F_is_full_row c)) [Sl.fz (.str x), .fz (.lst ((rowsOf x).map rowT)), .un, .un] : M W (List T)) = ret ((rowsOf x).map fun xs => .bl (fullR xs)) :=
      fLc_mapP (rowsOf x) rowT _ rfl (by have := rowsOf_few x; rw [sizeLine_eq]; omega) fun xs hxs => by
        show fCall 1 (aCons (fVar 3) aNil) (F_is_full_row c) [Sl.fz (.str x), .fz (.lst ((rowsOf x).map rowT)), .un, .fz (rowT xs)] = _
        have := F_is_full_row_e (W := W) c (rowsOf_rw hx hxs)
        simp -implicitDefEqProofs [this]
        rfl
    have e3 : allT (.lst ((rowsOf x).map fun xs => .bl (fullR xs))) = some (.bl ((rowsOf x).all fullR)) := by
      generalize rowsOf x = l
      have : boolsT (l.map fun xs => T.bl (fullR xs)) = some (l.map fullR) := by
        induction l with
        | nil => rfl
        | cons a l ih => rw [List.map_cons]; unfold boolsT; rw [ih]; rfl
      show (boolsT _).map _ = _
      rw [this]
      show some (T.bl ((l.map fullR).all id)) = _
      rw [List.all_map]
      rfl
    cases ha : (rowsOf x).all fullR with
    | true =>
      rw [ha] at e3
      simp -implicitDefEqProofs [e1, e2, e3, owM]
    | false =>
      rw [ha] at e3
      simp -implicitDefEqProofs [e1, e2, e3, owM]
end
end PL

set_option maxHeartbeats 4000000
/-! X7: _law_right. -/
namespace PL
open PySem L2 TL
section
variable {W : Type} {ρ : Rho} {i : Nat}
theorem fRef_ret {kn : T → Option T} {kd : Er → Option T} {fb : Rho → M W T} {t u : T} (e : fb (ρ.map Sl.hid) = ret t) (h : kn t = some u) : fRef kn kd fb ρ = ret u := by
  funext w
  unfold fRef
  rw [e]
  show (kn t).map _ = _
  rw [h]
  rfl
theorem fRef_er {kn : T → Option T} {kd : Er → Option T} {fb : Rho → M W T} {e : Er} {u : T} (h1 : fb (ρ.map Sl.hid) = raiseM e) (h : kd e = some u) : fRef kn kd fb ρ = ret u := by
  funext w
  unfold fRef
  rw [h1]
  show (kd e).map _ = _
  rw [h]
  rfl
theorem kd_text (c : Cs) : kd__law_refused c ⟨c.NoText, [], []⟩ = some (.str "text") := if_pos ⟨rfl, rfl⟩
theorem eq_nilD {neg : Bool} {ts : List T} {ds : List PyData} (h : dataTs ts = some ds) : eqT neg (.lst ts) (.lst []) = some (.bl (if neg then !ts.isEmpty else ts.isEmpty)) := by
  have hd : dataT (.lst ts) = some (.list ds) := by show (dataTs ts).map PyData.list = _; rw [h]; rfl
  have h1 : (PyData.list []).depth ≤ 150 := by simp [PyData.depth, PyData.depthAll]
  show ((dataT (.lst ts)).bind fun d => _) = _
  rw [hd]
  show (if min (PyData.list ds).depth (PyData.list []).depth ≤ 150 then some (T.bl (if neg then !PyData.eqv (.list ds) (.list []) else PyData.eqv (.list ds) (.list []))) else none) = _
  rw [if_pos (by omega)]
  have h2 : PyData.eqv (.list ds) (.list []) = ts.isEmpty := by
    cases ts with
    | nil => cases h; simp [PyData.eqv, PyData.eqvAll]
    | cons t ts =>
      simp only [dataTs, Option.bind_eq_some_iff, Option.map_eq_some_iff] at h
      obtain ⟨d, _, es, _, rfl⟩ := h
      simp [PyData.eqv, PyData.eqvAll]
  rw [h2]
theorem eq_same {neg : Bool} {t : T} {d : PyData} (h : dataT t = some d) (hd : d.depth ≤ 150) : eqT neg t t = some (.bl (!neg)) := by
  show ((dataT t).bind fun d => (dataT t).bind fun e => _) = _
  rw [h]
  show (if min d.depth d.depth ≤ 150 then some (T.bl (if neg then !PyData.eqv d d else PyData.eqv d d)) else none) = _
  rw [if_pos (by omega), PySem.SeqAt.eqv_refl_plain d (dataT_plain _ _ h)]
  cases neg <;> rfl
def rowD (xs : List Str) : PyData := .tuple (xs.map PyData.str)
theorem data_rows : ∀ rows : List (List Str), dataTs (rows.map rowT) = some (rows.map rowD)
  | [] => rfl
  | xs :: rows => by
    have e : dataT (rowT xs) = some (rowD xs) := by
      show (dataTs (xs.map T.str)).map PyData.tuple = _
      rw [dataTs_strs]
      rfl
    rw [List.map_cons]
    unfold dataTs
    rw [e, data_rows rows]
    rfl
theorem depth_strs : ∀ xs : List Str, PyData.depthAll (xs.map PyData.str) ≤ 1
  | [] => by simp [PyData.depthAll]
  | x :: xs => by
    have := depth_strs xs
    simp only [List.map_cons, PyData.depthAll, PyData.depth]
    omega
theorem depth_rows : ∀ rows : List (List Str), PyData.depthAll (rows.map rowD) ≤ 3
  | [] => by simp [PyData.depthAll]
  | xs :: rows => by
    have h1 := depth_rows rows
    have h2 := depth_strs xs
    simp only [List.map_cons, PyData.depthAll, rowD, PyData.depth]
    omega
theorem rows_same {neg : Bool} (rows : List (List Str)) : eqT neg (.lst (rows.map rowT)) (.lst (rows.map rowT)) = some (.bl (!neg)) :=
  eq_same (d := .list (rows.map rowD)) (by show (dataTs _).map PyData.list = _; rw [data_rows]; rfl) (by have := depth_rows rows; simp only [PyData.depth]; omega)
theorem isa_list {ts : List T} : isaT "list" (.lst ts) = some (.bl true) := by show (kitB "list" "list").map T.bl = _; rw [kb_ll]; rfl
theorem dAppend_e {fa : Rho → M W T} {ts : List T} {t : T} (h : ρ[i]? = some (.ow ts)) (e : fa ρ = ret t) (hl : ts.length ≤ 100000) : dAppend i fa ρ = ret (.nx (ρ.set i (.ow (ts ++ [t])))) := by
  unfold dAppend owM
  rw [h]
  show bnd (fa ρ) _ = _
  rw [e, ret_bnd, if_pos (by rw [sizeLine_eq]; omega)]
theorem range2 : (fRange1 (fC (.int 2)) ρ : M W (List T)) = ret [.int 0, .int 1] := by
  have : intsT 0 2 = [.int 0, .int 1] := rfl
  show bnd (ret (T.int 2)) _ = _
  rw [ret_bnd]
  show bnd (ret (2 : Int)) _ = _
  rw [ret_bnd, if_pos (by decide)]
  rfl
theorem badAll : ∀ (rows : List (List Str)) (k : Nat), rows.all fullR = true → badAt k (rows.map rowT) = none
  | [], _, _ => rfl
  | xs :: rows, k, h => by
    rw [List.all_cons, Bool.and_eq_true] at h
    rw [List.map_cons]
    unfold badAt
    rw [if_pos (show fullT (rowT xs) = true from h.1)]
    exact badAll rows _ h.2
theorem filt_rows (rows : List (List Str)) : (((rows.map rowT).filter fun t => !(fullT t)).map id) = (rows.filter fun xs => !(fullR xs)).map rowT := by
  rw [List.map_id, List.filter_map]
  rfl
/-- the rest of the body, once it is known whether it is a log -/
theorem F__law_right_e (c : Cs) {x : Str} (hx : x.length ≤ 50000) : F__law_right c [.str x] = (ret (.bl true) : M W T) := by
  have e0 := F_read_log_e (W := W) c hx
  have ec : (T.str (cutS x (some (-1)) none)) = .str (cutS x (some (-1)) none) := rfl
  have es : sliceT (some (-1)) none (.str x) = some (.str (cutS x (some (-1)) none)) := by
    show (if x.length ≤ sizeLine then _ else none) = _
    rw [if_pos (by rw [sizeLine_eq]; omega)]
  have e1 := ends_cut x
  -- the law's own rows
  let lr : List T := if ends x = true then (rowsOf x).map rowT else [.tup []]
  have eR : (fIf (fB (f2 (eqT false) (fSlice (fVar 0) (fPart (f1 negT (fC (.int 1)))) fNoPart) (fC (.str "\n")))) (asL (fLc (fItems (asL (fM1l splitT (fSlice (fVar 0) fNoPart (fPart (f1 negT (fC (.int 1))))) (fC (.str "\n"))))) [2] (gN 2) tYesM (f1 tupT (asL (fM1l splitT (fVar 2) (fC (.str " "))))))) (asL (fLst (aCons (fTup aNil) aNil))) [Sl.fz (.str x), .un, .un, .un, .un, .un, .un] : M W T) = ret (.lst lr) := by
    cases he : ends x with
    | false =>
      rw [he] at e1
      have : lr = [.tup []] := by show (if ends x = true then _ else _) = _; rw [he]; rfl
      rw [this]
      simp -implicitDefEqProofs [es, e1, negT]
    | true =>
      rw [he] at e1
      have : lr = (rowsOf x).map rowT := by show (if ends x = true then _ else _) = _; rw [he]; rfl
      rw [this]
      have hc := cut_most_len x
      have e4 := slice_most (x := x) (by omega)
      have e5 := splitT_e (a := cutS x none (some (-1))) (b := "\n") nl_len (by omega)
      have q := fLc_mapP (W := W) (fi := fItems (asL (fM1l splitT (fSlice (fVar 0) fNoPart (fPart (f1 negT (fC (.int 1))))) (fC (.str "\n"))))) (vs := [2]) (i := 2) (ge := f1 tupT (asL (fM1l splitT (fVar 2) (fC (.str " "))))) (ρ := [Sl.fz (.str x), .un, .un, .un, .un, .un, .un]) (Txt.split (cutS x none (some (-1))) "\n") T.str (fun l => rowT (Txt.split l " ")) (by simp -implicitDefEqProofs [e4, e5, negT]) (by have := split_few (cutS x none (some (-1))) "\n" nl_len; rw [sizeLine_eq]; omega) fun l hl => by
        show f1 tupT (asL (fM1l splitT (fVar 2) (fC (.str " ")))) [Sl.fz (.str x), .un, .fz (.str l), .un, .un, .un, .un] = _
        have h1 := split_small nl_len hl
        have e6 := splitT_e (a := l) (b := " ") sp_len (by omega)
        simp -implicitDefEqProofs [e6]
        rfl
      have e7 : (Txt.split (cutS x none (some (-1))) "\n").map (fun l => rowT (Txt.split l " ")) = (rowsOf x).map rowT := by
        unfold rowsOf
        rw [List.map_map]
        rfl
      rw [e7] at q
      simp -implicitDefEqProofs [es, e1, negT, q]
  have hlr : ∀ t ∈ lr, rw_ t := by
    intro t ht
    cases he : ends x with
    | false =>
      have : lr = [.tup []] := by show (if ends x = true then _ else _) = _; rw [he]; rfl
      rw [this] at ht
      rcases List.mem_singleton.mp ht with rfl
      exact rw_row (xs := []) (by simp) (by simp)
    | true =>
      have : lr = (rowsOf x).map rowT := by show (if ends x = true then _ else _) = _; rw [he]; rfl
      rw [this] at ht
      obtain ⟨xs, hxs, rfl⟩ := List.mem_map.mp ht
      exact rowsOf_rw hx hxs
  have hll : lr.length ≤ 100000 := by
    show (if ends x = true then (rowsOf x).map rowT else [.tup []]).length ≤ _
    have := rowsOf_few x
    split
    · rw [List.length_map]; omega
    · simp
  let b : Bool := ends x && (rowsOf x).all fullR
  have eF : (fLc (fItems (fVar 1)) [4] (gN 4) (bNot (fB (fCall 1 (aCons (fVar 4) aNil) (F__law_is_full c)))) (fVar 4) [Sl.fz (.str x), .fz (.lst lr), .un, .un, .un, .un, .un] : M W (List T)) = ret ((lr.filter fun t => !(fullT t)).map id) :=
    fLc_pure (fun t => !(fullT t)) id rfl (by rw [sizeLine_eq]; omega) (fun t ht => by
      show bNot (fB (fCall 1 (aCons (fVar 4) aNil) (F__law_is_full c))) [Sl.fz (.str x), .fz (.lst lr), .un, .un, .fz t, .un, .un] = _
      have := F__law_is_full_e (W := W) c (hlr t ht)
      simp -implicitDefEqProofs [this]) fun _ _ _ => rfl
  have eB : eqT false (.lst ((lr.filter fun t => !(fullT t)).map id)) (.lst []) = some (.bl b) := by
    cases he : ends x with
    | false =>
      have h1 : lr = [.tup []] := by show (if ends x = true then _ else _) = _; rw [he]; rfl
      have h2 : b = false := by show (ends x && _) = _; rw [he]; rfl
      rw [h1, h2]
      rfl
    | true =>
      have h1 : lr = (rowsOf x).map rowT := by show (if ends x = true then _ else _) = _; rw [he]; rfl
      have h2 : b = (rowsOf x).all fullR := by show (ends x && _) = _; rw [he]; rfl
      rw [h1, h2, filt_rows, eq_nilD (data_rows _)]
      have : ∀ l : List (List Str), ((l.filter fun xs => !(fullR xs)).map rowT).isEmpty = l.all fullR := fun l => by
        induction l with
        | nil => rfl
        | cons a l ih =>
          rw [List.filter_cons, List.all_cons]
          cases hq : fullR a with
          | true => simpa using ih
          | false => rfl
      rw [this]
      rfl
  -- what is refused
  have eL : ∀ s5 s6 : Sl, (fRef (kn__law_refused c) (kd__law_refused c) (asL (fCallL 1 (aCons (fVar 0) aNil) (F_read_log c))) [Sl.fz (.str x), .fz (.lst lr), .un, .fz (.bl b), .un, s5, s6] : M W T) = ret (.str (if b = true then "none" else "text")) := by
    intro s5 s6
    cases hb : b with
    | true =>
      have e2 : F_read_log c [.str x] = (ret ((rowsOf x).map rowT) : M W (List T)) := by rw [e0]; exact if_pos hb
      exact fRef_ret (t := .lst ((rowsOf x).map rowT)) (by
        show asL (fCallL 1 (aCons (fVar 0) aNil) (F_read_log c)) (Sl.fz (.str x) :: _) = _
        simp -implicitDefEqProofs [e2]) rfl
    | false =>
      have e2 : F_read_log c [.str x] = (raiseM ⟨c.NoText, [], []⟩ : M W (List T)) := by rw [e0]; exact if_neg (by rw [show (ends x && (rowsOf x).all fullR) = false from hb]; simp)
      exact fRef_er (e := ⟨c.NoText, [], []⟩) (by
        show asL (fCallL 1 (aCons (fVar 0) aNil) (F_read_log c)) (Sl.fz (.str x) :: _) = _
        simp -implicitDefEqProofs [e2]) (kd_text c)
  have eI : ixT (.lst [.str "text", .str "none"]) (.int (if b = true then 1 else 0)) = some (.str (if b = true then "none" else "text")) := by
    cases b <;> rfl
  have eQ : eqT true (.str (if b = true then "none" else "text")) (.str (if b = true then "none" else "text")) = some (.bl false) := by
    rw [eq_str]
    cases b <;> rfl
  have eLoop : ∃ s5, (dFor (fRange1 (fC (.int 2))) (gN 5) (dIf (fB (f2 (eqT true) (fRef (kn__law_refused c) (kd__law_refused c) (asL (fCallL 1 (aCons (fVar 0) aNil) (F_read_log c)))) (f2 ixT (asL (fLst (aCons (fC (.str "text")) (aCons (fC (.str "none")) aNil)))) (f1 toInt (fVar 3))))) (dRet (fC (.bl false))) (fun ρ => ret (.nx ρ))) [Sl.fz (.str x), .fz (.lst lr), .un, .fz (.bl b), .un, .un, .un] : M W Fl) = ret (.nx [Sl.fz (.str x), .fz (.lst lr), .un, .fz (.bl b), .un, s5, .un]) := by
    obtain ⟨ρ', h1, s5, h2⟩ := dFor_inv (W := W) (i := 5) (g := dIf (fB (f2 (eqT true) (fRef (kn__law_refused c) (kd__law_refused c) (asL (fCallL 1 (aCons (fVar 0) aNil) (F_read_log c)))) (f2 ixT (asL (fLst (aCons (fC (.str "text")) (aCons (fC (.str "none")) aNil)))) (f1 toInt (fVar 3))))) (dRet (fC (.bl false))) (fun ρ => ret (.nx ρ)))
      (fun _ ρ => ∃ s5, ρ = [Sl.fz (.str x), .fz (.lst lr), .un, .fz (.bl b), .un, s5, .un]) range2 ⟨.un, rfl⟩ fun t ts ρ ⟨s5, hρ⟩ => by
        subst hρ
        refine ⟨_, ?_, .fz t, rfl⟩
        show dIf _ _ _ [Sl.fz (.str x), .fz (.lst lr), .un, .fz (.bl b), .un, .fz t, .un] = _
        have q := eL (.fz t) .un
        have tb : toInt (.bl b) = some (.int (if b = true then 1 else 0)) := rfl
        simp -implicitDefEqProofs only [ev_dIf, ev_fB, ev_f2, q, ev_bnd_ret, ev_asL, ev_fLst, ev_aCons, ev_aNil, ev_fC, ev_f1, ev_fVar, List.getElem?_cons_succ, List.getElem?_cons_zero, ev_slotV, ev_lift_some, tb]
        rw [show ([T.str "text", .str "none"] : List T).length = 2 from rfl, szK_ok (by decide)]
        simp -implicitDefEqProofs only [ev_bnd_ret]
        rw [eI]
        simp -implicitDefEqProofs only [ev_lift_some, ev_bnd_ret]
        rw [eQ]
        rfl
    exact ⟨s5, by rw [h1, h2]⟩
  obtain ⟨s5, eLoop⟩ := eLoop
  unfold F__law_right g__law_right
  rw [ev_run]
  simp only [List.map_id] at eF eB
  have hL0 : (asL (fLst aNil) [Sl.fz (.str x), .fz (.lst lr), .un, .un, .un, .un, .un] : M W T) = ret (.lst []) := by simp -implicitDefEqProofs
  have st1 : (dSet 1 (xFz (fIf (fB (f2 (eqT false) (fSlice (fVar 0) (fPart (f1 negT (fC (.int 1)))) fNoPart) (fC (.str "\n")))) (asL (fLc (fItems (asL (fM1l splitT (fSlice (fVar 0) fNoPart (fPart (f1 negT (fC (.int 1))))) (fC (.str "\n"))))) [2] (gN 2) tYesM (f1 tupT (asL (fM1l splitT (fVar 2) (fC (.str " "))))))) (asL (fLst (aCons (fTup aNil) aNil))))) [Sl.fz (.str x), .un, .un, .un, .un, .un, .un] : M W Fl) = ret (.nx [Sl.fz (.str x), .fz (.lst lr), .un, .un, .un, .un, .un]) := dSet_e (xFz_e eR)
  have st3 : (dSet 3 (xFz (f2 (eqT false) (asL (fLc (fItems (fVar 1)) [4] (gN 4) (bNot (fB (fCall 1 (aCons (fVar 4) aNil) (F__law_is_full c)))) (fVar 4))) (asL (fLst aNil)))) [Sl.fz (.str x), .fz (.lst lr), .un, .un, .un, .un, .un] : M W Fl) = ret (.nx [Sl.fz (.str x), .fz (.lst lr), .un, .fz (.bl b), .un, .un, .un]) := dSet_e (xFz_e (f2_e (asL_e eF) hL0 eB))
  show bnd (seqD _ _ [Sl.fz (.str x), .un, .un, .un, .un, .un, .un]) runK = _
  rw [seq_nx st1, seq_nx st3, seq_nx eLoop]
  cases hb : b with
  | false =>
    simp -implicitDefEqProofs
  | true =>
    have hbe : (ends x && (rowsOf x).all fullR) = true := hb
    rw [Bool.and_eq_true] at hbe
    have h1 : lr = (rowsOf x).map rowT := by show (if ends x = true then _ else _) = _; rw [hbe.1]; rfl
    have e2 : F_read_log c [.str x] = (ret ((rowsOf x).map rowT) : M W (List T)) := by rw [e0]; exact if_pos hb
    have hne := rowsOf_ne x
    have hlg : lg (.lst ((rowsOf x).map rowT)) := .inl ⟨_, .inl rfl, by rw [List.length_map]; have := rowsOf_few x; omega, fun u hu => by
      obtain ⟨xs, hxs, rfl⟩ := List.mem_map.mp hu
      exact rowsOf_rw hx hxs⟩
    have hdu : dueO (.lst ((rowsOf x).map rowT)) = .non := by
      show (if ((rowsOf x).map rowT).isEmpty then T.int 0 else match badAt 0 ((rowsOf x).map rowT) with | some i => .int (i : Nat) | none => .non) = _
      rw [badAll _ _ hbe.2, if_neg]
      simpa using hne
    have e3 := F_log_text_e (W := W) c (.inl rfl) hlg hdu (rowsOf_fit hx)
    rw [log_back hbe.1] at e3
    have e4 : eqT true (.str x) (.str x) = some (.bl false) := by rw [eq_str]; simp
    have e5 := rows_same (neg := true) (rowsOf x)
    have e6 := rows_same (neg := false) (rowsOf x)
    rw [h1]
    have hll' : ((rowsOf x).map rowT).length ≤ 100000 := by rw [← h1]; exact hll
    have st6 : ∀ s5, (dAppend 6 (fC .non) [Sl.fz (.str x), .fz (.lst ((rowsOf x).map rowT)), .un, .fz (.bl true), .un, s5, .ow ((rowsOf x).map rowT)] : M W Fl) = ret (.nx [Sl.fz (.str x), .fz (.lst ((rowsOf x).map rowT)), .un, .fz (.bl true), .un, s5, .ow ((rowsOf x).map rowT ++ [.non])]) := fun s5 => dAppend_e rfl rfl hll'
    simp -implicitDefEqProofs [e2, e3, e4, e5, e6, isa_list, st6]
end
end PL

set_option maxHeartbeats 4000000
/-! X8: the draws: a step, steps, an odd thing, a bent text. -/
namespace PL
open PySem L2 TL
section
variable {d : Addr} {n k N : Nat}
def WA : List Str := ["a", "b", "c", "p", "q"]
def WB : List Str := ["steps", "begins", "ends", "tie", "again", "either", "beside", "behind", "step", "do"]
theorem wa_step : ∀ s ∈ WA ++ WB, isStep s = true := by
  have : (WA ++ WB).all isStep = true := by decide +kernel
  exact fun x hx => List.all_eq_true.mp this x hx
theorem range_e {W : Type} {fa : Rho → M W T} {ρ : Rho} {m : Nat} (e : fa ρ = ret (.int (m : Nat))) (h : m ≤ 1000000) : fRange1 fa ρ = ret (intsT 0 m) := by
  unfold fRange1
  rw [e, ret_bnd]
  show bnd (ret ((m : Nat) : Int)) _ = _
  rw [ret_bnd, if_pos ⟨by omega, by omega⟩, Int.toNat_natCast]
theorem one_plus {ρ : Rho} {fa : Rho → M Dr T} {b : Int} (h : Tot d n (fa ρ) (fun t => ∃ i : Int, t = .int i ∧ 0 ≤ i ∧ i < b)) : Tot d n (f2 addT (fC (.int 1)) fa ρ) (fun t => ∃ i : Int, t = .int i ∧ 1 ≤ i ∧ i ≤ b) :=
  Tot.f2 (n := 0) (k := n) (P := fun u => u = .int 1) (.val rfl) h (fun t u ht hu => by
    obtain ⟨i, rfl, h1, h2⟩ := hu
    subst ht
    exact ⟨.int (1 + i), rfl, 1 + i, rfl, by omega, by omega⟩) (by omega)
abbrev sStep (d : Addr) (x1 x2 x3 x4 : Sl) : Rho := [.fz (.raw (.ref d)), x1, x2, x3, x4]
theorem step_tot (c : Cs) : Tot d 8 (F__law_step c [.raw (.ref d)]) (fun t => ∃ s, t = .str s ∧ isStep s = true) := by
  unfold F__law_step
  refine Tot.run ?_
  unfold g__law_step
  show Tot d 8 (seqD _ _ (sStep d .un .un .un .un)) _
  refine Tot.seq (n := 1) (k := 7) (P := fun ρ => ∃ i : Int, 0 ≤ i ∧ ρ = sStep d (.fz (.int i)) .un .un .un) ?_ (fun ρ hρ => ?_) (Nat.le_refl _)
  · exact (Tot.set (draw_call c rfl rfl (by decide) (by decide))).mono (Nat.le_refl _) (nx_set fun u hu => by
      obtain ⟨i, rfl, h0, _⟩ := hu
      exact ⟨i, h0, rfl⟩)
  obtain ⟨i, h0, rfl⟩ := hρ
  by_cases h3 : i < 3
  · have e1 : (fB (f2 (ltT fun i j => decide (i < j)) (fVar 1) (fC (.int 3))) (sStep d (.fz (.int i)) .un .un .un) : M Dr Bool) = ret true := fB_e (f2_e (t := .int i) (u := .int 3) rfl rfl (by show some (T.bl (decide (i < 3))) = _; rw [decide_eq_true h3]))
    refine Tot.bnd (n := 1) (k := 0) (P := fun fl => ∃ t, fl = Fl.rt t ∧ ∃ s, t = .str s ∧ isStep s = true) (Tot.eq (dIf_t e1) (Tot.rt ?_)) (fun fl hf => ?_) (by omega)
    · refine (Tot.eq (fCall_e (ts := [.raw (.ref d), .lst (WA.map T.str)]) (aCons_e rfl (aCons_e (asL_e (fLst_e (ts := WA.map T.str) rfl (by simp [WA]))) aNil_e)) rfl) (pick_lst c (by simp [WA]) (by simp [WA]))).mono (Nat.le_refl _) fun t ht => ?_
      obtain ⟨s, hs, rfl⟩ := List.mem_map.mp ht
      exact ⟨s, rfl, wa_step s (List.mem_append_left _ hs)⟩
    · obtain ⟨t, rfl, ht⟩ := hf
      exact .ofRet rfl ⟨t, rfl, ht⟩
  · have e1 : (fB (f2 (ltT fun i j => decide (i < j)) (fVar 1) (fC (.int 3))) (sStep d (.fz (.int i)) .un .un .un) : M Dr Bool) = ret false := fB_e (f2_e (t := .int i) (u := .int 3) rfl rfl (by show some (T.bl (decide (i < 3))) = _; rw [decide_eq_false h3]))
    refine Tot.eq (seq_nx (dIf_f e1)) ?_
    by_cases h4 : i = 3
    · subst h4
      have e2 : (fB (f2 (eqT false) (fVar 1) (fC (.int 3))) (sStep d (.fz (.int 3)) .un .un .un) : M Dr Bool) = ret true := fB_e (f2_e (t := .int 3) (u := .int 3) rfl rfl (eq_int false 3 3))
      refine Tot.bnd (n := 1) (k := 0) (P := fun fl => ∃ t, fl = Fl.rt t ∧ ∃ s, t = .str s ∧ isStep s = true) (Tot.eq (dIf_t e2) ?_) (fun fl hf => ?_) (by omega)
      · refine Tot.eq (seq_nx (dSet_e (xFz_e (asL_e (fLst_e (ts := WB.map T.str) rfl (by simp [WB])))))) (Tot.rt ?_)
        refine (Tot.eq (fCall_e (ts := [.raw (.ref d), .lst (WB.map T.str)]) (aCons_e rfl (aCons_e rfl aNil_e)) rfl) (pick_lst c (by simp [WB]) (by simp [WB]))).mono (Nat.le_refl _) fun t ht => ?_
        obtain ⟨s, hs, rfl⟩ := List.mem_map.mp ht
        exact ⟨s, rfl, wa_step s (List.mem_append_right _ hs)⟩
      · obtain ⟨t, rfl, ht⟩ := hf
        exact .ofRet rfl ⟨t, rfl, ht⟩
    · have e2 : (fB (f2 (eqT false) (fVar 1) (fC (.int 3))) (sStep d (.fz (.int i)) .un .un .un) : M Dr Bool) = ret false := fB_e (f2_e (t := .int i) (u := .int 3) rfl rfl ((eq_int false i 3).trans (by
        have : (i == 3) = false := beq_eq_false_iff_ne.mpr h4
        rw [this]; rfl)))
      refine Tot.eq (seq_nx (dIf_f e2)) ?_
      refine Tot.eq (seq_nx (dSet_e (xFz_e (t := .str LET) rfl))) (Tot.rt ?_)
      show Tot d 7 (PL.bnd (PL.ret (T.str "")) _) _
      rw [ret_bnd]
      show Tot d 7 (PL.bnd (PL.ret ("" : Str)) _) _
      rw [ret_bnd]
      have hr : Tot d 1 (fRange1 (f2 addT (fC (.int 1)) (fCall 2 (aCons (fVar 0) (aCons (fC (.int 6)) aNil)) (F__law_draw c))) (sStep d (.fz (.int i)) .un (.fz (.str LET)) .un)) (fun ts => ((1 : Int) ≤ (ts.length : Nat) ∧ ((ts.length : Nat) : Int) ≤ 6)) :=
        range_tot (by omega) (one_plus (draw_call c rfl rfl (by decide) (by decide))) (by decide)
      have hl := lc_tot (vs := [4]) (i := 4) (m := 6) (k := 1) (N := 7) (ge := fCall 2 (aCons (fVar 0) (aCons (fVar 3) aNil)) (F__law_pick c)) (Q := fun ts => 1 ≤ ts.length ∧ ts.length ≤ 6) (P := fun u => ∃ x, u = T.str ⟨#[x]⟩ ∧ x ∈ LET.cps.toList) (hr.mono (Nat.le_refl _) fun ts h => ⟨by omega, by omega, by omega⟩) (by omega)
        (fun t => Tot.eq (fCall_e (ts := [.raw (.ref d), .str LET]) (aCons_e rfl (aCons_e rfl aNil_e)) rfl) (pick_str c (by decide +kernel) (by decide +kernel))) (by omega)
      refine Tot.bnd (Tot.asL hl) (fun t ht => ?_) (k := 0) (Nat.le_refl _)
      obtain ⟨us, rfl, ⟨ts, ⟨h1, h2⟩, h3⟩, h4⟩ := ht
      obtain ⟨ys, rfl, hy⟩ := letters_of h4
      rw [List.length_map] at h3
      rw [joinT_letters (by omega)]
      exact .ofRet rfl ⟨_, rfl, join_step (by omega) (by omega) hy⟩
/-! ### steps -/
abbrev sSt (d : Addr) (m : Int) (xs : List Str) (x4 x5 x6 x7 x8 : Sl) : Rho := [.fz (.raw (.ref d)), .fz (.int m), .fz (.str LET), .ow (xs.map T.str), x4, x5, x6, x7, x8]
theorem cut6 {z : Str} (h : isStep z = true) : sliceT none (some 6) (.str z) = some (.str z) := by
  have hl := (isStep_iff.mp h).2.1
  show (if z.length ≤ sizeLine then some (T.str (cutS z none (some 6))) else none) = _
  rw [if_pos (by rw [sizeLine_eq]; omega)]
  congr 2
  apply ext_tl
  show ((tl z).drop 0).take (HT.sIx z.length z.length (some ((6 : Nat) : Int)) - 0) = _
  rw [HT.sIx_nat, List.drop_zero, Nat.sub_zero]
  exact List.take_of_length_le (by rw [← len_tl]; omega)
theorem near_e {W : Type} {d : Addr} {m : Int} {xs : List Str} {x4 x6 x7 x8 : Sl} {z : Str} (hz : isStep z = true) :
    (f2 addT (asL (fLst (aCons (fVar 5) aNil))) (asL (fLc (fItems (fVar 2)) [7] (gN 7) tYesM (f2 addT (fSlice (fVar 5) fNoPart (fPart (fC (.int 5)))) (fVar 7)))) (sSt d m xs x4 (.fz (.str z)) x6 x7 x8) : M W T) = ret (sLst (nears z)) := by
  have hzl : z.length ≤ sizeLine := by have := (isStep_iff.mp hz).2.1; rw [sizeLine_eq]; omega
  have e1 : (asL (fLc (fItems (fVar 2)) [7] (gN 7) tYesM (f2 addT (fSlice (fVar 5) fNoPart (fPart (fC (.int 5)))) (fVar 7))) (sSt d m xs x4 (.fz (.str z)) x6 x7 x8) : M W T) = ret (.lst (LET.cps.toList.map fun x => T.str (cutS z none (some 5) ++ ⟨#[x]⟩))) := by
    refine asL_e (fLc_mapP LET.cps.toList (fun x => T.str ⟨#[x]⟩) (fun x => T.str (cutS z none (some 5) ++ ⟨#[x]⟩)) (fItems_s (z := LET) rfl) (by rw [let_len, sizeLine_eq]; omega) fun x hx => ?_)
    refine f2_e (t := .str (cutS z none (some 5))) (u := .str ⟨#[x]⟩) (fSlice_e (t := .str z) rfl rfl (fPart_e rfl) (by show (if z.length ≤ sizeLine then _ else none) = _; rw [if_pos hzl])) rfl ?_
    show (if (cutS z none (some 5)).length + 1 ≤ sizeLine then _ else none) = _
    have := cut5_len (z := z)
    rw [if_pos (by rw [sizeLine_eq]; omega)]
  refine f2_e (t := .lst [.str z]) (asL_e (fLst_e (aCons_e rfl aNil_e) (by simp))) e1 ?_
  show (if 1 + (LET.cps.toList.map fun x => T.str (cutS z none (some 5) ++ ⟨#[x]⟩)).length ≤ sizeLine then some (T.lst ([T.str z] ++ _)) else none) = _
  rw [if_pos (by rw [List.length_map, let_len, sizeLine_eq]; omega)]
  unfold sLst nears
  rw [List.map_cons, List.map_map]
  rfl
theorem new_e {d : Addr} {m : Int} {xs : List Str} {x4 x5 x7 x8 : Sl} {z : Str} (hl : xs.length ≤ 20) (hz : isStep z = true) : ∃ s, isStep s = true ∧
    (dAppend 3 (f2 ixT (asL (fLc (fItems (fVar 6)) [8] (gN 8) (fB (f2 (inT true) (fVar 8) (fVarS 3))) (fVar 8))) (fC (.int 0))) (sSt d m xs x4 x5 (.fz (sLst (nears z))) x7 x8) : M Dr Fl) = ret (.nx (sSt d m (xs ++ [s]) x4 x5 (.fz (sLst (nears z))) x7 x8)) := by
  have hnl : (nears z).length = 27 := by unfold nears; rw [List.length_cons, List.length_map, let_len]
  have e1 := fLc_pure (W := Dr) (fi := fItems (fVar 6)) (vs := [8]) (i := 8) (gt := fB (f2 (inT true) (fVar 8) (fVarS 3))) (ge := fVar 8) (ρ := sSt d m xs x4 x5 (.fz (sLst (nears z))) x7 x8) (ts := (nears z).map T.str)
    (fun u => match u with | .str s => !xs.any (· == s) | _ => false) id (fItems_l rfl) (by rw [List.length_map, hnl, sizeLine_eq]; omega)
    (fun u hu => by
      obtain ⟨s, _, rfl⟩ := List.mem_map.mp hu
      exact fB_e (f2_e (t := .str s) (u := sLst xs) rfl rfl (by rw [inT_strs]; rfl)))
    (fun u hu _ => rfl)
  rw [List.map_id, List.filter_map] at e1
  have e2 : ((nears z).filter ((fun u => match u with | T.str s => !xs.any (· == s) | _ => false) ∘ T.str)) = (nears z).filter fun s => !xs.any (· == s) := rfl
  rw [e2] at e1
  cases hf : (nears z).filter fun s => !xs.any (· == s) with
  | nil =>
    exfalso
    obtain ⟨s, hs, hn⟩ := nears_new z (xs := xs) (by omega)
    have : s ∈ (nears z).filter fun s => !xs.any (· == s) := by
      rw [List.mem_filter]
      refine ⟨hs, ?_⟩
      simp only [Bool.not_eq_true', List.any_eq_false, beq_iff_eq]
      intro y hy e
      exact hn (e ▸ hy)
    rw [hf] at this
    cases this
  | cons s r =>
    have hs : s ∈ (nears z).filter fun s => !xs.any (· == s) := by rw [hf]; exact List.mem_cons_self
    rw [List.mem_filter] at hs
    refine ⟨s, nears_step hz s hs.1, ?_⟩
    rw [hf] at e1
    have q := dAppend_e (W := Dr) (i := 3) (ρ := sSt d m xs x4 x5 (.fz (sLst (nears z))) x7 x8) (fa := f2 ixT (asL (fLc (fItems (fVar 6)) [8] (gN 8) (fB (f2 (inT true) (fVar 8) (fVarS 3))) (fVar 8))) (fC (.int 0))) (ts := xs.map T.str) (t := .str s) rfl
      (f2_e (g := ixT) (t := .lst ((s :: r).map T.str)) (u := .int 0) (v := .str s) (asL_e e1) rfl (by simp [ixT, atI, ixN])) (by rw [List.length_map]; omega)
    rw [q]
    show ret (Fl.nx ((sSt d m xs x4 x5 (.fz (sLst (nears z))) x7 x8).set 3 (.ow (xs.map T.str ++ [.str s])))) = _
    rw [sSt, sSt, List.map_append]
    rfl
theorem steps_tot (c : Cs) {m : Nat} (hm : 1 ≤ m ∧ m ≤ 12) : Tot d (m * 8) (F__law_steps c [.raw (.ref d), .int (m : Nat)]) (fun t => ∃ xs, t = sLst xs ∧ xs.length = m ∧ ∀ x ∈ xs, isStep x = true) := by
  unfold F__law_steps
  refine Tot.run ?_
  unfold g__law_steps
  have e1 : (dPar 2 3 (xFz (fC (.str "abcdefghijklmnopqrstuvwxyz"))) (xOw (fLst aNil)) ([T.raw (.ref d), .int (m : Nat)].map Sl.fz ++ List.replicate 7 Sl.un) : M Dr Fl) = ret (.nx (sSt d (m : Nat) [] .un .un .un .un .un)) := by
    unfold dPar
    rw [xFz_e (t := .str LET) rfl, ret_bnd]
    show bnd (bnd (fLst aNil _) _) _ = _
    rw [fLst_e aNil_e (by simp), ret_bnd, ret_bnd]
    rfl
  refine Tot.eq (seq_nx e1) ?_
  refine Tot.seq (n := m * 8) (k := 0) (P := fun ρ => ∃ xs x4 x5 x6 x7 x8, ρ = sSt d (m : Nat) xs x4 x5 x6 x7 x8 ∧ xs.length = m ∧ ∀ x ∈ xs, isStep x = true) ?_ (fun ρ hρ => ?_) (Nat.le_refl _)
  case refine_2 =>
    obtain ⟨xs, x4, x5, x6, x7, x8, rfl, h⟩ := hρ
    exact .ofRet (dRet_e (t := sLst xs) rfl) ⟨sLst xs, rfl, xs, rfl, h⟩
  have er : (fRange1 (fVar 1) (sSt d (m : Nat) [] .un .un .un .un .un) : M Dr (List T)) = ret (intsT 0 m) := range_e rfl (by omega)
  unfold dFor
  rw [er, ret_bnd]
  have hlen : (intsT 0 m).length = m := by unfold intsT; rw [List.length_map, List.length_range]
  refine Tot.mono (Tot.loop (d := d) (n := 8) (i := 4) (fun ts ρ => ∃ xs x4 x5 x6 x7 x8, ρ = sSt d (m : Nat) xs x4 x5 x6 x7 x8 ∧ xs.length + ts.length = m ∧ ∀ x ∈ xs, isStep x = true) ?step (intsT 0 m) (sSt d (m : Nat) [] .un .un .un .un .un) ⟨[], _, _, _, _, _, rfl, by rw [hlen]; simp, fun _ h => nomatch h⟩) (by rw [hlen]; exact Nat.le_refl _) (fun fl hf => ?post)
  case post =>
    obtain ⟨ρ', e, xs, x4, x5, x6, x7, x8, rfl, hl, hst⟩ := hf
    exact ⟨_, e, xs, x4, x5, x6, x7, x8, rfl, by simpa using hl, hst⟩
  case step =>
    intro t ts ρ h
    obtain ⟨xs, x4, x5, x6, x7, x8, rfl, hl, hst⟩ := h
    rw [List.length_cons] at hl
    show Tot d 8 (seqD _ _ (sSt d (m : Nat) xs (.fz t) x5 x6 x7 x8)) _
    refine Tot.seq (n := 8) (k := 0) (P := fun ρ => ∃ z, isStep z = true ∧ ρ = sSt d (m : Nat) xs (.fz t) (.fz (.str z)) x6 x7 x8) ?_ (fun ρ hρ => ?_) (Nat.le_refl _)
    · refine (Tot.set (P := fun u => ∃ z, u = .str z ∧ isStep z = true) (Tot.bnd (n := 8) (k := 0) (P := fun u => ∃ z, u = .str z ∧ isStep z = true) (Tot.eq (fCall_e (ts := [.raw (.ref d)]) (aCons_e rfl aNil_e) rfl) (step_tot c)) (fun u hu => ?_) (Nat.le_refl _))).mono (Nat.le_refl _) (nx_set fun u hu => ?_)
      · obtain ⟨z, rfl, hz⟩ := hu
        refine .ofRet (a := .str z) ?_ ⟨z, rfl, hz⟩
        show bnd (ret none) (fun lo => bnd (fPart (fC (.int 6)) _) fun hi => lift (sliceT lo hi (.str z))) = _
        rw [ret_bnd, fPart_e (i := 6) rfl, ret_bnd, cut6 hz]
        rfl
      · obtain ⟨z, rfl, hz⟩ := hu
        exact ⟨z, hz, rfl⟩
    obtain ⟨y, hy, rfl⟩ := hρ
    refine Tot.eq (seq_nx (dSet_e (xFz_e (near_e hy)))) ?_
    obtain ⟨s, h2, h3⟩ := new_e (d := d) (m := (m : Nat)) (xs := xs) (x4 := .fz t) (x5 := .fz (.str y)) (x7 := x7) (x8 := x8) (z := y) (by omega) hy
    refine .ofRet h3 ⟨_, rfl, xs ++ [s], _, _, _, _, _, rfl, by rw [List.length_append, List.length_singleton]; omega, fun x hx => ?_⟩
    rcases List.mem_append.mp hx with hx | hx
    · exact hst x hx
    · rcases List.mem_singleton.mp hx with rfl
      exact h2
end
end PL

set_option maxHeartbeats 4000000
/-! X9a: odd things, bent texts. -/
namespace PL
open PySem L2 TL
/-- small data -/
def fl1 (t : T) : Bool := match t with
  | .str x => decide (x.length ≤ 100)
  | .raw _ => false
  | .ins _ _ _ => false
  | _ => true
def fl0 (t : T) : Bool := match t with
  | .str x => decide (x.length ≤ 100)
  | .non => true
  | .bl _ => true
  | .int _ => true
  | _ => false
theorem fl0_fl1 {t : T} (h : fl0 t = true) : fl1 t = true := by
  cases t <;> first | exact h | rfl | cases h
theorem fl0_tup {t : T} (h : fl0 t = true) : ∀ ts, t ≠ .tup ts := fun ts e => by subst e; cases h
def fl (t : T) : Bool := match t with
  | .tup ts => decide (ts.length ≤ 10) && ts.all fl0
  | .lst ts => decide (ts.length ≤ 10) && ts.all fl0
  | t => fl1 t
theorem fl_fl1 {t : T} (h : fl t = true) : fl1 t = true := by
  cases t with
  | tup ts => rfl
  | lst ts => rfl
  | _ => exact h
theorem fl1_el {t : T} (h : fl1 t = true) : el t := by
  cases t with
  | str x => exact .inl ⟨x, rfl, by have := of_decide_eq_true (show decide (x.length ≤ 100) = true from h); omega⟩
  | raw v => cases h
  | ins _ _ _ => cases h
  | non => exact .inr (by show (kitB "NoneType" "str").map T.bl = _; rw [show kitB "NoneType" "str" = some false from by decide +kernel]; rfl)
  | bl _ => exact .inr (by show (kitB "bool" "str").map T.bl = _; rw [show kitB "bool" "str" = some false from by decide +kernel]; rfl)
  | int _ => exact .inr (by show (kitB "int" "str").map T.bl = _; rw [show kitB "int" "str" = some false from by decide +kernel]; rfl)
  | tup _ => exact .inr isa_str_tup
  | lst _ => exact .inr (by show (kitB "list" "str").map T.bl = _; rw [show kitB "list" "str" = some false from by decide +kernel]; rfl)
  | dct _ _ => exact .inr (by show (kitB "dict" "str").map T.bl = _; rw [show kitB "dict" "str" = some false from by decide +kernel]; rfl)
theorem notTup {t : T} (h : fl1 t = true) (ht : ∀ ts, t ≠ .tup ts) : isaT "tuple" t = some (.bl false) := by
  cases t with
  | str x => exact isa_tup_str
  | raw v => cases h
  | ins _ _ _ => cases h
  | non => show (kitB "NoneType" "tuple").map T.bl = _; rw [show kitB "NoneType" "tuple" = some false from by decide +kernel]; rfl
  | bl _ => show (kitB "bool" "tuple").map T.bl = _; rw [show kitB "bool" "tuple" = some false from by decide +kernel]; rfl
  | int _ => show (kitB "int" "tuple").map T.bl = _; rw [show kitB "int" "tuple" = some false from by decide +kernel]; rfl
  | tup ts => exact absurd rfl (ht ts)
  | lst _ => show (kitB "list" "tuple").map T.bl = _; rw [kb_lt]; rfl
  | dct _ _ => show (kitB "dict" "tuple").map T.bl = _; rw [show kitB "dict" "tuple" = some false from by decide +kernel]; rfl
theorem notLog {t : T} (h : fl1 t = true) (ht : ∀ ts, t ≠ .tup ts) (hl : ∀ ts, t ≠ .lst ts) : isaTT "list" "tuple" t = some (.bl false) := by
  have h2 := notTup h ht
  have h1 : isaT "list" t = some (.bl false) := by
    cases t with
    | str x => show (kitB "str" "list").map T.bl = _; rw [show kitB "str" "list" = some false from by decide +kernel]; rfl
    | raw v => cases h
    | ins _ _ _ => cases h
    | non => show (kitB "NoneType" "list").map T.bl = _; rw [show kitB "NoneType" "list" = some false from by decide +kernel]; rfl
    | bl _ => show (kitB "bool" "list").map T.bl = _; rw [show kitB "bool" "list" = some false from by decide +kernel]; rfl
    | int _ => show (kitB "int" "list").map T.bl = _; rw [show kitB "int" "list" = some false from by decide +kernel]; rfl
    | tup ts => exact absurd rfl (ht ts)
    | lst ts => exact absurd rfl (hl ts)
    | dct _ _ => show (kitB "dict" "list").map T.bl = _; rw [show kitB "dict" "list" = some false from by decide +kernel]; rfl
  unfold isaTT
  rw [h1, h2]
  rfl
theorem fl_rw {t : T} (h : fl t = true) : rw_ t := by
  by_cases ht : ∃ ts, t = .tup ts
  · obtain ⟨ts, rfl⟩ := ht
    have h : (decide (ts.length ≤ 10) && ts.all fl0) = true := h
    rw [Bool.and_eq_true] at h
    exact .inl ⟨ts, rfl, by have := of_decide_eq_true h.1; omega, fun u hu => fl1_el (fl0_fl1 (List.all_eq_true.mp h.2 u hu))⟩
  · exact .inr (notTup (fl_fl1 h) fun ts e => ht ⟨ts, e⟩)
/-- a thing as a log: by small things -/
structure NL (t : T) : Prop where
  lg : lg t
  few : ∀ ts, itemsT t = some ts → ts.length ≤ 1000 ∧ ∀ u ∈ ts, ∀ us, u = T.tup us → us.length ≤ 100
theorem fl_nl {t : T} (h : fl t = true) : NL t := by
  have key : ∀ ts : List T, (decide (ts.length ≤ 10) && ts.all fl0) = true → (t = .lst ts ∨ t = .tup ts) → NL t := fun ts h ht => by
    rw [Bool.and_eq_true] at h
    have hl := of_decide_eq_true h.1
    refine ⟨.inl ⟨ts, ht, by omega, fun u hu => .inr (notTup (fl0_fl1 (List.all_eq_true.mp h.2 u hu)) (fl0_tup (List.all_eq_true.mp h.2 u hu)))⟩, fun us e => ?_⟩
    have : us = ts := by rcases ht with rfl | rfl <;> cases e <;> rfl
    subst this
    exact ⟨by omega, fun u hu ws e => absurd e (fl0_tup (List.all_eq_true.mp h.2 u hu) ws)⟩
  by_cases ht : ∃ ts, t = .tup ts
  · obtain ⟨ts, rfl⟩ := ht
    exact key ts h (.inr rfl)
  · by_cases hl : ∃ ts, t = .lst ts
    · obtain ⟨ts, rfl⟩ := hl
      exact key ts h (.inl rfl)
    · have hn := notLog (fl_fl1 h) (fun ts e => ht ⟨ts, e⟩) fun ts e => hl ⟨ts, e⟩
      refine ⟨.inr hn, fun ts e => ?_⟩
      rw [items_not hn] at e
      cases e
def ODD : List T := [.non, .bl true, .bl false, .int 0, .int (-1), .int (10 ^ 30), .str "", .str "A1", .str "a b", .str "sevenab", .str "SEVENAB", .str "aB", .str "(", .str "*", .tup [], .lst [], .dct [] []] ++
  [.lst [.str "a"], .tup [.str "a"], .tup [.str "a", .str "b"], .dct [.inr "a"] [.str "b"], .str "a >", .str "a\tb", .str "a\n", .str "1", .str "_"]
theorem odd_fl : ∀ t ∈ ODD, fl t = true := by
  have : ODD.all fl = true := by decide +kernel
  exact fun t ht => List.all_eq_true.mp this t ht
section
variable {d : Addr} {n k N : Nat}
theorem odd_tot (c : Cs) : Tot d 1 (F__law_odd c [.raw (.ref d)]) (fun t => t ∈ ODD) := by
  unfold F__law_odd
  refine Tot.run ?_
  unfold g__law_odd
  have p30 : powT (.int 10) (.int 30) = some (.int (10 ^ 30)) := cpow_e ⟨by decide, by decide⟩ ⟨by decide, by decide⟩
  have e1 : (dSet 1 (xFz (asL (fLst (aCons (fC .non) (aCons (fC (.bl true)) (aCons (fC (.bl false)) (aCons (fC (.int 0)) (aCons (f1 negT (fC (.int 1))) (aCons (f2 powT (fC (.int 10)) (fC (.int 30))) (aCons (fC (.str "")) (aCons (fC (.str "A1")) (aCons (fC (.str "a b")) (aCons (fC (.str "sevenab")) (aCons (fC (.str "SEVENAB")) (aCons (fC (.str "aB")) (aCons (fC (.str "(")) (aCons (fC (.str "*")) (aCons (fTup aNil) (aCons (asL (fLst aNil)) (aCons (fC (.dct [] [])) aNil)))))))))))))))))))) [Sl.fz (.raw (.ref d)), .un] : M Dr Fl) = ret (.nx [Sl.fz (.raw (.ref d)), .fz (.lst [.non, .bl true, .bl false, .int 0, .int (-1), .int (10 ^ 30), .str "", .str "A1", .str "a b", .str "sevenab", .str "SEVENAB", .str "aB", .str "(", .str "*", .tup [], .lst [], .dct [] []])]) := by
    simp -implicitDefEqProofs [p30, negT]
  refine Tot.eq (seq_nx e1) (Tot.rt ?_)
  have e2 : (f2 addT (fVar 1) (asL (fLst (aCons (asL (fLst (aCons (fC (.str "a")) aNil))) (aCons (fTup (aCons (fC (.str "a")) aNil)) (aCons (fTup (aCons (fC (.str "a")) (aCons (fC (.str "b")) aNil))) (aCons (fC (.dct [.inr "a"] [.str "b"])) (aCons (fC (.str "a >")) (aCons (fC (.str "a\tb")) (aCons (fC (.str "a\n")) (aCons (fC (.str "1")) (aCons (fC (.str "_")) aNil))))))))))) [Sl.fz (.raw (.ref d)), .fz (.lst [.non, .bl true, .bl false, .int 0, .int (-1), .int (10 ^ 30), .str "", .str "A1", .str "a b", .str "sevenab", .str "SEVENAB", .str "aB", .str "(", .str "*", .tup [], .lst [], .dct [] []])] : M Dr T) = ret (.lst ODD) := by
    simp -implicitDefEqProofs [ev_addL]
    rfl
  exact Tot.eq (fCall_e (ts := [.raw (.ref d), .lst ODD]) (aCons_e rfl (aCons_e e2 aNil_e)) rfl) (pick_lst c (by simp [ODD]) (by simp [ODD]))
end
end PL

set_option maxHeartbeats 4000000
/-! X9b: bent texts. -/
namespace PL
open PySem L2 TL
section
variable {d : Addr} {n k N : Nat}
theorem cutS_len (x : Str) (lo hi : Option Int) : (cutS x lo hi).length ≤ x.length := by
  show ((tl x).drop _ |>.take _).toArray.size ≤ _
  rw [List.size_toArray, List.length_take, List.length_drop, len_tl]
  omega
theorem slice_e {x : Str} {lo hi : Option Int} (hx : x.length ≤ 100000) : sliceT lo hi (.str x) = some (.str (cutS x lo hi)) := by
  show (if x.length ≤ sizeLine then _ else none) = _
  rw [if_pos (by rw [sizeLine_eq]; omega)]
def SIGNS : List T := [.str "a", .str "b", .str " ", .str "1", .str "\n", .str "A"] ++ [.str "  ", .str " a", .str "\n\n", .str "\t", .str "abcdefg"]
theorem signs_len : ∀ t ∈ SIGNS, ∃ s, t = .str s ∧ s.length ≤ 10 := by
  have : ∀ t ∈ SIGNS, (match t with | .str s => decide (s.length ≤ 10) | _ => false) = true := by
    have : SIGNS.all (fun t => match t with | .str s => decide (s.length ≤ 10) | _ => false) = true := by decide +kernel
    exact fun t ht => List.all_eq_true.mp this t ht
  intro t ht
  have h := this t ht
  cases t with
  | str s => exact ⟨s, rfl, of_decide_eq_true h⟩
  | _ => cases h
abbrev sB (d : Addr) (x : Str) (x2 x3 x4 x5 : Sl) : Rho := [.fz (.raw (.ref d)), .fz (.str x), x2, x3, x4, x5]
theorem str_len2 (a b : Str) : (a ++ b).length = a.length + b.length := by rw [len_tl, tl_append, List.length_append, len_tl, len_tl]
theorem sum_take : ∀ (l : List Nat) (k : Nat), (l.take k).sum ≤ l.sum
  | [], k => by simp
  | a :: l, 0 => by simp
  | a :: l, k + 1 => by
    have := sum_take l k
    simp only [List.take_succ_cons, List.sum_cons]
    omega
theorem sum_drop : ∀ (l : List Nat) (k : Nat), (l.drop k).sum ≤ l.sum
  | [], k => by simp
  | a :: l, 0 => by simp
  | a :: l, k + 1 => by
    have := sum_drop l k
    simp only [List.drop_succ_cons, List.sum_cons]
    omega
theorem cutA_map {α β : Type} (f : α → β) (l : List α) (lo hi : Option Int) : cutA (l.map f) lo hi = (cutA l lo hi).map f := by
  unfold cutA
  rw [List.length_map, List.map_take, List.map_drop]
theorem cutA_sum (l : List Str) (lo hi : Option Int) : ((cutA l lo hi).map (·.length)).sum ≤ (l.map (·.length)).sum := by
  unfold cutA
  rw [List.map_take, List.map_drop]
  exact Nat.le_trans (sum_take _ _) (sum_drop _ _)
theorem cutA_len {α : Type} (l : List α) (lo hi : Option Int) : (cutA l lo hi).length ≤ l.length := by
  unfold cutA
  rw [List.length_take, List.length_drop]
  omega
theorem glue_len (ls : List Str) : (Txt.join "\n" ls).length ≤ (ls.map (·.length)).sum + ls.length := by
  have := PySem.size_glued ("\n" : Str) ls
  rw [nl_len, Nat.mul_one] at this
  show (Builtin.Str.glued "\n" ls).length ≤ _
  omega
theorem addL_strs {xs ys : List Str} (h : xs.length + ys.length ≤ 1000000) : addT (.lst (xs.map T.str)) (.lst (ys.map T.str)) = some (.lst ((xs ++ ys).map T.str)) := by
  rw [ev_addL (by rw [List.length_map, List.length_map]; exact h), List.map_append]
theorem nil_split (x : Str) : Txt.split x "\n" ≠ [] := fun z => by
  have := split_spl x "\n" (by rw [nl_tl]; simp) (TL.kind_ok (by decide +kernel))
  rw [z] at this
  have hs : ∀ (S : List Nat) (k : Nat) (a l : List Nat), spl S k a l ≠ [] := by
    intro S k a l
    induction l generalizing k a with
    | nil => rw [spl_nil]; simp
    | cons c r ih =>
      cases k with
      | zero =>
        show (if pre S (c :: r) = true then a :: spl S (S.length - 1) [] r else spl S 0 (a ++ [c]) r) ≠ []
        split
        · simp
        · exact ih _ _
      | succ k => exact ih _ _
  exact hs _ _ _ _ this.symm
theorem Tot.par {i j : Nat} {fa fb : Rho → M Dr T} {ρ : Rho} {P Q : T → Prop} (ha : Tot d n (fa ρ) P) (hb : Tot d k (fb ρ) Q) (e : n + k ≤ N) : Tot d N (dPar i j (xFz fa) (xFz fb) ρ) (Nx fun ρ' => ∃ t u, P t ∧ Q u ∧ ρ' = (ρ.set i (.fz t)).set j (.fz u)) := by
  show Tot d N (PL.bnd (PL.bnd (fa ρ) fun t => PL.ret (Sl.fz t)) fun s => PL.bnd (PL.bnd (fb ρ) fun t => PL.ret (Sl.fz t)) fun s2 => PL.ret (Fl.nx ((ρ.set i s).set j s2))) _
  rw [bnd_assoc]
  refine Tot.bnd ha (fun t ht => ?_) e
  rw [ret_bnd, bnd_assoc]
  refine Tot.bnd hb (fun u hu => ?_) (k := 0) (Nat.le_refl _)
  exact .ofRet rfl ⟨_, rfl, t, u, ht, hu, rfl⟩
theorem bent_tot (c : Cs) {x : Str} (hx : x.length ≤ 20000) : Tot d 5 (F__law_bent c [.raw (.ref d), .str x]) (fun t => ∃ y, t = .str y ∧ y.length ≤ 3 * x.length + 10) := by
  unfold F__law_bent
  refine Tot.run ?_
  unfold g__law_bent
  show Tot d 5 (seqD _ _ (sB d x .un .un .un .un)) _
  have hlen : lenT (.str x) = some (.int (x.length : Nat)) := ev_lenS (by omega)
  refine Tot.seq (n := 2) (k := 3) (P := fun ρ => ∃ i j : Int, 0 ≤ i ∧ 0 ≤ j ∧ j ≤ (x.length : Nat) ∧ i < 5 ∧ ρ = sB d x (.fz (.int i)) (.fz (.int j)) .un .un) ?_ (fun ρ hρ => ?_) (Nat.le_refl _)
  · refine (Tot.par (n := 1) (k := 1) (draw_call c (k := 5) rfl rfl (by decide) (by decide)) (draw_call c (k := (x.length : Nat) + 1) rfl (f2_e (t := .int (x.length : Nat)) (u := .int 1) (f1_e (t := .str x) rfl hlen) rfl rfl) (by omega) (by omega)) (Nat.le_refl _)).mono (Nat.le_refl _) fun fl hf => ?_
    obtain ⟨ρ', rfl, t, u, ⟨i, rfl, h1, h2⟩, ⟨j, rfl, h3, h4⟩, rfl⟩ := hf
    exact ⟨_, rfl, i, j, h1, h3, by omega, h2, rfl⟩
  obtain ⟨i, j, hi, hj, hj2, hi5, rfl⟩ := hρ
  refine Tot.seq (n := 1) (k := 2) (P := fun ρ => ∃ s : Str, s.length ≤ 10 ∧ ρ = sB d x (.fz (.int i)) (.fz (.int j)) (.fz (.str s)) .un) ?_ (fun ρ hρ => ?_) (Nat.le_refl _)
  · have e1 : (f2 addT (asL (f1l itemsS (fC (.str "ab 1\nA")))) (asL (fLst (aCons (fC (.str "  ")) (aCons (fC (.str " a")) (aCons (fC (.str "\n\n")) (aCons (fC (.str "\t")) (aCons (fC (.str "abcdefg")) aNil))))))) (sB d x (.fz (.int i)) (.fz (.int j)) .un .un) : M Dr T) = ret (.lst SIGNS) := by
      have q : itemsS (.str "ab 1\nA") = some [.str "a", .str "b", .str " ", .str "1", .str "\n", .str "A"] := by
        have h1 : ("ab 1\nA" : Str).cps.size ≤ sizeLine := by rw [sizeLine_eq]; decide +kernel
        have h2 : signs ("ab 1\nA" : Str) = [.str "a", .str "b", .str " ", .str "1", .str "\n", .str "A"] := by
          have h3 : tl ("ab 1\nA" : Str) = [97, 98, 32, 49, 10, 65] := by decide +kernel
          show (tl ("ab 1\nA" : Str)).map (fun c => T.str ⟨#[c]⟩) = _
          rw [h3]
          have f : ∀ (n : Nat) (s : Str), tl s = [n] → (⟨#[n]⟩ : Str) = s := fun n s h => ext_tl (by rw [h])
          simp only [List.map_cons, List.map_nil]
          rw [f 97 "a" (by decide +kernel), f 98 "b" (by decide +kernel), f 32 " " sp_tl, f 49 "1" (by decide +kernel), f 10 "\n" nl_tl, f 65 "A" (by decide +kernel)]
        show (if ("ab 1\nA" : Str).cps.size ≤ sizeLine then some (signs "ab 1\nA") else none) = _
        rw [if_pos h1, h2]
      simp -implicitDefEqProofs [q, ev_addL]
      rfl
    refine (Tot.set (Tot.eq (fCall_e (ts := [.raw (.ref d), .lst SIGNS]) (aCons_e rfl (aCons_e e1 aNil_e)) rfl) (pick_lst c (by simp [SIGNS]) (by simp [SIGNS])))).mono (Nat.le_refl _) (nx_set fun u hu => ?_)
    obtain ⟨s, rfl, hs⟩ := signs_len u hu
    exact ⟨s, hs, rfl⟩
  obtain ⟨s, hs, rfl⟩ := hρ
  have hxl : x.length ≤ 100000 := by omega
  by_cases h3 : i < 3
  · have e1 : (fB (f2 (ltT fun i j => decide (i < j)) (fVar 2) (fC (.int 3))) (sB d x (.fz (.int i)) (.fz (.int j)) (.fz (.str s)) .un) : M Dr Bool) = ret true := fB_e (f2_e (t := .int i) (u := .int 3) rfl rfl (by show some (T.bl (decide (i < 3))) = _; rw [decide_eq_true h3]))
    have l1 := cutS_len x none (some j)
    have l2 := cutS_len x (some j) none
    have l3 := cutS_len x (some (j + 1)) none
    have a1 := ev_addS (a := cutS x none (some j)) (b := s) (by omega)
    have a2 := ev_addS (a := cutS x none (some j) ++ s) (b := cutS x (some j) none) (by rw [str_len2]; omega)
    have a3 := ev_addS (a := cutS x none (some j) ++ s) (b := cutS x (some (j + 1)) none) (by rw [str_len2]; omega)
    have a4 := ev_addS (a := cutS x none (some j)) (b := cutS x (some (j + 1)) none) (by omega)
    have e2 : ∃ y : Str, y.length ≤ 3 * x.length + 10 ∧ (dRet (f2 ixT (asL (fLst (aCons (f2 addT (f2 addT (fSlice (fVar 1) fNoPart (fPart (fVar 3))) (fVar 4)) (fSlice (fVar 1) (fPart (fVar 3)) fNoPart)) (aCons (f2 addT (f2 addT (fSlice (fVar 1) fNoPart (fPart (fVar 3))) (fVar 4)) (fSlice (fVar 1) (fPart (f2 addT (fVar 3) (fC (.int 1)))) fNoPart)) (aCons (f2 addT (fSlice (fVar 1) fNoPart (fPart (fVar 3))) (fSlice (fVar 1) (fPart (f2 addT (fVar 3) (fC (.int 1)))) fNoPart)) aNil))))) (fVar 2)) (sB d x (.fz (.int i)) (.fz (.int j)) (.fz (.str s)) .un) : M Dr Fl) = ret (.rt (.str y)) := by
      have hc : i = 0 ∨ i = 1 ∨ i = 2 := by omega
      rcases hc with rfl | rfl | rfl
      · exact ⟨cutS x none (some j) ++ s ++ cutS x (some j) none, by rw [str_len2, str_len2]; omega, by simp -implicitDefEqProofs [slice_e hxl, a1, a2, a3, a4, ixT, atI, ixN]⟩
      · exact ⟨cutS x none (some j) ++ s ++ cutS x (some (j + 1)) none, by rw [str_len2, str_len2]; omega, by simp -implicitDefEqProofs [slice_e hxl, a1, a2, a3, a4, ixT, atI, ixN]⟩
      · exact ⟨cutS x none (some j) ++ cutS x (some (j + 1)) none, by rw [str_len2]; omega, by simp -implicitDefEqProofs [slice_e hxl, a1, a2, a3, a4, ixT, atI, ixN]⟩
    obtain ⟨y, hy, e2⟩ := e2
    exact .ofRet (seq_rt ((dIf_t e1).trans e2)) ⟨.str y, rfl, y, rfl, hy⟩
  · have e1 : (fB (f2 (ltT fun i j => decide (i < j)) (fVar 2) (fC (.int 3))) (sB d x (.fz (.int i)) (.fz (.int j)) (.fz (.str s)) .un) : M Dr Bool) = ret false := fB_e (f2_e (t := .int i) (u := .int 3) rfl rfl (by show some (T.bl (decide (i < 3))) = _; rw [decide_eq_false h3]))
    refine Tot.eq (seq_nx (dIf_f e1)) ?_
    obtain ⟨ls, hls⟩ : ∃ ls, ls = Txt.split x "\n" := ⟨_, rfl⟩
    have hsum := sum_split x "\n" nl_len
    have hfew := split_few x "\n" nl_len
    have hne := nil_split x
    rw [← hls] at hsum hfew hne
    have hpos : 0 < ls.length := List.length_pos_iff.mpr hne
    have e2 : (dSet 5 (xFz (asL (fM1l splitT (fVar 1) (fC (.str "\n"))))) (sB d x (.fz (.int i)) (.fz (.int j)) (.fz (.str s)) .un) : M Dr Fl) = ret (.nx (sB d x (.fz (.int i)) (.fz (.int j)) (.fz (.str s)) (.fz (sLst ls)))) := by
      have q := splitT_e (a := x) (b := "\n") nl_len hxl
      rw [← hls] at q
      simp -implicitDefEqProofs [q]
      rfl
    refine Tot.eq (seq_nx e2) ?_
    refine Tot.seq (n := 1) (k := 1) (P := fun ρ => ∃ m : Int, 0 ≤ m ∧ ρ = sB d x (.fz (.int i)) (.fz (.int m)) (.fz (.str s)) (.fz (sLst ls))) ?_ (fun ρ hρ => ?_) (Nat.le_refl _)
    · exact (Tot.set (draw_call c (k := (ls.length : Nat)) rfl (f1_e (t := sLst ls) rfl (by show some (T.int ((ls.map T.str).length : Nat)) = _; rw [List.length_map])) (by omega) (by omega))).mono (Nat.le_refl _) (nx_set fun u hu => by
        obtain ⟨m, rfl, h0, _⟩ := hu
        exact ⟨m, h0, rfl⟩)
    obtain ⟨m, hm, rfl⟩ := hρ
    refine Tot.rt ?_
    have sl : ∀ (lo hi : Option Int), sliceT lo hi (sLst ls) = some (sLst (cutA ls lo hi)) := fun lo hi => by
      show some (T.lst (cutA (ls.map T.str) lo hi)) = _
      rw [cutA_map]
      rfl
    have jn : ∀ ys : List Str, (ys.map (·.length)).sum ≤ 3 * x.length → ys.length ≤ 60000 → joinT "\n" (sLst ys) = some (.str (Txt.join "\n" ys)) := fun ys h1 h2 => joinT_l (by rw [nl_len]; omega)
    have key : ∀ ys : List Str, (ys.map (·.length)).sum + ys.length ≤ 3 * x.length + 10 → ys.length ≤ 60000 → (ys.map (·.length)).sum ≤ 3 * x.length → ∃ v, joinT "\n" (sLst ys) = some v ∧ ∃ y, v = .str y ∧ y.length ≤ 3 * x.length + 10 := fun ys h1 h2 h3 => ⟨_, jn ys h3 h2, _, rfl, Nat.le_trans (glue_len ys) h1⟩
    show Tot d 1 (PL.bnd (PL.ret (T.str "\n")) _) _
    rw [ret_bnd]
    show Tot d 1 (PL.bnd (PL.ret ("\n" : Str)) _) _
    rw [ret_bnd]
    refine Tot.bnd (n := 1) (k := 0) (P := fun t => ∃ ys : List Str, t = sLst ys ∧ (ys.map (·.length)).sum + ys.length ≤ 3 * x.length + 10 ∧ ys.length ≤ 60000 ∧ (ys.map (·.length)).sum ≤ 3 * x.length) ?_ (fun t ht => ?_) (Nat.le_refl _)
    · have tot3 : (ls.map (·.length)).sum + ls.length ≤ x.length + 1 := by omega
      have b1 := cutA_sum ls none (some m)
      have b2 := cutA_sum ls (some (m + 1)) none
      have b3 := cutA_sum ls (some m) none
      have c1 := cutA_len ls none (some m)
      have c2 := cutA_len ls (some (m + 1)) none
      have c3 := cutA_len ls (some m) none
      by_cases h4 : i = 3
      · subst h4
        have e3 : (fB (f2 (eqT false) (fVar 2) (fC (.int 3))) (sB d x (.fz (.int 3)) (.fz (.int m)) (.fz (.str s)) (.fz (sLst ls))) : M Dr Bool) = ret true := fB_e (f2_e (t := .int 3) (u := .int 3) rfl rfl (eq_int false 3 3))
        have e4 : (f2 addT (fSlice (fVar 5) fNoPart (fPart (fVar 3))) (fSlice (fVar 5) (fPart (f2 addT (fVar 3) (fC (.int 1)))) fNoPart) (sB d x (.fz (.int 3)) (.fz (.int m)) (.fz (.str s)) (.fz (sLst ls))) : M Dr T) = ret (sLst (cutA ls none (some m) ++ cutA ls (some (m + 1)) none)) := by
          have q := addL_strs (xs := cutA ls none (some m)) (ys := cutA ls (some (m + 1)) none) (by omega)
          exact f2_e (fSlice_e (t := sLst ls) rfl rfl (fPart_e rfl) (sl _ _)) (fSlice_e (t := sLst ls) rfl (fPart_e (i := m + 1) (f2_e (t := .int m) (u := .int 1) rfl rfl rfl)) rfl (sl _ _)) q
        refine .ofRet ((fIf_t e3).trans e4) ⟨_, rfl, ?_, ?_, ?_⟩
        · rw [List.map_append, List.sum_append, List.length_append]; omega
        · rw [List.length_append]; omega
        · rw [List.map_append, List.sum_append]
          omega
      · have e3 : (fB (f2 (eqT false) (fVar 2) (fC (.int 3))) (sB d x (.fz (.int i)) (.fz (.int m)) (.fz (.str s)) (.fz (sLst ls))) : M Dr Bool) = ret false := fB_e (f2_e (t := .int i) (u := .int 3) rfl rfl ((eq_int false i 3).trans (by
          have : (i == 3) = false := beq_eq_false_iff_ne.mpr h4
          rw [this]; rfl)))
        refine Tot.eq (fIf_f e3) ?_
        refine Tot.f2 (n := 1) (k := 0) (P := fun t => ∃ l ∈ ls, t = sLst (cutA ls none (some m) ++ [l])) (Q := fun t => t = sLst (cutA ls (some m) none)) ?_ (.val (fSlice_e (t := sLst ls) rfl (fPart_e rfl) rfl (sl _ _))) (fun t u ht hu => ?_) (Nat.le_refl _)
        · refine Tot.f2 (n := 0) (k := 1) (P := fun t => t = sLst (cutA ls none (some m))) (Q := fun t => ∃ l ∈ ls, t = sLst [l]) (.val (fSlice_e (t := sLst ls) rfl rfl (fPart_e rfl) (sl _ _))) ?_ (fun t u ht hu => ?_) (Nat.le_refl _)
          · have hp := pick_lst (d := d) c (ts := ls.map T.str) (by rw [List.length_map]; exact hpos) (by rw [List.length_map]; omega)
            refine (Tot.asL (n := 1) (P := fun ts => ∃ l ∈ ls, ts = [T.str l]) (Tot.bnd (n := 1) (k := 0) (P := fun ts => ∃ l ∈ ls, ts = [T.str l]) ((Tot.cons (k := 0) (Q := fun us => us = []) (Tot.eq (fCall_e (ts := [.raw (.ref d), .lst (ls.map T.str)]) (aCons_e rfl (aCons_e rfl aNil_e)) rfl) hp) (.ofRet rfl rfl) (Nat.le_refl _)).mono (Nat.le_refl _) fun ts hts => ?_) (fun ts hts => ?_) (Nat.le_refl _))).mono (Nat.le_refl _) fun t ht => ?_
            · obtain ⟨u, us, rfl, hu, rfl⟩ := hts
              obtain ⟨l, hl, rfl⟩ := List.mem_map.mp hu
              exact ⟨l, hl, rfl⟩
            · obtain ⟨l, hl, rfl⟩ := hts
              refine .ofRet (a := [T.str l]) ?_ ⟨l, hl, rfl⟩
              rw [if_pos (by rw [sizeLine_eq]; simp)]
            · obtain ⟨ts, rfl, l, hl, rfl⟩ := ht
              exact ⟨l, hl, rfl⟩
          · subst ht
            obtain ⟨l, hl, rfl⟩ := hu
            exact ⟨_, addL_strs (by simp; omega), l, hl, rfl⟩
        · subst hu
          obtain ⟨l, hl, rfl⟩ := ht
          have hll := le_sum (List.mem_map.mpr ⟨l, hl, rfl⟩ : l.length ∈ ls.map (·.length))
          refine ⟨_, addL_strs (by simp; omega), _, rfl, ?_, ?_, ?_⟩
          · simp only [List.map_append, List.sum_append, List.length_append, List.map_cons, List.map_nil, List.sum_cons, List.sum_nil, List.length_cons, List.length_nil]; omega
          · simp only [List.length_append, List.length_cons, List.length_nil]; omega
          · simp only [List.map_append, List.sum_append, List.map_cons, List.map_nil, List.sum_cons, List.sum_nil]
            omega
    · obtain ⟨ys, rfl, h1, h2, h3⟩ := ht
      obtain ⟨v, hv, hy⟩ := key ys h1 h2 h3
      rw [hv]
      exact .ofRet rfl hy
end
end PL

set_option maxHeartbeats 4000000
/-! X9c: what log_text refuses; the text of a log. -/
namespace PL
open PySem L2 TL
theorem bad_none : ∀ (ts : List T) (k : Nat), badAt k ts = none → ∀ u ∈ ts, fullT u = true
  | [], _, _, _, h => nomatch h
  | t :: ts, k, h, u, hu => by
    unfold badAt at h
    split at h
    · rename_i hf
      rcases List.mem_cons.mp hu with rfl | hu
      · exact hf
      · exact bad_none ts _ h u hu
    · cases h
theorem bad_lt : ∀ (ts : List T) (k i : Nat), badAt k ts = some i → i < k + ts.length
  | [], _, _, h => nomatch h
  | t :: ts, k, i, h => by
    unfold badAt at h
    split at h
    · have := bad_lt ts _ i h
      rw [List.length_cons]; omega
    · cases h
      rw [List.length_cons]; omega
theorem strs_of {p : Str → Prop} : ∀ {us : List T}, (∀ u ∈ us, ∃ s, u = T.str s ∧ p s) → ∃ ss : List Str, us = ss.map T.str ∧ ∀ s ∈ ss, p s
  | [], _ => ⟨[], rfl, fun _ h => nomatch h⟩
  | u :: us, h => by
    obtain ⟨s, rfl, hs⟩ := h u List.mem_cons_self
    obtain ⟨ss, rfl, ha⟩ := strs_of fun v hv => h v (List.mem_cons_of_mem _ hv)
    refine ⟨s :: ss, rfl, fun y hy => ?_⟩
    rcases List.mem_cons.mp hy with rfl | hy
    · exact hs
    · exact ha y hy
theorem full_row {u : T} (h : fullT u = true) : ∃ xs, u = rowT xs ∧ xs ≠ [] ∧ ∀ x ∈ xs, isStep x = true := by
  unfold fullT at h
  split at h
  · rename_i ts
    rw [Bool.and_eq_true] at h
    obtain ⟨xs, rfl, hx⟩ := strs_of (p := fun x => isStep x = true) (us := ts) fun u hu => by
      have := List.all_eq_true.mp h.2 u hu
      unfold stepT at this
      split at this
      · exact ⟨_, rfl, this⟩
      · cases this
    refine ⟨xs, rfl, fun z => ?_, hx⟩
    subst z
    simp at h
  · cases h
theorem full_rows : ∀ {ts : List T}, (∀ u ∈ ts, fullT u = true) → (∀ u ∈ ts, ∀ us, u = T.tup us → us.length ≤ 100) → ∃ rows : List (List Str), ts = rows.map rowT ∧ ∀ xs ∈ rows, xs.length ≤ 100 ∧ ∀ x ∈ xs, isStep x = true
  | [], _, _ => ⟨[], rfl, fun _ h => nomatch h⟩
  | u :: ts, h, h2 => by
    obtain ⟨xs, rfl, _, hx⟩ := full_row (h u List.mem_cons_self)
    obtain ⟨rows, rfl, ha⟩ := full_rows (fun v hv => h v (List.mem_cons_of_mem _ hv)) fun v hv => h2 v (List.mem_cons_of_mem _ hv)
    refine ⟨xs :: rows, rfl, fun y hy => ?_⟩
    rcases List.mem_cons.mp hy with rfl | hy
    · exact ⟨by have := h2 (rowT y) List.mem_cons_self _ rfl; rwa [List.length_map] at this, hx⟩
    · exact ha y hy
theorem sum_six : ∀ {xs : List Str}, (∀ x ∈ xs, isStep x = true) → (xs.map (·.length)).sum ≤ 6 * xs.length
  | [], _ => by simp
  | x :: xs, h => by
    have := sum_six fun y hy => h y (List.mem_cons_of_mem _ hy)
    have := (isStep_iff.mp (h x List.mem_cons_self)).2.1
    simp only [List.map_cons, List.sum_cons, List.length_cons]
    omega
theorem sum_le {α : Type} {f : α → Nat} {m : Nat} : ∀ {l : List α}, (∀ x ∈ l, f x ≤ m) → (l.map f).sum ≤ m * l.length
  | [], _ => by simp
  | x :: l, h => by
    have := sum_le fun y hy => h y (List.mem_cons_of_mem _ hy)
    have := h x List.mem_cons_self
    simp only [List.map_cons, List.sum_cons, List.length_cons, Nat.mul_succ]
    omega
theorem line_small {xs : List Str} {m : Nat} (hl : xs.length ≤ m) (h : ∀ x ∈ xs, isStep x = true) : (lineS xs).length ≤ 7 * m := by
  have := line_len xs
  have := sum_six h
  omega
theorem fit_small {rows : List (List Str)} (hl : rows.length ≤ 1000) (h : ∀ xs ∈ rows, xs.length ≤ 100 ∧ ∀ x ∈ xs, isStep x = true) : Fit rows := by
  refine ⟨by omega, fun xs hx => ?_, ?_⟩
  · have := sum_six (h xs hx).2
    have := (h xs hx).1
    omega
  · have := sum_le (f := fun xs => (lineS xs).length + 1) (m := 701) (l := rows) fun xs hx => by
      have := line_small (h xs hx).1 (h xs hx).2
      omega
    omega
theorem nl_cases {t : T} (h : NL t) : (∃ i : Nat, i ≤ 1000 ∧ dueO t = .int (i : Nat)) ∨ (dueO t = .non ∧ ∃ rows : List (List Str), (t = .lst (rows.map rowT) ∨ t = .tup (rows.map rowT)) ∧ Fit rows) := by
  cases hi : itemsT t with
  | none => exact .inl ⟨0, by omega, by unfold dueO; rw [hi]; rfl⟩
  | some ts =>
    obtain ⟨hl, h2⟩ := h.few ts hi
    cases he : ts.isEmpty with
    | true => exact .inl ⟨0, by omega, by unfold dueO; rw [hi]; show (if ts.isEmpty then _ else _) = _; rw [he]; rfl⟩
    | false =>
      cases hb : badAt 0 ts with
      | some i => exact .inl ⟨i, by have := bad_lt ts 0 i hb; omega, by unfold dueO; rw [hi]; show (if ts.isEmpty then _ else _) = _; rw [he, hb]; rfl⟩
      | none =>
        obtain ⟨rows, rfl, hr⟩ := full_rows (bad_none ts 0 hb) h2
        refine .inr ⟨by unfold dueO; rw [hi]; show (if (rows.map rowT).isEmpty then _ else _) = _; rw [he, hb]; rfl, rows, ?_, fit_small (by rw [List.length_map] at hl; exact hl) hr⟩
        unfold itemsT at hi
        split at hi
        · cases hi; exact .inl rfl
        · cases hi; exact .inr rfl
        · cases hi
section
variable {W : Type} {ρ : Rho}
theorem row_at_e (c : Cs) {t : T} (h : NL t) (hs : (fVar 15 (ρ.map Sl.hid) : M W T) = ret t) : (fRef (kn__law_row_at c) (kd__law_row_at c) (fCall 1 (aCons (fVar 15) aNil) (F_log_text c)) ρ : M W T) = ret (dueO t) := by
  rcases nl_cases h with ⟨i, _, hd⟩ | ⟨hd, rows, ht, hf⟩
  · rw [hd]
    refine fRef_er (e := ⟨c.NoRow, ["at"], [.int (i : Nat)]⟩) ?_ ?_
    · exact (fCall_e (n := 1) (Fn := F_log_text c) (ts := [t]) (aCons_e hs aNil_e) rfl).trans (F_log_text_no c h.lg hd)
    · show (if c.NoRow = c.NoRow ∧ @Eq (List Str) ["at"] ["at"] then lookT "at" (["at"] : List Str) [T.int (i : Nat)] else none) = _
      rw [if_pos ⟨rfl, rfl⟩]
      rfl
  · rw [hd]
    exact fRef_ret (t := .str (logS rows)) ((fCall_e (ts := [t]) (aCons_e hs aNil_e) rfl).trans (F_log_text_e c ht h.lg hd hf)) rfl
theorem due_repr {t : T} (h : NL t) : ∃ s, reprT (dueO t) = some (.str s) := by
  rcases nl_cases h with ⟨i, hi, hd⟩ | ⟨hd, _⟩
  · rw [hd]
    have : ((i : Nat) : Int).natAbs.log2 < 1920 := by
      rw [Int.natAbs_natCast]
      have := Nat.log2_le_self i
      omega
    exact ⟨_, if_pos this⟩
  · rw [hd]
    exact ⟨_, rfl⟩
end
/-! ### the text of a log ends with a feed, and without it with a letter -/
theorem log_len {rows : List (List Str)} (hl : rows.length ≤ 8) (h : ∀ xs ∈ rows, xs.length ≤ 12 ∧ ∀ x ∈ xs, isStep x = true) : (logS rows).length ≤ 1000 := by
  have e := PySem.size_glued ("" : Str) (rows.map fun xs => lineS xs ++ "\n")
  rw [no_len, Nat.mul_zero, Nat.add_zero, List.map_map] at e
  have e2 : (logS rows).length = (rows.map ((fun s : Str => s.length) ∘ fun xs => lineS xs ++ "\n")).sum := e
  rw [e2]
  have := sum_le (f := ((fun s : Str => s.length) ∘ fun xs : List Str => lineS xs ++ "\n")) (m := 85) (l := rows) fun xs hx => by
    show (lineS xs ++ ("\n" : Str)).length ≤ 85
    have := line_small (h xs hx).1 (h xs hx).2
    rw [str_len2, nl_len]
    omega
  omega
theorem snoc_of {α : Type} {l : List α} (h : l ≠ []) : ∃ i a, l = i ++ [a] := ⟨l.dropLast, l.getLast h, (List.dropLast_concat_getLast h).symm⟩
theorem last_app {l m : List Nat} (h : m ≠ []) : (l ++ m).getLast? = m.getLast? := by
  rw [List.getLast?_append]
  cases hg : m.getLast? with
  | none => rw [List.getLast?_eq_none_iff] at hg; exact absurd hg h
  | some a => rfl
theorem line_last {xs : List Str} (hn : xs ≠ []) (h : ∀ x ∈ xs, isStep x = true) : ∃ a, (tl (lineS xs)).getLast? = some a ∧ a ≠ 10 := by
  obtain ⟨l, s, rfl⟩ : ∃ l s, xs = l ++ [s] := snoc_of hn
  have hs := isStep_iff.mp (h s (by simp))
  have hne : tl s ≠ [] := fun z => by
    have := len_tl s
    rw [z] at this
    simp at this
    omega
  have e : ∃ pre, tl (lineS (l ++ [s])) = pre ++ tl s := by
    unfold lineS
    rw [join_eq, PyProof.Rows.FinIter.join_snoc]
    split
    · exact ⟨[], rfl⟩
    · exact ⟨_, tl_append _ _⟩
  obtain ⟨pre, e⟩ := e
  rw [e, last_app hne]
  cases hg : (tl s).getLast? with
  | none => rw [List.getLast?_eq_none_iff] at hg; exact absurd hg hne
  | some a =>
    refine ⟨a, rfl, fun z => ?_⟩
    subst z
    have := hs.2.2 10 (List.mem_of_getLast? hg)
    have h10 : inL 10 = false := by decide +kernel
    rw [h10] at this
    cases this
theorem log_ends {rows : List (List Str)} (hn : rows ≠ []) (h : ∀ xs ∈ rows, xs ≠ [] ∧ ∀ x ∈ xs, isStep x = true) : ends (cutS (logS rows) none (some (-1))) = false := by
  obtain ⟨l, r, rfl⟩ : ∃ l r, rows = l ++ [r] := snoc_of hn
  have hr := h r (by simp)
  obtain ⟨a, ha, h10⟩ := line_last hr.1 hr.2
  have hne : tl (lineS r) ≠ [] := fun z => by rw [z] at ha; cases ha
  have e : ∃ pre, tl (logS (l ++ [r])) = pre ++ tl (lineS r) ++ [10] := by
    unfold logS
    rw [join_eq, List.map_append, List.map_cons, List.map_nil, PyProof.Rows.FinIter.join_snoc]
    split
    · exact ⟨[], by rw [tl_append, nl_tl]; rfl⟩
    · rw [tl_append, tl_append, tl_append, nl_tl, ← List.append_assoc]
      exact ⟨_, rfl⟩
  obtain ⟨pre, e⟩ := e
  unfold ends
  rw [cut_most, e, List.dropLast_concat, last_app hne, ha]
  rw [beq_eq_false_iff_ne]
  intro z
  cases z
  exact h10 rfl
theorem nl_odd : (ends "\n" && (rowsOf "\n").all fullR) = false := by
  have : (rowsOf "\n").all fullR = false := by decide +kernel
  rw [this, Bool.and_false]
end PL

set_option maxHeartbeats 4000000
/-! X9d: the parts of law's turn. -/
namespace PL
open PySem L2 TL
abbrev sL (a d : Addr) (x2 x3 x4 x5 x6 x7 x8 x9 x10 x11 x12 x13 x14 x15 : Sl) : Rho := [.fz (.raw (.ref a)), .fz (.raw (.ref d)), x2, x3, x4, x5, x6, x7, x8, x9, x10, x11, x12, x13, x14, x15]
def Good (xs : List Str) : Prop := xs ≠ [] ∧ xs.length ≤ 12 ∧ ∀ x ∈ xs, isStep x = true
section
variable {a d : Addr} {n k N : Nat} {x2 x3 x4 x5 x6 x7 x8 x9 x10 x11 x12 x13 x14 x15 : Sl}
theorem call2_tot {F : List T → M Dr T} {fa fb : Rho → M Dr T} {ρ : Rho} {t : T} {P Q : T → Prop} (h1 : fa ρ = ret t) (h2 : Tot d n (fb ρ) P) (h3 : ∀ u, P u → Tot d k (F [t, u]) Q) (e : n + k ≤ N) : Tot d N (fCall 2 (aCons fa (aCons fb aNil)) F ρ) Q := by
  show Tot d N (PL.bnd (PL.bnd (fa ρ) fun t => PL.bnd (PL.bnd (fb ρ) fun u => PL.bnd (PL.ret []) fun us => PL.ret (u :: us)) fun ts => PL.ret (t :: ts)) (argK 2 F)) Q
  rw [h1, ret_bnd, bnd_assoc, bnd_assoc]
  refine Tot.bnd h2 (fun u hu => ?_) e
  exact h3 u hu
theorem Tot.app {i : Nat} {fa : Rho → M Dr T} {ρ : Rho} {ts : List T} {P : T → Prop} (h : ρ[i]? = some (.ow ts)) (hf : Tot d n (fa ρ) P) (hl : ts.length ≤ 1000) : Tot d n (dAppend i fa ρ) (Nx fun ρ' => ∃ t, P t ∧ ρ' = ρ.set i (.ow (ts ++ [t]))) := by
  unfold dAppend owM
  rw [h]
  refine Tot.bnd hf (fun t ht => ?_) (k := 0) (Nat.le_refl _)
  rw [if_pos (by rw [sizeLine_eq]; omega)]
  exact .ofRet rfl ⟨_, rfl, t, ht, rfl⟩
theorem s1_tot (c : Cs) : Tot d 97 (dPar 3 4 (xFz (fCall 2 (aCons (fVar 1) (aCons (f2 addT (fC (.int 1)) (fCall 2 (aCons (fVar 1) (aCons (fC (.int 12)) aNil)) (F__law_draw c))) aNil)) (F__law_steps c))) (xOw (fLst aNil)) (sL a d x2 x3 x4 x5 x6 x7 x8 x9 x10 x11 x12 x13 x14 x15))
    (Nx fun ρ => ∃ xs : List Str, (1 ≤ xs.length ∧ xs.length ≤ 12 ∧ ∀ x ∈ xs, isStep x = true) ∧ ρ = sL a d x2 (.fz (sLst xs)) (.ow []) x5 x6 x7 x8 x9 x10 x11 x12 x13 x14 x15) := by
  unfold dPar
  show Tot d 97 (PL.bnd (PL.bnd (fCall 2 _ _ (sL a d x2 x3 x4 x5 x6 x7 x8 x9 x10 x11 x12 x13 x14 x15)) fun t => PL.ret (Sl.fz t)) _) _
  rw [bnd_assoc]
  refine Tot.bnd (n := 97) (k := 0) (P := fun t => ∃ xs : List Str, t = sLst xs ∧ 1 ≤ xs.length ∧ xs.length ≤ 12 ∧ ∀ x ∈ xs, isStep x = true) (call2_tot (n := 1) (k := 96) rfl (one_plus (draw_call c (k := 12) rfl rfl (by decide) (by decide))) (fun u hu => ?_) (Nat.le_refl _)) (fun t ht => ?_) (Nat.le_refl _)
  · obtain ⟨i, rfl, h1, h2⟩ := hu
    obtain ⟨m, rfl⟩ : ∃ m : Nat, i = (m : Nat) := ⟨i.toNat, by omega⟩
    refine (steps_tot c (m := m) (by omega)).mono (by omega) fun t ht => ?_
    obtain ⟨xs, rfl, hl, hs⟩ := ht
    exact ⟨xs, rfl, by omega, by omega, hs⟩
  · obtain ⟨xs, rfl, h⟩ := ht
    rw [ret_bnd]
    have e : (xOw (fLst aNil) (sL a d x2 x3 x4 x5 x6 x7 x8 x9 x10 x11 x12 x13 x14 x15) : M Dr Sl) = ret (.ow []) := by simp -implicitDefEqProofs
    rw [e, ret_bnd]
    exact .ofRet rfl ⟨_, rfl, xs, h, rfl⟩
theorem row_tot (c : Cs) {xs : List Str} (h0 : 1 ≤ xs.length ∧ xs.length ≤ 12 ∧ ∀ x ∈ xs, isStep x = true) : Tot d 13 (dSet 6 (xFz (f1 tupT (asL (fLc (fRange1 (f2 addT (fC (.int 1)) (fCall 2 (aCons (fVar 1) (aCons (fC (.int 12)) aNil)) (F__law_draw c)))) [7] (gN 7) tYesM (fCall 2 (aCons (fVar 1) (aCons (fVar 3) aNil)) (F__law_pick c)))))) (sL a d x2 (.fz (sLst xs)) x4 x5 x6 x7 x8 x9 x10 x11 x12 x13 x14 x15))
    (Nx fun ρ => ∃ r, Good r ∧ ρ = sL a d x2 (.fz (sLst xs)) x4 x5 (.fz (rowT r)) x7 x8 x9 x10 x11 x12 x13 x14 x15) := by
  have hr : Tot d 1 (fRange1 (f2 addT (fC (.int 1)) (fCall 2 (aCons (fVar 1) (aCons (fC (.int 12)) aNil)) (F__law_draw c))) (sL a d x2 (.fz (sLst xs)) x4 x5 x6 x7 x8 x9 x10 x11 x12 x13 x14 x15)) (fun ts => ((1 : Int) ≤ (ts.length : Nat) ∧ ((ts.length : Nat) : Int) ≤ 12)) :=
    range_tot (by omega) (one_plus (draw_call c rfl rfl (by decide) (by decide))) (by decide)
  have hl := lc_tot (vs := [7]) (i := 7) (m := 12) (k := 1) (N := 13) (ge := fCall 2 (aCons (fVar 1) (aCons (fVar 3) aNil)) (F__law_pick c)) (Q := fun ts => 1 ≤ ts.length ∧ ts.length ≤ 12) (P := fun u => ∃ s, u = T.str s ∧ isStep s = true) (hr.mono (Nat.le_refl _) fun ts h => ⟨by omega, by omega, by omega⟩) (by omega)
    (fun t => (Tot.eq (fCall_e (ts := [.raw (.ref d), .lst (xs.map T.str)]) (aCons_e rfl (aCons_e rfl aNil_e)) rfl) (pick_lst c (by rw [List.length_map]; omega) (by rw [List.length_map]; omega))).mono (Nat.le_refl _) fun t ht => by
      obtain ⟨s, hs, rfl⟩ := List.mem_map.mp ht
      exact ⟨s, rfl, h0.2.2 s hs⟩) (by omega)
  refine (Tot.set (P := fun t => ∃ r, t = rowT r ∧ Good r) ?_).mono (Nat.le_refl _) (nx_set fun u hu => ?_)
  · refine Tot.bnd (Tot.asL hl) (fun t ht => ?_) (k := 0) (Nat.le_refl _)
    obtain ⟨us, rfl, ⟨ts, ⟨h1, h2⟩, h3⟩, h4⟩ := ht
    obtain ⟨ss, rfl, hs⟩ := strs_of h4
    rw [List.length_map] at h3
    exact .ofRet rfl ⟨ss, rfl, fun z => by subst z; simp at h3; omega, by omega, hs⟩
  · obtain ⟨r, rfl, hr⟩ := hu
    exact ⟨r, hr, rfl⟩
theorem add_tot (c : Cs) {r : List Str} {rows : List (List Str)} (hr : Good r) (hg : ∀ xs ∈ rows, Good xs) (hl : rows.length ≤ 20) : Tot d 1 (dAppend 4 (fCall 2 (aCons (fVar 1) (aCons (f2 addT (fVarS 4) (asL (fRepN 3 (fLst (aCons (fVar 6) aNil))))) aNil)) (F__law_pick c)) (sL a d x2 x3 (.ow (rows.map rowT)) x5 (.fz (rowT r)) x7 x8 x9 x10 x11 x12 x13 x14 x15))
    (Nx fun ρ => ∃ q, Good q ∧ ρ = sL a d x2 x3 (.ow ((rows ++ [q]).map rowT)) x5 (.fz (rowT r)) x7 x8 x9 x10 x11 x12 x13 x14 x15) := by
  have e1 : (f2 addT (fVarS 4) (asL (fRepN 3 (fLst (aCons (fVar 6) aNil)))) (sL a d x2 x3 (.ow (rows.map rowT)) x5 (.fz (rowT r)) x7 x8 x9 x10 x11 x12 x13 x14 x15) : M Dr T) = ret (.lst ((rows ++ [r, r, r]).map rowT)) := by
    have h1 : (fRepN 3 (fLst (aCons (fVar 6) aNil)) (sL a d x2 x3 (.ow (rows.map rowT)) x5 (.fz (rowT r)) x7 x8 x9 x10 x11 x12 x13 x14 x15) : M Dr (List T)) = ret [rowT r, rowT r, rowT r] := by
      unfold fRepN
      rw [fLst_e (ts := [rowT r]) rfl (by simp), ret_bnd, if_pos (by rw [sizeLine_eq]; simp)]
      rfl
    have h2 : addT (.lst (rows.map rowT)) (.lst [rowT r, rowT r, rowT r]) = some (.lst ((rows ++ [r, r, r]).map rowT)) := by
      rw [ev_addL (by rw [List.length_map]; simp; omega), List.map_append]
      rfl
    exact f2_e (t := .lst (rows.map rowT)) (u := .lst [rowT r, rowT r, rowT r]) rfl (asL_e h1) h2
  have hp := pick_lst (d := d) c (ts := (rows ++ [r, r, r]).map rowT) (by simp) (by simp; omega)
  refine (Tot.app (i := 4) (ts := rows.map rowT) rfl ((Tot.eq (fCall_e (ts := [.raw (.ref d), .lst ((rows ++ [r, r, r]).map rowT)]) (aCons_e rfl (aCons_e e1 aNil_e)) rfl) hp)) (by rw [List.length_map]; omega)).mono (Nat.le_refl _) fun fl hf => ?_
  obtain ⟨ρ', rfl, t, ht, rfl⟩ := hf
  obtain ⟨q, hq, rfl⟩ := List.mem_map.mp ht
  refine ⟨_, rfl, q, ?_, ?_⟩
  · rcases List.mem_append.mp hq with h | h
    · exact hg q h
    · simp at h
      rw [h]
      exact hr
  · show sL a d x2 x3 (.ow (rows.map rowT ++ [rowT q])) x5 (.fz (rowT r)) x7 x8 x9 x10 x11 x12 x13 x14 x15 = _
    rw [List.map_append]
    rfl
theorem s2_tot (c : Cs) {xs : List Str} (h0 : 1 ≤ xs.length ∧ xs.length ≤ 12 ∧ ∀ x ∈ xs, isStep x = true) :
    Tot d 113 (dFor (fRange1 (f2 addT (fC (.int 1)) (fCall 2 (aCons (fVar 1) (aCons (fC (.int 8)) aNil)) (F__law_draw c)))) (gN 5) (seqD (dSet 6 (xFz (f1 tupT (asL (fLc (fRange1 (f2 addT (fC (.int 1)) (fCall 2 (aCons (fVar 1) (aCons (fC (.int 12)) aNil)) (F__law_draw c)))) [7] (gN 7) tYesM (fCall 2 (aCons (fVar 1) (aCons (fVar 3) aNil)) (F__law_pick c))))))) (dAppend 4 (fCall 2 (aCons (fVar 1) (aCons (f2 addT (fVarS 4) (asL (fRepN 3 (fLst (aCons (fVar 6) aNil))))) aNil)) (F__law_pick c)))) (sL a d x2 (.fz (sLst xs)) (.ow []) x5 x6 x7 x8 x9 x10 x11 x12 x13 x14 x15))
      (Nx fun ρ => ∃ (rows : List (List Str)) (y5 y6 : Sl), (1 ≤ rows.length ∧ rows.length ≤ 8 ∧ ∀ r ∈ rows, Good r) ∧ ρ = sL a d x2 (.fz (sLst xs)) (.ow (rows.map rowT)) y5 y6 x7 x8 x9 x10 x11 x12 x13 x14 x15) := by
  have hr : Tot d 1 (fRange1 (f2 addT (fC (.int 1)) (fCall 2 (aCons (fVar 1) (aCons (fC (.int 8)) aNil)) (F__law_draw c))) (sL a d x2 (.fz (sLst xs)) (.ow []) x5 x6 x7 x8 x9 x10 x11 x12 x13 x14 x15)) (fun ts => ((1 : Int) ≤ (ts.length : Nat) ∧ ((ts.length : Nat) : Int) ≤ 8)) :=
    range_tot (by omega) (one_plus (draw_call c rfl rfl (by decide) (by decide))) (by decide)
  unfold dFor
  refine Tot.bnd (n := 1) (k := 112) hr (fun ts hts => ?_) (Nat.le_refl _)
  refine Tot.mono (Tot.loop (d := d) (n := 14) (i := 5) (fun us ρ => ∃ (rows : List (List Str)) (y5 y6 : Sl), (rows.length + us.length = ts.length ∧ ∀ r ∈ rows, Good r) ∧ ρ = sL a d x2 (.fz (sLst xs)) (.ow (rows.map rowT)) y5 y6 x7 x8 x9 x10 x11 x12 x13 x14 x15) ?step ts _ ⟨[], x5, x6, ⟨by simp, fun _ h => nomatch h⟩, rfl⟩) (by omega) (fun fl hf => ?post)
  case post =>
    obtain ⟨ρ', e, rows, y5, y6, ⟨h1, h2⟩, rfl⟩ := hf
    simp at h1
    exact ⟨_, e, rows, y5, y6, ⟨by omega, by omega, h2⟩, rfl⟩
  case step =>
    intro t us ρ h
    obtain ⟨rows, y5, y6, ⟨h1, h2⟩, rfl⟩ := h
    rw [List.length_cons] at h1
    show Tot d 14 (seqD _ _ (sL a d x2 (.fz (sLst xs)) (.ow (rows.map rowT)) (.fz t) y6 x7 x8 x9 x10 x11 x12 x13 x14 x15)) _
    refine Tot.seq (n := 13) (k := 1) (row_tot c h0) (fun ρ hρ => ?_) (Nat.le_refl _)
    obtain ⟨r, hr, rfl⟩ := hρ
    refine (add_tot c hr h2 (by omega)).mono (Nat.le_refl _) fun fl hf => ?_
    obtain ⟨ρ', rfl, q, hq, rfl⟩ := hf
    refine ⟨_, rfl, rows ++ [q], _, _, ⟨by rw [List.length_append, List.length_singleton]; omega, fun z hz => ?_⟩, rfl⟩
    rcases List.mem_append.mp hz with hz | hz
    · exact h2 z hz
    · rcases List.mem_singleton.mp hz with rfl
      exact hq
end
/-! ### the log -/
structure LogOk (rows : List (List Str)) : Prop where
  pos : 1 ≤ rows.length
  few : rows.length ≤ 8
  good : ∀ r ∈ rows, Good r
section
variable {rows : List (List Str)} (h : LogOk rows)
include h
theorem LogOk.small : ∀ xs ∈ rows, xs.length ≤ 100 ∧ ∀ x ∈ xs, isStep x = true := fun xs hx => ⟨by have := (h.good xs hx).2.1; omega, (h.good xs hx).2.2⟩
theorem LogOk.fit : Fit rows := fit_small (by have := h.few; omega) h.small
theorem LogOk.rw : ∀ xs ∈ rows, rw_ (rowT xs) := fun xs hx => rw_row (by have := (h.good xs hx).2.1; omega) fun x hx2 => by
  have := (isStep_iff.mp ((h.good xs hx).2.2 x hx2)).2.1
  omega
theorem LogOk.nl {t : T} (ht : t = .lst (rows.map rowT) ∨ t = .tup (rows.map rowT)) : NL t := by
  have hf := h.few
  refine ⟨.inl ⟨_, ht, by rw [List.length_map]; omega, fun u hu => ?_⟩, fun ts e => ?_⟩
  · obtain ⟨xs, hx, rfl⟩ := List.mem_map.mp hu
    exact h.rw xs hx
  · have : ts = rows.map rowT := by rcases ht with rfl | rfl <;> cases e <;> rfl
    subst this
    refine ⟨by rw [List.length_map]; omega, fun u hu us e2 => ?_⟩
    obtain ⟨xs, hx, rfl⟩ := List.mem_map.mp hu
    cases e2
    rw [List.length_map]
    exact (h.small xs hx).1
theorem LogOk.due {t : T} (ht : t = .lst (rows.map rowT) ∨ t = .tup (rows.map rowT)) : dueO t = .non := by
  have hall : rows.all fullR = true := List.all_eq_true.mpr fun xs hx => by
    have g := h.good xs hx
    show (!(xs.map T.str).isEmpty && (xs.map T.str).all stepT) = true
    rw [Bool.and_eq_true]
    refine ⟨by cases xs with | nil => exact absurd rfl g.1 | cons _ _ => rfl, List.all_eq_true.mpr fun u hu => ?_⟩
    obtain ⟨s, hs, rfl⟩ := List.mem_map.mp hu
    exact g.2.2 s hs
  have hi : itemsT t = some (rows.map rowT) := by rcases ht with rfl | rfl <;> rfl
  have hne : (rows.map rowT).isEmpty = false := by
    have := h.pos
    cases rows with
    | nil => simp at this
    | cons _ _ => rfl
  unfold dueO
  rw [hi]
  show (if (rows.map rowT).isEmpty then T.int 0 else _) = _
  rw [hne, badAll rows 0 hall]
  rfl
theorem LogOk.text {W : Type} (c : Cs) {t : T} (ht : t = .lst (rows.map rowT) ∨ t = .tup (rows.map rowT)) : F_log_text c [t] = (ret (.str (logS rows)) : M W T) := F_log_text_e c ht (h.nl ht).lg (h.due ht) h.fit
theorem LogOk.len : (logS rows).length ≤ 1000 := log_len h.few fun xs hx => (h.good xs hx).2
end
end PL

set_option maxHeartbeats 4000000
/-! X9e: the text, the laps. -/
namespace PL
open PySem L2 TL
@[simp] theorem ev_tupL {ts : List T} : tupT (.lst ts) = some (.tup ts) := (rfl)
section
variable {a d : Addr} {n k N : Nat} {x2 x3 x4 x5 x6 x7 x8 x9 x10 x11 x12 x13 x14 x15 : Sl} {rows : List (List Str)}
theorem s3_e (h : LogOk rows) : ((dSet 8 (xFz (fM1 joinT (fC (.str "")) (asL (fLc (fItems (fVar 4)) [6] (gN 6) tYesM (f2 addT (fM1 joinT (fC (.str " ")) (fVar 6)) (fC (.str "\n")))))))) (sL a d x2 x3 (.fz (.lst (rows.map rowT))) x5 x6 x7 x8 x9 x10 x11 x12 x13 x14 x15) : M Dr Fl) =
    ret (.nx (sL a d x2 x3 (.fz (.lst (rows.map rowT))) x5 x6 x7 (.fz (.str (logS rows))) x9 x10 x11 x12 x13 x14 x15)) := by
  have hf := h.fit
  have hl := h.few
  have e1 : (fLc (fItems (fVar 4)) [6] (gN 6) tYesM (f2 addT (fM1 joinT (fC (.str " ")) (fVar 6)) (fC (.str "\n"))) (sL a d x2 x3 (.fz (.lst (rows.map rowT))) x5 x6 x7 x8 x9 x10 x11 x12 x13 x14 x15) : M Dr (List T)) = ret (rows.map fun xs => .str (lineS xs ++ "\n")) :=
    fLc_mapP rows rowT _ rfl (by rw [sizeLine_eq]; omega) fun xs hx => by
      show f2 addT (fM1 joinT (fC (.str " ")) (fVar 6)) (fC (.str "\n")) (sL a d x2 x3 (.fz (.lst (rows.map rowT))) x5 (.fz (rowT xs)) x7 x8 x9 x10 x11 x12 x13 x14 x15) = _
      have q := hf.row xs hx
      have e : joinT " " (rowT xs) = some (.str (lineS xs)) := joinT_t (by rw [sp_len, Nat.mul_one]; omega)
      have e2 := ev_addS (a := lineS xs) (b := "\n") (by have := line_len xs; rw [nl_len]; omega)
      simp -implicitDefEqProofs [e, e2]
  have e2 : joinT "" (.lst ((rows.map fun xs => lineS xs ++ "\n").map T.str)) = some (.str (logS rows)) := joinT_l (by
    rw [no_len, Nat.mul_zero, List.map_map]
    have : ((fun s : Str => s.length) ∘ fun xs : List Str => lineS xs ++ "\n") = fun xs : List Str => (lineS xs).length + 1 := by
      funext xs
      show (lineS xs ++ ("\n" : Str)).length = _
      rw [str_len2, nl_len]
    rw [this]
    have := hf.all
    omega)
  rw [List.map_map] at e2
  have e3 : (T.str ∘ fun xs : List Str => lineS xs ++ "\n") = fun xs => T.str (lineS xs ++ "\n") := rfl
  rw [e3] at e2
  refine dSet_e (xFz_e ?_)
  show bnd (ret (T.str "")) _ = _
  rw [ret_bnd]
  show bnd (ret ("" : Str)) _ = _
  rw [ret_bnd, asL_e e1, ret_bnd, e2]
  rfl
theorem s4_e (c : Cs) (h : LogOk rows) : (dIf (bOr (fB (f2 (eqT true) (fCall 1 (aCons (fVar 4) aNil) (F_log_text c)) (fVar 8))) (bOr (fB (f2 (eqT true) (fCall 1 (aCons (f1 tupT (fVar 4)) aNil) (F_log_text c)) (fVar 8))) (bNot (fB (fCall 1 (aCons (fVar 8) aNil) (F__law_right c)))))) (dRet (fC (.bl false))) (fun ρ => ret (.nx ρ)) (sL a d x2 x3 (.fz (.lst (rows.map rowT))) x5 x6 x7 (.fz (.str (logS rows))) x9 x10 x11 x12 x13 x14 x15) : M Dr Fl) =
    ret (.nx (sL a d x2 x3 (.fz (.lst (rows.map rowT))) x5 x6 x7 (.fz (.str (logS rows))) x9 x10 x11 x12 x13 x14 x15)) := by
  have e1 := h.text (W := Dr) c (t := .lst (rows.map rowT)) (.inl rfl)
  have e2 := h.text (W := Dr) c (t := .tup (rows.map rowT)) (.inr rfl)
  have e3 := F__law_right_e (W := Dr) c (x := logS rows) (by have := h.len; omega)
  simp -implicitDefEqProofs [e1, e2, e3]
theorem lap_tot (c : Cs) (h : LogOk rows) : Tot d 16 (seqD (dSet 10 (xFz (fVar 8))) (seqD (dFor (fRange1 (f2 addT (fC (.int 1)) (fCall 2 (aCons (fVar 1) (aCons (fC (.int 3)) aNil)) (F__law_draw c)))) (gN 11) (dSet 10 (xFz (fCall 2 (aCons (fVar 1) (aCons (fVar 10) aNil)) (F__law_bent c))))) (dIf (bNot (fB (fCall 1 (aCons (fVar 10) aNil) (F__law_right c)))) (dRet (fC (.bl false))) (fun ρ => ret (.nx ρ)))) (sL a d x2 x3 x4 x5 x6 x7 (.fz (.str (logS rows))) x9 x10 x11 x12 x13 x14 x15))
    (Nx fun ρ => ∃ y10 y11, ρ = sL a d x2 x3 x4 x5 x6 x7 (.fz (.str (logS rows))) x9 y10 y11 x12 x13 x14 x15) := by
  have hlen := h.len
  refine Tot.eq (seq_nx (dSet_e (xFz_e (t := .str (logS rows)) rfl))) ?_
  show Tot d 16 (seqD _ _ (sL a d x2 x3 x4 x5 x6 x7 (.fz (.str (logS rows))) x9 (.fz (.str (logS rows))) x11 x12 x13 x14 x15)) _
  refine Tot.seq (n := 16) (k := 0) (P := fun ρ => ∃ (y : Str) (y11 : Sl), y.length ≤ 50000 ∧ ρ = sL a d x2 x3 x4 x5 x6 x7 (.fz (.str (logS rows))) x9 (.fz (.str y)) y11 x12 x13 x14 x15) ?_ (fun ρ hρ => ?_) (Nat.le_refl _)
  · have hr : Tot d 1 (fRange1 (f2 addT (fC (.int 1)) (fCall 2 (aCons (fVar 1) (aCons (fC (.int 3)) aNil)) (F__law_draw c))) (sL a d x2 x3 x4 x5 x6 x7 (.fz (.str (logS rows))) x9 (.fz (.str (logS rows))) x11 x12 x13 x14 x15)) (fun ts => ((1 : Int) ≤ (ts.length : Nat) ∧ ((ts.length : Nat) : Int) ≤ 3)) :=
      range_tot (by omega) (one_plus (draw_call c rfl rfl (by decide) (by decide))) (by decide)
    unfold dFor
    refine Tot.bnd (n := 1) (k := 15) hr (fun ts hts => ?_) (Nat.le_refl _)
    refine Tot.mono (Tot.loop (d := d) (n := 5) (i := 11) (fun us ρ => ∃ (y : Str) (y11 : Sl), (us.length ≤ 3 ∧ (us.length = 3 → y.length ≤ 1000) ∧ (us.length = 2 → y.length ≤ 3010) ∧ (us.length = 1 → y.length ≤ 9040) ∧ (us.length = 0 → y.length ≤ 27130)) ∧ ρ = sL a d x2 x3 x4 x5 x6 x7 (.fz (.str (logS rows))) x9 (.fz (.str y)) y11 x12 x13 x14 x15) ?step ts _ ⟨logS rows, x11, ⟨by omega, by omega, by omega, by omega, by omega⟩, rfl⟩) (by omega) (fun fl hf => ?post)
    case post =>
      obtain ⟨ρ', e, y, y11, ⟨_, _, _, _, h0⟩, rfl⟩ := hf
      have := h0 rfl
      exact ⟨_, e, y, y11, by omega, rfl⟩
    case step =>
      intro t us ρ hI
      obtain ⟨y, y11, ⟨h3, i3, i2, i1, _⟩, rfl⟩ := hI
      rw [List.length_cons] at h3 i3 i2 i1
      show Tot d 5 (dSet 10 (xFz (fCall 2 (aCons (fVar 1) (aCons (fVar 10) aNil)) (F__law_bent c))) (sL a d x2 x3 x4 x5 x6 x7 (.fz (.str (logS rows))) x9 (.fz (.str y)) (.fz t) x12 x13 x14 x15)) _
      have hy : y.length ≤ 20000 := by omega
      refine (Tot.set (Tot.eq (fCall_e (ts := [.raw (.ref d), .str y]) (aCons_e rfl (aCons_e rfl aNil_e)) rfl) (bent_tot c hy))).mono (Nat.le_refl _) fun fl hf => ?_
      obtain ⟨ρ', rfl, u, ⟨z, rfl, hz⟩, rfl⟩ := hf
      exact ⟨_, rfl, z, .fz t, ⟨by omega, by omega, by omega, by omega, by omega⟩, rfl⟩
  · obtain ⟨y, y11, hy, rfl⟩ := hρ
    have e3 := F__law_right_e (W := Dr) c (x := y) hy
    refine .ofRet (a := .nx (sL a d x2 x3 x4 x5 x6 x7 (.fz (.str (logS rows))) x9 (.fz (.str y)) y11 x12 x13 x14 x15)) ?_ ⟨_, rfl, _, _, rfl⟩
    simp -implicitDefEqProofs [e3]
theorem s5_tot (c : Cs) (h : LogOk rows) : Tot d 96 (dFor (fRange1 (fC (.int 6))) (gN 9) (seqD (dSet 10 (xFz (fVar 8))) (seqD (dFor (fRange1 (f2 addT (fC (.int 1)) (fCall 2 (aCons (fVar 1) (aCons (fC (.int 3)) aNil)) (F__law_draw c)))) (gN 11) (dSet 10 (xFz (fCall 2 (aCons (fVar 1) (aCons (fVar 10) aNil)) (F__law_bent c))))) (dIf (bNot (fB (fCall 1 (aCons (fVar 10) aNil) (F__law_right c)))) (dRet (fC (.bl false))) (fun ρ => ret (.nx ρ))))) (sL a d x2 x3 x4 x5 x6 x7 (.fz (.str (logS rows))) x9 x10 x11 x12 x13 x14 x15))
    (Nx fun ρ => ∃ y9 y10 y11, ρ = sL a d x2 x3 x4 x5 x6 x7 (.fz (.str (logS rows))) y9 y10 y11 x12 x13 x14 x15) := by
  have er : (fRange1 (fC (.int 6)) (sL a d x2 x3 x4 x5 x6 x7 (.fz (.str (logS rows))) x9 x10 x11 x12 x13 x14 x15) : M Dr (List T)) = ret (intsT 0 6) := range_e (m := 6) rfl (by omega)
  unfold dFor
  rw [er, ret_bnd]
  refine Tot.mono (Tot.loop (d := d) (n := 16) (i := 9) (fun us ρ => ∃ y9 y10 y11, ρ = sL a d x2 x3 x4 x5 x6 x7 (.fz (.str (logS rows))) y9 y10 y11 x12 x13 x14 x15) (fun t us ρ hI => ?_) (intsT 0 6) _ ⟨x9, x10, x11, rfl⟩) (by decide) (fun fl hf => ?_)
  · obtain ⟨y9, y10, y11, rfl⟩ := hI
    refine (lap_tot (x9 := .fz t) c h).mono (Nat.le_refl _) fun fl hf => ?_
    obtain ⟨ρ', rfl, z10, z11, rfl⟩ := hf
    exact ⟨_, rfl, _, _, _, rfl⟩
  · obtain ⟨ρ', e, y9, y10, y11, rfl⟩ := hf
    exact ⟨_, e, y9, y10, y11, rfl⟩
end
end PL

set_option maxHeartbeats 4000000
/-! X9f: logs with a thing otherwise; what is no text of a log. -/
namespace PL
open PySem L2 TL
/-- fit to stand in a log -/
def MoreOk (m : T) : Prop := rw_ m ∧ ∀ us, m = .tup us → us.length ≤ 100
theorem nl_list {ts : List T} {t : T} (ht : t = .lst ts ∨ t = .tup ts) (hl : ts.length ≤ 1000) (h : ∀ u ∈ ts, MoreOk u) : NL t := by
  refine ⟨.inl ⟨ts, ht, by omega, fun u hu => (h u hu).1⟩, fun us e => ?_⟩
  have : us = ts := by rcases ht with rfl | rfl <;> cases e <;> rfl
  subst this
  exact ⟨hl, fun u hu => (h u hu).2⟩
theorem mem_cutA {α : Type} {l : List α} {lo hi : Option Int} {x : α} (h : x ∈ cutA l lo hi) : x ∈ l := List.mem_of_mem_drop (List.mem_of_mem_take h)
theorem fl_more {t : T} (h : fl t = true) : MoreOk t := ⟨fl_rw h, fun us e => by
  subst e
  have h : (decide (us.length ≤ 10) && us.all fl0) = true := h
  rw [Bool.and_eq_true] at h
  have := of_decide_eq_true h.1
  omega⟩
theorem step_el {x : Str} (h : isStep x = true) : el (.str x) := .inl ⟨x, rfl, by have := (isStep_iff.mp h).2.1; omega⟩
theorem isa_tup_lst {ts : List T} : isaT "tuple" (.lst ts) = some (.bl false) := by show (kitB "list" "tuple").map T.bl = _; rw [kb_lt]; rfl
def MORE (r : List Str) (o : T) : List T := [.tup [], .lst (r.map T.str), .tup (r.map T.str ++ [o]), .tup [o], o, .str (lineS r)]
theorem more_ok {r : List Str} {o : T} (hr : Good r) (ho : o ∈ ODD) : ∀ m ∈ MORE r o, MoreOk m := by
  have hf := odd_fl o ho
  have hel := fl1_el (fl_fl1 hf)
  have hl := hr.2.1
  intro m hm
  simp only [MORE, List.mem_cons, List.not_mem_nil, or_false] at hm
  rcases hm with rfl | rfl | rfl | rfl | rfl | rfl
  · exact ⟨.inl ⟨[], rfl, by simp, fun _ h => nomatch h⟩, fun us e => by cases e; simp⟩
  · exact ⟨.inr isa_tup_lst, fun us e => nomatch e⟩
  · refine ⟨.inl ⟨_, rfl, by simp; omega, fun u hu => ?_⟩, fun us e => by cases e; simp; omega⟩
    rcases List.mem_append.mp hu with hu | hu
    · obtain ⟨x, hx, rfl⟩ := List.mem_map.mp hu
      exact step_el (hr.2.2 x hx)
    · rcases List.mem_singleton.mp hu with rfl
      exact hel
  · refine ⟨.inl ⟨_, rfl, by simp, fun u hu => ?_⟩, fun us e => by cases e; simp⟩
    rcases List.mem_singleton.mp hu with rfl
    exact hel
  · exact fl_more hf
  · exact ⟨.inr isa_tup_str, fun us e => nomatch e⟩
def WRONG (R : List T) (i : Int) (m : T) (text : Str) (o : T) : List T := [.lst (cutA R none (some i) ++ [m] ++ cutA R (some i) none), .tup (cutA R none (some i) ++ [m]), .lst [], .tup [], .non, .str text, o]
theorem str_nl (x : Str) : NL (.str x) := by
  have hn : isaTT "list" "tuple" (.str x) = some (.bl false) := by
    have h2 : isaT "tuple" (.str x) = some (.bl false) := isa_tup_str
    have h1 : isaT "list" (.str x) = some (.bl false) := by show (kitB "str" "list").map T.bl = _; rw [show kitB "str" "list" = some false from by decide +kernel]; rfl
    unfold isaTT
    rw [h1, h2]
    rfl
  exact ⟨.inr hn, fun ts e => nomatch e⟩
section
variable {a d : Addr} {n k N : Nat} {x2 x3 x4 x5 x6 x7 x8 x9 x10 x11 x12 x13 x14 x15 : Sl} {rows : List (List Str)}
theorem wrong_nl (h : LogOk rows) {i : Int} {m o : T} (hm : MoreOk m) (ho : o ∈ ODD) : ∀ w ∈ WRONG (rows.map rowT) i m (logS rows) o, NL w := by
  have hl := h.few
  have hR : ∀ u ∈ rows.map rowT, MoreOk u := fun u hu => by
    obtain ⟨xs, hx, rfl⟩ := List.mem_map.mp hu
    exact ⟨h.rw xs hx, fun us e => by cases e; rw [List.length_map]; exact (h.small xs hx).1⟩
  have c1 := cutA_len (rows.map rowT) none (some i)
  have c2 := cutA_len (rows.map rowT) (some i) none
  rw [List.length_map] at c1 c2
  intro w hw
  simp only [WRONG, List.mem_cons, List.not_mem_nil, or_false] at hw
  rcases hw with rfl | rfl | rfl | rfl | rfl | rfl | rfl
  · refine nl_list (.inl rfl) (by simp only [List.length_append, List.length_cons, List.length_nil]; omega) fun u hu => ?_
    rcases List.mem_append.mp hu with hu | hu
    · rcases List.mem_append.mp hu with hu | hu
      · exact hR u (mem_cutA hu)
      · rcases List.mem_singleton.mp hu with rfl
        exact hm
    · exact hR u (mem_cutA hu)
  · refine nl_list (.inr rfl) (by simp only [List.length_append, List.length_cons, List.length_nil]; omega) fun u hu => ?_
    rcases List.mem_append.mp hu with hu | hu
    · exact hR u (mem_cutA hu)
    · rcases List.mem_singleton.mp hu with rfl
      exact hm
  · exact nl_list (.inl rfl) (by simp) fun u hu => nomatch hu
  · exact nl_list (.inr rfl) (by simp) fun u hu => nomatch hu
  · exact fl_nl rfl
  · exact str_nl _
  · exact fl_nl (odd_fl _ ho)
theorem s6_tot (c : Cs) (h : LogOk rows) : Tot d 2 (dPar 12 13 (xFz (fCall 2 (aCons (fVar 1) (aCons (f1 lenT (fVar 4)) aNil)) (F__law_draw c))) (xFz (fCall 1 (aCons (fVar 1) aNil) (F__law_odd c))) (sL a d x2 x3 (.fz (.lst (rows.map rowT))) x5 x6 x7 x8 x9 x10 x11 x12 x13 x14 x15))
    (Nx fun ρ => ∃ (i : Int) (o : T), (0 ≤ i ∧ i < (rows.length : Nat)) ∧ o ∈ ODD ∧ ρ = sL a d x2 x3 (.fz (.lst (rows.map rowT))) x5 x6 x7 x8 x9 x10 x11 (.fz (.int i)) (.fz o) x14 x15) := by
  have hl := h.few
  have hp := h.pos
  refine (Tot.par (n := 1) (k := 1) (draw_call c (k := (rows.length : Nat)) rfl (f1_e (t := .lst (rows.map rowT)) rfl (by show some (T.int ((rows.map rowT).length : Nat)) = _; rw [List.length_map])) (by omega) (by omega)) (Tot.eq (fCall_e (ts := [.raw (.ref d)]) (aCons_e rfl aNil_e) rfl) (odd_tot c)) (Nat.le_refl _)).mono (Nat.le_refl _) fun fl hf => ?_
  obtain ⟨ρ', rfl, t, u, ⟨i, rfl, h1, h2⟩, hu, rfl⟩ := hf
  exact ⟨_, rfl, i, u, ⟨h1, h2⟩, hu, rfl⟩
theorem row_ix {i : Int} (h0 : 0 ≤ i) (h1 : i < (rows.length : Nat)) : ∃ r ∈ rows, ixT (.lst (rows.map rowT)) (.int i) = some (rowT r) := by
  obtain ⟨t, ht, hm⟩ := at_mem (ts := rows.map rowT) h0 (by rw [List.length_map]; exact h1)
  obtain ⟨r, hr, rfl⟩ := List.mem_map.mp hm
  exact ⟨r, hr, ht⟩
theorem s7_tot (c : Cs) (h : LogOk rows) {i : Int} {o : T} (hi : 0 ≤ i ∧ i < (rows.length : Nat)) (ho : o ∈ ODD) :
    Tot d 1 (dSet 14 (xFz (fCall 2 (aCons (fVar 1) (aCons (asL (fLst (aCons (fTup aNil) (aCons (asL (f1l itemsT (f2 ixT (fVar 4) (fVar 12)))) (aCons (f2 addT (f2 ixT (fVar 4) (fVar 12)) (fTup (aCons (fVar 13) aNil))) (aCons (fTup (aCons (fVar 13) aNil)) (aCons (fVar 13) (aCons (fM1 joinT (fC (.str " ")) (f2 ixT (fVar 4) (fVar 12))) aNil)))))))) aNil)) (F__law_pick c))) (sL a d x2 x3 (.fz (.lst (rows.map rowT))) x5 x6 x7 x8 x9 x10 x11 (.fz (.int i)) (.fz o) x14 x15))
      (Nx fun ρ => ∃ m, MoreOk m ∧ ρ = sL a d x2 x3 (.fz (.lst (rows.map rowT))) x5 x6 x7 x8 x9 x10 x11 (.fz (.int i)) (.fz o) (.fz m) x15) := by
  obtain ⟨r, hr, e⟩ := row_ix hi.1 hi.2
  have hg := h.good r hr
  have q := h.fit.row r hr
  have e1 : joinT " " (rowT r) = some (.str (lineS r)) := joinT_t (by rw [sp_len, Nat.mul_one]; omega)
  have e2 : addT (rowT r) (.tup [o]) = some (.tup (r.map T.str ++ [o])) := ev_addTu (by rw [List.length_map]; have := hg.2.1; simp; omega)
  have e3 : itemsT (rowT r) = some (r.map T.str) := rfl
  have e4 : (asL (fLst (aCons (fTup aNil) (aCons (asL (f1l itemsT (f2 ixT (fVar 4) (fVar 12)))) (aCons (f2 addT (f2 ixT (fVar 4) (fVar 12)) (fTup (aCons (fVar 13) aNil))) (aCons (fTup (aCons (fVar 13) aNil)) (aCons (fVar 13) (aCons (fM1 joinT (fC (.str " ")) (f2 ixT (fVar 4) (fVar 12))) aNil))))))) (sL a d x2 x3 (.fz (.lst (rows.map rowT))) x5 x6 x7 x8 x9 x10 x11 (.fz (.int i)) (.fz o) x14 x15) : M Dr T) = ret (.lst (MORE r o)) := by
    simp -implicitDefEqProofs [e, e1, e2, e3]
    rfl
  refine (Tot.set (Tot.eq (fCall_e (ts := [.raw (.ref d), .lst (MORE r o)]) (aCons_e rfl (aCons_e e4 aNil_e)) rfl) (pick_lst c (by simp [MORE]) (by simp [MORE])))).mono (Nat.le_refl _) (nx_set fun u hu => ?_)
  exact ⟨u, more_ok hg ho u hu, rfl⟩
theorem s8_tot (c : Cs) (h : LogOk rows) {i : Int} {o m : T} (hm : MoreOk m) (ho : o ∈ ODD) :
    Tot d 1 (dSet 15 (xFz (fCall 2 (aCons (fVar 1) (aCons (asL (fLst (aCons (f2 addT (f2 addT (fSlice (fVar 4) fNoPart (fPart (fVar 12))) (asL (fLst (aCons (fVar 14) aNil)))) (fSlice (fVar 4) (fPart (fVar 12)) fNoPart)) (aCons (f1 tupT (f2 addT (fSlice (fVar 4) fNoPart (fPart (fVar 12))) (asL (fLst (aCons (fVar 14) aNil))))) (aCons (asL (fLst aNil)) (aCons (fTup aNil) (aCons (fC .non) (aCons (fVar 8) (aCons (fVar 13) aNil))))))))) aNil)) (F__law_pick c))) (sL a d x2 x3 (.fz (.lst (rows.map rowT))) x5 x6 x7 (.fz (.str (logS rows))) x9 x10 x11 (.fz (.int i)) (.fz o) (.fz m) x15))
      (Nx fun ρ => ∃ w, NL w ∧ ρ = sL a d x2 x3 (.fz (.lst (rows.map rowT))) x5 x6 x7 (.fz (.str (logS rows))) x9 x10 x11 (.fz (.int i)) (.fz o) (.fz m) (.fz w)) := by
  have hl := h.few
  have c1 := cutA_len (rows.map rowT) none (some i)
  have c2 := cutA_len (rows.map rowT) (some i) none
  rw [List.length_map] at c1 c2
  have s1 : sliceT none (some i) (.lst (rows.map rowT)) = some (.lst (cutA (rows.map rowT) none (some i))) := rfl
  have s2 : sliceT (some i) none (.lst (rows.map rowT)) = some (.lst (cutA (rows.map rowT) (some i) none)) := rfl
  have a1 : addT (.lst (cutA (rows.map rowT) none (some i))) (.lst [m]) = some (.lst (cutA (rows.map rowT) none (some i) ++ [m])) := ev_addL (by simp only [List.length_cons, List.length_nil]; omega)
  have a2 : addT (.lst (cutA (rows.map rowT) none (some i) ++ [m])) (.lst (cutA (rows.map rowT) (some i) none)) = some (.lst (cutA (rows.map rowT) none (some i) ++ [m] ++ cutA (rows.map rowT) (some i) none)) := ev_addL (by simp only [List.length_append, List.length_cons, List.length_nil]; omega)
  have st : ∀ ρ : Rho, ρ = sL a d x2 x3 (.fz (.lst (rows.map rowT))) x5 x6 x7 (.fz (.str (logS rows))) x9 x10 x11 (.fz (.int i)) (.fz o) (.fz m) x15 → (asL (fLst (aCons (f2 addT (f2 addT (fSlice (fVar 4) fNoPart (fPart (fVar 12))) (asL (fLst (aCons (fVar 14) aNil)))) (fSlice (fVar 4) (fPart (fVar 12)) fNoPart)) (aCons (f1 tupT (f2 addT (fSlice (fVar 4) fNoPart (fPart (fVar 12))) (asL (fLst (aCons (fVar 14) aNil))))) (aCons (asL (fLst aNil)) (aCons (fTup aNil) (aCons (fC .non) (aCons (fVar 8) (aCons (fVar 13) aNil)))))))) ρ : M Dr T) = ret (.lst (WRONG (rows.map rowT) i m (logS rows) o)) := fun ρ hρ => by
    have v4 : (fVar 4 ρ : M Dr T) = ret (.lst (rows.map rowT)) := by rw [hρ]; rfl
    have v12 : (fVar 12 ρ : M Dr T) = ret (.int i) := by rw [hρ]; rfl
    have v14 : (fVar 14 ρ : M Dr T) = ret m := by rw [hρ]; rfl
    have v8 : (fVar 8 ρ : M Dr T) = ret (.str (logS rows)) := by rw [hρ]; rfl
    have v13 : (fVar 13 ρ : M Dr T) = ret o := by rw [hρ]; rfl
    have l1 : (asL (fLst (aCons (fVar 14) aNil)) ρ : M Dr T) = ret (.lst [m]) := asL_e (fLst_e (aCons_e v14 aNil_e) (by simp))
    have p1 : (f2 addT (fSlice (fVar 4) fNoPart (fPart (fVar 12))) (asL (fLst (aCons (fVar 14) aNil))) ρ : M Dr T) = ret (.lst (cutA (rows.map rowT) none (some i) ++ [m])) := f2_e (fSlice_e v4 rfl (fPart_e v12) s1) l1 a1
    have p2 : (f2 addT (f2 addT (fSlice (fVar 4) fNoPart (fPart (fVar 12))) (asL (fLst (aCons (fVar 14) aNil)))) (fSlice (fVar 4) (fPart (fVar 12)) fNoPart) ρ : M Dr T) = ret (.lst (cutA (rows.map rowT) none (some i) ++ [m] ++ cutA (rows.map rowT) (some i) none)) := f2_e p1 (fSlice_e v4 (fPart_e v12) rfl s2) a2
    exact asL_e (fLst_e (ts := WRONG (rows.map rowT) i m (logS rows) o) (aCons_e p2 (aCons_e (f1_e p1 rfl) (aCons_e (asL_e (fLst_e aNil_e (by simp))) (aCons_e (fTup_e aNil_e (by simp)) (aCons_e rfl (aCons_e v8 (aCons_e v13 aNil_e))))))) (by simp [WRONG]))
  refine (Tot.set (Tot.eq (fCall_e (ts := [.raw (.ref d), .lst (WRONG (rows.map rowT) i m (logS rows) o)]) (aCons_e rfl (aCons_e (st _ rfl) aNil_e)) rfl) (pick_lst c (by simp [WRONG]) (by simp [WRONG])))).mono (Nat.le_refl _) (nx_set fun u hu => ?_)
  exact ⟨u, wrong_nl h hm ho u hu, rfl⟩
theorem s9_e (c : Cs) {w : T} (hw : NL w) : (dIf (fB (f2 (eqT true) (f1 reprT (fRef (kn__law_row_at c) (kd__law_row_at c) (fCall 1 (aCons (fVar 15) aNil) (F_log_text c)))) (f1 reprT (fCall 1 (aCons (fVar 15) aNil) (F__law_due c))))) (dRet (fC (.bl false))) (fun ρ => ret (.nx ρ)) (sL a d x2 x3 x4 x5 x6 x7 x8 x9 x10 x11 x12 x13 x14 (.fz w)) : M Dr Fl) = ret (.nx (sL a d x2 x3 x4 x5 x6 x7 x8 x9 x10 x11 x12 x13 x14 (.fz w))) := by
  obtain ⟨s, hs⟩ := due_repr hw
  have e1 := row_at_e (W := Dr) (ρ := sL a d x2 x3 x4 x5 x6 x7 x8 x9 x10 x11 x12 x13 x14 (.fz w)) c hw rfl
  have e2 : (fCall 1 (aCons (fVar 15) aNil) (F__law_due c) (sL a d x2 x3 x4 x5 x6 x7 x8 x9 x10 x11 x12 x13 x14 (.fz w)) : M Dr T) = ret (dueO w) := (fCall_e (n := 1) (ts := [w]) (aCons_e rfl aNil_e) rfl).trans (F__law_due_e c hw.lg)
  exact dIf_f (fB_e (f2_e (f1_e e1 hs) (f1_e e2 hs) (by rw [eq_str]; simp)))
def LAST (R : List T) (text : Str) : List T := [.non, .int 5, .bl true, .lst R, .tup R, .dct [] [], .str "", .str "\n", .str (cutS text none (some (-1)))]
theorem last_no (c : Cs) (h : LogOk rows) : ∀ t ∈ LAST (rows.map rowT) (logS rows), F_read_log c [t] = (raiseM ⟨c.NoText, [], []⟩ : M Dr (List T)) := by
  intro t ht
  simp only [LAST, List.mem_cons, List.not_mem_nil, or_false] at ht
  have hlen := h.len
  have hc := cut_most_len (logS rows)
  have str : ∀ y : Str, y.length ≤ 50000 → (ends y && (rowsOf y).all fullR) = false → F_read_log c [.str y] = (raiseM ⟨c.NoText, [], []⟩ : M Dr (List T)) := fun y hy hb => by
    rw [F_read_log_e c hy]
    exact if_neg (by rw [hb]; simp)
  rcases ht with rfl | rfl | rfl | rfl | rfl | rfl | rfl | rfl | rfl
  · exact F_read_log_not c (by show (kitB "NoneType" "str").map T.bl = _; rw [show kitB "NoneType" "str" = some false from by decide +kernel]; rfl)
  · exact F_read_log_not c (by show (kitB "int" "str").map T.bl = _; rw [show kitB "int" "str" = some false from by decide +kernel]; rfl)
  · exact F_read_log_not c (by show (kitB "bool" "str").map T.bl = _; rw [show kitB "bool" "str" = some false from by decide +kernel]; rfl)
  · exact F_read_log_not c (by show (kitB "list" "str").map T.bl = _; rw [show kitB "list" "str" = some false from by decide +kernel]; rfl)
  · exact F_read_log_not c isa_str_tup
  · exact F_read_log_not c (by show (kitB "dict" "str").map T.bl = _; rw [show kitB "dict" "str" = some false from by decide +kernel]; rfl)
  · exact str "" (by rw [no_len]; omega) (by
      have : ends "" = false := by unfold ends; rw [no_tl]; rfl
      rw [this, Bool.false_and])
  · exact str "\n" (by rw [nl_len]; omega) nl_odd
  · refine str _ (by omega) ?_
    have hne : rows ≠ [] := fun z => by have := h.pos; rw [z] at this; simp at this
    rw [log_ends hne fun xs hx => ⟨(h.good xs hx).1, (h.good xs hx).2.2⟩, Bool.false_and]
theorem s10_tot (c : Cs) (h : LogOk rows) : Tot d 1 (dSet 13 (xFz (fCall 2 (aCons (fVar 1) (aCons (asL (fLst (aCons (fC .non) (aCons (fC (.int 5)) (aCons (fC (.bl true)) (aCons (fVar 4) (aCons (f1 tupT (fVar 4)) (aCons (fC (.dct [] [])) (aCons (fC (.str "")) (aCons (fC (.str "\n")) (aCons (fSlice (fVar 8) fNoPart (fPart (f1 negT (fC (.int 1))))) aNil))))))))))) aNil)) (F__law_pick c))) (sL a d x2 x3 (.fz (.lst (rows.map rowT))) x5 x6 x7 (.fz (.str (logS rows))) x9 x10 x11 x12 x13 x14 x15))
    (Nx fun ρ => ∃ t, F_read_log c [t] = (raiseM ⟨c.NoText, [], []⟩ : M Dr (List T)) ∧ ρ = sL a d x2 x3 (.fz (.lst (rows.map rowT))) x5 x6 x7 (.fz (.str (logS rows))) x9 x10 x11 x12 (.fz t) x14 x15) := by
  have hlen := h.len
  have st : ∀ ρ : Rho, ρ = sL a d x2 x3 (.fz (.lst (rows.map rowT))) x5 x6 x7 (.fz (.str (logS rows))) x9 x10 x11 x12 x13 x14 x15 → (asL (fLst (aCons (fC .non) (aCons (fC (.int 5)) (aCons (fC (.bl true)) (aCons (fVar 4) (aCons (f1 tupT (fVar 4)) (aCons (fC (.dct [] [])) (aCons (fC (.str "")) (aCons (fC (.str "\n")) (aCons (fSlice (fVar 8) fNoPart (fPart (f1 negT (fC (.int 1))))) aNil)))))))))) ρ : M Dr T) = ret (.lst (LAST (rows.map rowT) (logS rows))) := fun ρ hρ => by
    have v4 : (fVar 4 ρ : M Dr T) = ret (.lst (rows.map rowT)) := by rw [hρ]; rfl
    have v8 : (fVar 8 ρ : M Dr T) = ret (.str (logS rows)) := by rw [hρ]; rfl
    exact asL_e (fLst_e (ts := LAST (rows.map rowT) (logS rows)) (aCons_e rfl (aCons_e rfl (aCons_e rfl (aCons_e v4 (aCons_e (f1_e v4 rfl) (aCons_e rfl (aCons_e rfl (aCons_e rfl (aCons_e (fSlice_e v8 rfl (fPart_e (i := -1) (f1_e (t := .int 1) rfl rfl)) (slice_most (by omega))) aNil_e))))))))) (by simp [LAST]))
  refine (Tot.set (Tot.eq (fCall_e (ts := [.raw (.ref d), .lst (LAST (rows.map rowT) (logS rows))]) (aCons_e rfl (aCons_e (st _ rfl) aNil_e)) rfl) (pick_lst c (by simp [LAST]) (by simp [LAST])))).mono (Nat.le_refl _) (nx_set fun u hu => ?_)
  exact ⟨u, last_no c h u hu, rfl⟩
theorem s11_e (c : Cs) {t : T} (ht : F_read_log c [t] = (raiseM ⟨c.NoText, [], []⟩ : M Dr (List T))) : (dIf (fB (f2 (eqT true) (fRef (kn__law_refused c) (kd__law_refused c) (asL (fCallL 1 (aCons (fVar 13) aNil) (F_read_log c)))) (fC (.str "text")))) (dRet (fC (.bl false))) (fun ρ => ret (.nx ρ)) (sL a d x2 x3 x4 x5 x6 x7 x8 x9 x10 x11 x12 (.fz t) x14 x15) : M Dr Fl) = ret (.nx (sL a d x2 x3 x4 x5 x6 x7 x8 x9 x10 x11 x12 (.fz t) x14 x15)) := by
  have e1 : (fRef (kn__law_refused c) (kd__law_refused c) (asL (fCallL 1 (aCons (fVar 13) aNil) (F_read_log c))) (sL a d x2 x3 x4 x5 x6 x7 x8 x9 x10 x11 x12 (.fz t) x14 x15) : M Dr T) = ret (.str "text") :=
    fRef_er (e := ⟨c.NoText, [], []⟩) (by
      have v : (fVar 13 ((sL a d x2 x3 x4 x5 x6 x7 x8 x9 x10 x11 x12 (.fz t) x14 x15).map Sl.hid) : M Dr T) = ret t := rfl
      show bnd (bnd (aCons (fVar 13) aNil _) _) _ = _
      rw [aCons_e v aNil_e, ret_bnd]
      show bnd (F_read_log c [t]) _ = _
      rw [ht]
      rfl) (kd_text c)
  exact dIf_f (fB_e (f2_e e1 rfl (by rw [eq_str]; rfl)))
end
end PL

set_option maxHeartbeats 4000000
/-! X9: the plain law. -/
namespace PL
open PySem L2 TL
theorem fScr_e {a d : Addr} {m : Nat} {x2 x3 x4 x5 x6 x7 x8 x9 x10 x11 x12 x13 x14 x15 : Sl} : (fScr 0 a m (sL a d x2 x3 x4 x5 x6 x7 x8 x9 x10 x11 x12 x13 x14 x15) : M Dr T) = ret (.int (m : Nat)) := by
  funext w
  show (if a = a then some (R.ok (T.int (m : Nat)), w) else none) = _
  rw [if_pos rfl]
  rfl
theorem plain (c : Cs) : Plain c := fun a d ns hl => by
  suffices h : Tot d (10 * 400) (g_law c a ns.length (rho0 a d)) (fun fl => fl = .rt (.bl true)) by
    have hw : DOk d (w0 d ns) := ⟨rfl, Int.le_refl _, Int.le_refl _, fun x hx => by
      obtain ⟨y, hy, rfl⟩ := List.mem_map.mp (show x ∈ ((cells0 ns).filter fun n => decide ((10 : Int) ^ 18 ≤ n)).map fun n => n - 10 ^ 18 from hx)
      have := of_decide_eq_true (List.mem_filter.mp hy).2
      omega⟩
    obtain ⟨fl, w', e, rfl, _⟩ := h _ hw (by show (0 : Int) + _ ≤ _; omega)
    exact ⟨w', e⟩
  unfold g_law
  show Tot d _ (seqD _ _ (sL a d .un .un .un .un .un .un .un .un .un .un .un .un .un .un)) _
  let m : Nat := 4 + (if 6 < ns.length then 6 else ns.length)
  have hm : m ≤ 10 := by show 4 + _ ≤ 10; split <;> omega
  have er : (fRange1 (f2 addT (fC (.int 4)) (f2 min2T (fScr 0 a ns.length) (fC (.int 6)))) (sL a d .un .un .un .un .un .un .un .un .un .un .un .un .un .un) : M Dr (List T)) = ret (intsT 0 m) := by
    have hX : (if (6 : Int) < ((ns.length : Nat) : Int) then (6 : Int) else ((ns.length : Nat) : Int)) = ((if 6 < ns.length then 6 else ns.length : Nat) : Int) := by split <;> split <;> omega
    refine range_e (f2_e (t := .int 4) (u := .int ((if 6 < ns.length then 6 else ns.length : Nat) : Int)) rfl (f2_e (t := .int ((ns.length : Nat) : Int)) (u := .int 6) fScr_e rfl (by rw [← hX]; rfl)) ?_) (by omega)
    rw [add_e]
    congr 2
  have hlen : (intsT 0 m).length = m := by unfold intsT; rw [List.length_map, List.length_range]
  refine Tot.seq (n := 10 * 400) (k := 0) (P := fun _ => True) ?_ (fun ρ _ => .ofRet rfl rfl) (Nat.le_refl _)
  unfold dFor
  rw [er, ret_bnd]
  refine Tot.mono (Tot.loop (d := d) (n := 400) (i := 2) (fun _ ρ => ∃ x2 x3 x4 x5 x6 x7 x8 x9 x10 x11 x12 x13 x14 x15, ρ = sL a d x2 x3 x4 x5 x6 x7 x8 x9 x10 x11 x12 x13 x14 x15) ?step (intsT 0 m) (sL a d .un .un .un .un .un .un .un .un .un .un .un .un .un .un) ⟨_, _, _, _, _, _, _, _, _, _, _, _, _, _, rfl⟩) (by rw [hlen]; exact Nat.mul_le_mul_right _ hm) (fun fl hf => by
    obtain ⟨ρ', e, _⟩ := hf
    exact ⟨ρ', e, trivial⟩)
  intro t0 ts ρ h
  obtain ⟨x2, x3, x4, x5, x6, x7, x8, x9, x10, x11, x12, x13, x14, x15, rfl⟩ := h
  show Tot d 400 (seqD _ _ (sL a d (.fz t0) x3 x4 x5 x6 x7 x8 x9 x10 x11 x12 x13 x14 x15)) _
  refine Tot.seq (n := 97) (k := 303) (s1_tot c) (fun ρ hρ => ?_) (by omega)
  obtain ⟨xs, hxs, rfl⟩ := hρ
  refine Tot.seq (n := 113) (k := 190) (s2_tot c hxs) (fun ρ hρ => ?_) (by omega)
  obtain ⟨rows, y5, y6, hr, rfl⟩ := hρ
  have lo : LogOk rows := ⟨hr.1, hr.2.1, hr.2.2⟩
  have e3 := s3_e (a := a) (d := d) (x2 := .fz t0) (x3 := .fz (sLst xs)) (x5 := y5) (x6 := y6) (x7 := x7) (x8 := x8) (x9 := x9) (x10 := x10) (x11 := x11) (x12 := x12) (x13 := x13) (x14 := x14) (x15 := x15) lo
  refine Tot.eq (seq_nx (ρ' := sL a d (.fz t0) (.fz (sLst xs)) (.fz (.lst (rows.map rowT))) y5 y6 x7 (.fz (.str (logS rows))) x9 x10 x11 x12 x13 x14 x15) e3) ?_
  refine Tot.eq (seq_nx (s4_e c lo)) ?_
  refine Tot.seq (n := 96) (k := 94) (s5_tot c lo) (fun ρ hρ => ?_) (by omega)
  obtain ⟨y9, y10, y11, rfl⟩ := hρ
  refine Tot.seq (n := 2) (k := 92) (s6_tot c lo) (fun ρ hρ => ?_) (by omega)
  obtain ⟨i, o, hi, ho, rfl⟩ := hρ
  refine Tot.seq (n := 1) (k := 91) (s7_tot c lo hi ho) (fun ρ hρ => ?_) (by omega)
  obtain ⟨mo, hmo, rfl⟩ := hρ
  refine Tot.seq (n := 1) (k := 90) (s8_tot c lo hmo ho) (fun ρ hρ => ?_) (by omega)
  obtain ⟨w, hw, rfl⟩ := hρ
  refine Tot.eq (seq_nx (s9_e c hw)) ?_
  refine Tot.seq (n := 1) (k := 0) (s10_tot c lo) (fun ρ hρ => ?_) (by omega)
  obtain ⟨t, ht, rfl⟩ := hρ
  exact .ofRet (s11_e c ht) ⟨_, rfl, _, _, _, _, _, _, _, _, _, _, _, _, _, _, rfl⟩
end PL

set_option maxHeartbeats 4000000
namespace PL
open PySem PySem.Spec PyProof.Rows L2 LamX
theorem kit_data {K : PySem.W.Frag} {C : Addr} {n : String} (h1 : PySem.W.isClsIn K C = true) (h2 : PySem.W.typeIn K (.ref C) = some (.type "type")) (h3 : PySem.W.subIn K (.type n) (.ref C) = some false) : PySem.W.kitOne K (.type n) (.ref C) = some false := by
  unfold PySem.W.kitOne
  rw [if_neg (by simp)]
  show (if ((PySem.W.clsIn K C).isSome && PySem.W.typeIn K (.ref C) == some (.type "type")) = true then PySem.W.subIn K (.type n) (.ref C) else none) = _
  rw [if_pos ?_, h3]
  rw [h2]
  simp
  exact h1
theorem exm_self {K : PySem.W.Frag} {S : Addr} (h1 : PySem.W.subIn K (.ref S) (.type "BaseException") = some true) (h2 : PySem.W.isClsIn K S = true) (h3 : PySem.W.typeIn K (.ref S) = some (.type "type")) (h4 : PySem.W.subIn K (.ref S) (.ref S) = some true) : PySem.W.exmOne K (.ref S) (.ref S) = some true := by
  have e1 : (PySem.W.subIn K (.ref S) (.type "BaseException") == some true) = true := by rw [h1] <;> rfl
  have e2 : ((PySem.W.clsIn K S).isSome && PySem.W.typeIn K (.ref S) == some (.type "type")) = true := by
    have h2' : (PySem.W.clsIn K S).isSome = true := h2
    rw [h2', h3] <;> rfl
  show (if (PySem.W.subIn K (.ref S) (.type "BaseException") == some true) = true then (if ((PySem.W.clsIn K S).isSome && PySem.W.typeIn K (.ref S) == some (.type "type")) = true then PySem.W.subIn K (.ref S) (.ref S) else none) else none) = some true
  rw [if_pos e1, if_pos e2]
  exact h4
theorem ve_ref {S : Addr} {l : List Value} (h : PySem.HandSPX.refsVE l = true) : PySem.HandSPX.refsVE (.ref S :: l) = true := h
theorem uniq2 {a b : Addr} {x y : Str} (h : a ≠ b) : ∀ p ∈ [(a, x), (b, y)], ∀ q ∈ [(a, x), (b, y)], q.1 = p.1 → q.2 = p.2 := by
  intro p hp q hq e
  simp only [List.mem_cons, List.not_mem_nil, or_false] at hp hq
  rcases hp with rfl | rfl <;> rcases hq with rfl | rfl
  · rfl
  · exact absurd e.symm h
  · exact absurd e h
  · rfl
theorem all_mk {P : Program} {w : World} {K : PySem.W.Frag} {h : Heap} {mg : Str → Option Value} {fa f_is_step f_text_of f_lines_of f_is_full_row f_need_rows f_log_text f_read_log f__law_draw f__law_pick f__law_step f__law_steps f__law_odd f__law_bent f__law_is_full f__law_due f__law_right code__law_right tab__law_right f__law_refused f__law_row_at f__law_begin f_law code_law tab_law C_NoRow S_NoRow f_NoRow___init__ cda_NoRow cc_NoRow N_NoRow C_NoAgain C_NoForm C_NoName C_NoStep C_NoText C_StepError C_TooMany C_Twice : Addr} (X : K.In h) (G : h.Ns mainGlobals mg) (hfa : mg "law" = some (.ref fa))
    {od1 an1 : Option Addr} {sl1 : Array (Option Value)} {oc1 kV1 dc1 pm1 cd1 ct1 : Value}
    {od2 an2 : Option Addr} {sl2 : Array (Option Value)} {oc2 kV2 dc2 pm2 cd2 ct2 : Value}
    {od3 an3 : Option Addr} {sl3 : Array (Option Value)} {oc3 kV3 dc3 pm3 cd3 ct3 : Value}
    {od4 an4 : Option Addr} {sl4 : Array (Option Value)} {oc4 kV4 dc4 pm4 cd4 ct4 : Value}
    {od5 an5 : Option Addr} {sl5 : Array (Option Value)} {oc5 kV5 dc5 pm5 cd5 ct5 : Value}
    {od6 an6 : Option Addr} {sl6 : Array (Option Value)} {oc6 kV6 dc6 pm6 cd6 ct6 : Value}
    {od7 an7 : Option Addr} {sl7 : Array (Option Value)} {oc7 kV7 dc7 pm7 cd7 ct7 : Value}
    {od8 an8 : Option Addr} {sl8 : Array (Option Value)} {oc8 kV8 dc8 pm8 cd8 ct8 : Value}
    {od9 an9 : Option Addr} {sl9 : Array (Option Value)} {oc9 kV9 dc9 pm9 cd9 ct9 : Value}
    {od10 an10 : Option Addr} {sl10 : Array (Option Value)} {oc10 kV10 dc10 pm10 cd10 ct10 : Value}
    {od11 an11 : Option Addr} {sl11 : Array (Option Value)} {oc11 kV11 dc11 pm11 cd11 ct11 : Value}
    {od12 an12 : Option Addr} {sl12 : Array (Option Value)} {oc12 kV12 dc12 pm12 cd12 ct12 : Value}
    {od13 an13 : Option Addr} {sl13 : Array (Option Value)} {oc13 kV13 dc13 pm13 cd13 ct13 : Value}
    {od14 an14 : Option Addr} {sl14 : Array (Option Value)} {oc14 kV14 dc14 pm14 cd14 ct14 : Value}
    {od15 an15 : Option Addr} {sl15 : Array (Option Value)} {oc15 kV15 dc15 pm15 cd15 ct15 : Value}
    {od16 an16 : Option Addr} {sl16 : Array (Option Value)} {oc16 kV16 dc16 pm16  ct16 : Value}
    {tcl__law_right : Value} {tdd__law_right : Option Addr} {tvs__law_right : Array Value} {tcs__law_right : Array (Option Value)}
    {od17 an17 : Option Addr} {sl17 : Array (Option Value)} {oc17 kV17 dc17 pm17 cd17 ct17 : Value}
    {od18 an18 : Option Addr} {sl18 : Array (Option Value)} {oc18 kV18 dc18 pm18 cd18 ct18 : Value}
    {od19 an19 : Option Addr} {sl19 : Array (Option Value)} {oc19 kV19 dc19 pm19 cd19 ct19 : Value}
    {od20 an20 : Option Addr} {sl20 : Array (Option Value)} {oc20 kV20 dc20 pm20  ct20 : Value}
    {tcl_law : Value} {tdd_law : Option Addr} {tvs_law : Array Value} {tcs_law : Array (Option Value)}
    {nm_NoRow q_NoRow file_NoRow : Str} {bs_NoRow sub_NoRow : List Value} {sn_NoRow : List Str} {ab_NoRow : Bool} {col_NoRow : Option Bool} {m0_NoRow m1_NoRow m2_NoRow m3_NoRow m5_NoRow : Option Value} {kV_NoRow doc_NoRow pm_NoRow ct_NoRow oc_NoRow ccl_NoRow cl_NoRow : Value} {dd_NoRow an_NoRow od_NoRow cdd_NoRow cld_NoRow : Option Addr} {osl_NoRow ccs_NoRow csl_NoRow : Array (Option Value)} {vs_NoRow : Array Value} {tf_NoRow : Tok}
    {t_LETTERS : Tok}
    {t_MOST_LETTERS : Tok}
    (a_is_step : PySem.W.nsIn K mainGlobals "is_step" = some (some (.ref f_is_step)))
    (l_is_step : K.lookup f_is_step = some ⟨oc1, od1, .func (PySem.W.fnOf "is_step" "is_step" (defArgs s_is_step) (defBody s_is_step) (defScope s_is_step) .none kV1 dc1 pm1 an1 cd1 ct1), sl1⟩)
    (c_is_step : PySem.W.codeIn K cd1 "is_step" = true)
    (k_is_step : PySem.W.keepIn K (.ref f_is_step) = true)
    (a_text_of : PySem.W.nsIn K mainGlobals "text_of" = some (some (.ref f_text_of)))
    (l_text_of : K.lookup f_text_of = some ⟨oc2, od2, .func (PySem.W.fnOf "text_of" "text_of" (defArgs s_text_of) (defBody s_text_of) (defScope s_text_of) .none kV2 dc2 pm2 an2 cd2 ct2), sl2⟩)
    (c_text_of : PySem.W.codeIn K cd2 "text_of" = true)
    (k_text_of : PySem.W.keepIn K (.ref f_text_of) = true)
    (a_lines_of : PySem.W.nsIn K mainGlobals "lines_of" = some (some (.ref f_lines_of)))
    (l_lines_of : K.lookup f_lines_of = some ⟨oc3, od3, .func (PySem.W.fnOf "lines_of" "lines_of" (defArgs s_lines_of) (defBody s_lines_of) (defScope s_lines_of) .none kV3 dc3 pm3 an3 cd3 ct3), sl3⟩)
    (c_lines_of : PySem.W.codeIn K cd3 "lines_of" = true)
    (k_lines_of : PySem.W.keepIn K (.ref f_lines_of) = true)
    (a_is_full_row : PySem.W.nsIn K mainGlobals "is_full_row" = some (some (.ref f_is_full_row)))
    (l_is_full_row : K.lookup f_is_full_row = some ⟨oc4, od4, .func (PySem.W.fnOf "is_full_row" "is_full_row" (defArgs s_is_full_row) (defBody s_is_full_row) (defScope s_is_full_row) .none kV4 dc4 pm4 an4 cd4 ct4), sl4⟩)
    (c_is_full_row : PySem.W.codeIn K cd4 "is_full_row" = true)
    (k_is_full_row : PySem.W.keepIn K (.ref f_is_full_row) = true)
    (a_need_rows : PySem.W.nsIn K mainGlobals "need_rows" = some (some (.ref f_need_rows)))
    (l_need_rows : K.lookup f_need_rows = some ⟨oc5, od5, .func (PySem.W.fnOf "need_rows" "need_rows" (defArgs s_need_rows) (defBody s_need_rows) (defScope s_need_rows) .none kV5 dc5 pm5 an5 cd5 ct5), sl5⟩)
    (c_need_rows : PySem.W.codeIn K cd5 "need_rows" = true)
    (k_need_rows : PySem.W.keepIn K (.ref f_need_rows) = true)
    (a_log_text : PySem.W.nsIn K mainGlobals "log_text" = some (some (.ref f_log_text)))
    (l_log_text : K.lookup f_log_text = some ⟨oc6, od6, .func (PySem.W.fnOf "log_text" "log_text" (defArgs s_log_text) (defBody s_log_text) (defScope s_log_text) .none kV6 dc6 pm6 an6 cd6 ct6), sl6⟩)
    (c_log_text : PySem.W.codeIn K cd6 "log_text" = true)
    (k_log_text : PySem.W.keepIn K (.ref f_log_text) = true)
    (a_read_log : PySem.W.nsIn K mainGlobals "read_log" = some (some (.ref f_read_log)))
    (l_read_log : K.lookup f_read_log = some ⟨oc7, od7, .func (PySem.W.fnOf "read_log" "read_log" (defArgs s_read_log) (defBody s_read_log) (defScope s_read_log) .none kV7 dc7 pm7 an7 cd7 ct7), sl7⟩)
    (c_read_log : PySem.W.codeIn K cd7 "read_log" = true)
    (k_read_log : PySem.W.keepIn K (.ref f_read_log) = true)
    (a__law_draw : PySem.W.nsIn K mainGlobals "_law_draw" = some (some (.ref f__law_draw)))
    (l__law_draw : K.lookup f__law_draw = some ⟨oc8, od8, .func (PySem.W.fnOf "_law_draw" "_law_draw" (defArgs s__law_draw) (defBody s__law_draw) (defScope s__law_draw) .none kV8 dc8 pm8 an8 cd8 ct8), sl8⟩)
    (c__law_draw : PySem.W.codeIn K cd8 "_law_draw" = true)
    (k__law_draw : PySem.W.keepIn K (.ref f__law_draw) = true)
    (a__law_pick : PySem.W.nsIn K mainGlobals "_law_pick" = some (some (.ref f__law_pick)))
    (l__law_pick : K.lookup f__law_pick = some ⟨oc9, od9, .func (PySem.W.fnOf "_law_pick" "_law_pick" (defArgs s__law_pick) (defBody s__law_pick) (defScope s__law_pick) .none kV9 dc9 pm9 an9 cd9 ct9), sl9⟩)
    (c__law_pick : PySem.W.codeIn K cd9 "_law_pick" = true)
    (k__law_pick : PySem.W.keepIn K (.ref f__law_pick) = true)
    (a__law_step : PySem.W.nsIn K mainGlobals "_law_step" = some (some (.ref f__law_step)))
    (l__law_step : K.lookup f__law_step = some ⟨oc10, od10, .func (PySem.W.fnOf "_law_step" "_law_step" (defArgs s__law_step) (defBody s__law_step) (defScope s__law_step) .none kV10 dc10 pm10 an10 cd10 ct10), sl10⟩)
    (c__law_step : PySem.W.codeIn K cd10 "_law_step" = true)
    (k__law_step : PySem.W.keepIn K (.ref f__law_step) = true)
    (a__law_steps : PySem.W.nsIn K mainGlobals "_law_steps" = some (some (.ref f__law_steps)))
    (l__law_steps : K.lookup f__law_steps = some ⟨oc11, od11, .func (PySem.W.fnOf "_law_steps" "_law_steps" (defArgs s__law_steps) (defBody s__law_steps) (defScope s__law_steps) .none kV11 dc11 pm11 an11 cd11 ct11), sl11⟩)
    (c__law_steps : PySem.W.codeIn K cd11 "_law_steps" = true)
    (k__law_steps : PySem.W.keepIn K (.ref f__law_steps) = true)
    (a__law_odd : PySem.W.nsIn K mainGlobals "_law_odd" = some (some (.ref f__law_odd)))
    (l__law_odd : K.lookup f__law_odd = some ⟨oc12, od12, .func (PySem.W.fnOf "_law_odd" "_law_odd" (defArgs s__law_odd) (defBody s__law_odd) (defScope s__law_odd) .none kV12 dc12 pm12 an12 cd12 ct12), sl12⟩)
    (c__law_odd : PySem.W.codeIn K cd12 "_law_odd" = true)
    (k__law_odd : PySem.W.keepIn K (.ref f__law_odd) = true)
    (a__law_bent : PySem.W.nsIn K mainGlobals "_law_bent" = some (some (.ref f__law_bent)))
    (l__law_bent : K.lookup f__law_bent = some ⟨oc13, od13, .func (PySem.W.fnOf "_law_bent" "_law_bent" (defArgs s__law_bent) (defBody s__law_bent) (defScope s__law_bent) .none kV13 dc13 pm13 an13 cd13 ct13), sl13⟩)
    (c__law_bent : PySem.W.codeIn K cd13 "_law_bent" = true)
    (k__law_bent : PySem.W.keepIn K (.ref f__law_bent) = true)
    (a__law_is_full : PySem.W.nsIn K mainGlobals "_law_is_full" = some (some (.ref f__law_is_full)))
    (l__law_is_full : K.lookup f__law_is_full = some ⟨oc14, od14, .func (PySem.W.fnOf "_law_is_full" "_law_is_full" (defArgs s__law_is_full) (defBody s__law_is_full) (defScope s__law_is_full) .none kV14 dc14 pm14 an14 cd14 ct14), sl14⟩)
    (c__law_is_full : PySem.W.codeIn K cd14 "_law_is_full" = true)
    (k__law_is_full : PySem.W.keepIn K (.ref f__law_is_full) = true)
    (a__law_due : PySem.W.nsIn K mainGlobals "_law_due" = some (some (.ref f__law_due)))
    (l__law_due : K.lookup f__law_due = some ⟨oc15, od15, .func (PySem.W.fnOf "_law_due" "_law_due" (defArgs s__law_due) (defBody s__law_due) (defScope s__law_due) .none kV15 dc15 pm15 an15 cd15 ct15), sl15⟩)
    (c__law_due : PySem.W.codeIn K cd15 "_law_due" = true)
    (k__law_due : PySem.W.keepIn K (.ref f__law_due) = true)
    (a__law_right : PySem.W.nsIn K mainGlobals "_law_right" = some (some (.ref f__law_right)))
    (l__law_right : K.lookup f__law_right = some ⟨oc16, od16, .func (PySem.W.fnOf "_law_right" "_law_right" (defArgs s__law_right) (defBody s__law_right) (defScope s__law_right) .none kV16 dc16 pm16 an16 (.ref code__law_right) ct16), sl16⟩)
    (c__law_right : PySem.W.codeIn K (.ref code__law_right) "_law_right" = true)
    (tco__law_right : K.lookup code__law_right = some ⟨tcl__law_right, tdd__law_right, .fields tvs__law_right, tcs__law_right⟩)
    (ttb__law_right : tvs__law_right[11]? = some (.ref tab__law_right))
    (k__law_right : PySem.W.keepIn K (.ref f__law_right) = true)
    (a__law_refused : PySem.W.nsIn K mainGlobals "_law_refused" = some (some (.ref f__law_refused)))
    (l__law_refused : K.lookup f__law_refused = some ⟨oc17, od17, .func (PySem.W.fnOf "_law_refused" "_law_refused" (defArgs s__law_refused) (defBody s__law_refused) (defScope s__law_refused) .none kV17 dc17 pm17 an17 cd17 ct17), sl17⟩)
    (c__law_refused : PySem.W.codeIn K cd17 "_law_refused" = true)
    (k__law_refused : PySem.W.keepIn K (.ref f__law_refused) = true)
    (a__law_row_at : PySem.W.nsIn K mainGlobals "_law_row_at" = some (some (.ref f__law_row_at)))
    (l__law_row_at : K.lookup f__law_row_at = some ⟨oc18, od18, .func (PySem.W.fnOf "_law_row_at" "_law_row_at" (defArgs s__law_row_at) (defBody s__law_row_at) (defScope s__law_row_at) .none kV18 dc18 pm18 an18 cd18 ct18), sl18⟩)
    (c__law_row_at : PySem.W.codeIn K cd18 "_law_row_at" = true)
    (k__law_row_at : PySem.W.keepIn K (.ref f__law_row_at) = true)
    (a__law_begin : PySem.W.nsIn K mainGlobals "_law_begin" = some (some (.ref f__law_begin)))
    (l__law_begin : K.lookup f__law_begin = some ⟨oc19, od19, .func (PySem.W.fnOf "_law_begin" "_law_begin" (defArgs s_begin) (defBody s_begin) (defScope s_begin) .none kV19 dc19 pm19 an19 cd19 ct19), sl19⟩)
    (c__law_begin : PySem.W.codeIn K cd19 "_law_begin" = true)
    (k__law_begin : PySem.W.keepIn K (.ref f__law_begin) = true)
    (a_law : PySem.W.nsIn K mainGlobals "law" = some (some (.ref f_law)))
    (l_law : K.lookup f_law = some ⟨oc20, od20, .func (PySem.W.fnOf "law" "law" (defArgs s_law) (defBody s_law) (defScope s_law) .none kV20 dc20 pm20 an20 (.ref code_law) ct20), sl20⟩)
    (c_law : PySem.W.codeIn K (.ref code_law) "law" = true)
    (tco_law : K.lookup code_law = some ⟨tcl_law, tdd_law, .fields tvs_law, tcs_law⟩)
    (ttb_law : tvs_law[11]? = some (.ref tab_law))
    (k_law : PySem.W.keepIn K (.ref f_law) = true)
    (aC_NoRow : PySem.W.nsIn K mainGlobals "NoRow" = some (some (.ref C_NoRow)))
    (xL_NoRow : K.lookup C_NoRow = some (excClassObj nm_NoRow q_NoRow C_NoRow N_NoRow bs_NoRow [.ref S_NoRow, .type "ValueError", .type "Exception", .type "BaseException", .type "object"] true sn_NoRow sub_NoRow ab_NoRow col_NoRow dd_NoRow m0_NoRow m1_NoRow m2_NoRow m3_NoRow m5_NoRow "ValueError.__new__"))
    (sa_NoRow : PySem.W.findIn K (.ref C_NoRow) "__setattr__" = some (some (.builtin "object.__setattr__")))
    (eC_NoRow : PySem.W.subIn K (.ref C_NoRow) (.type "BaseException") = some true)
    (tC_NoRow : PySem.W.typeIn K (.ref C_NoRow) = some (.type "type"))
    (kC_NoRow : PySem.W.keepIn K (.ref C_NoRow) = true)
    (no_NoRow : PySem.W.findIn K (.ref C_NoRow) "at" = some none)
    (su_NoRow : PySem.W.ks_superIn K C_NoRow C_NoRow "__init__" = some (some (.builtin "ValueError.__init__")))
    (vl_NoRow : PySem.W.subIn K (.ref C_NoRow) (.type "ValueError") = some true)
    (ow_NoRow : PySem.W.mroIn K C_NoRow (.ref C_NoRow) = some true)
    (th_NoRow : PySem.W.nsIn K cStatics "thirdparty.any" = some none)
    (tp_NoRow : (P.main.scope.names.lookup ("super" : Str)).isSome = false)
    (iC_NoRow : PySem.W.findIn K (.ref C_NoRow) "__init__" = some (some (.ref f_NoRow___init__)))
    (tI_NoRow : PySem.W.typeIn K (.ref f_NoRow___init__) = some (.type "function"))
    (lk_NoRow : K.lookup f_NoRow___init__ = some ⟨oc_NoRow, od_NoRow, .func (PySem.W.ksFn "__init__" "NoRow.__init__" (defArgs s_NoRow___init__) (defBody s_NoRow___init__) (defScope s_NoRow___init__) .none kV_NoRow doc_NoRow pm_NoRow an_NoRow (.ref cda_NoRow) ct_NoRow cc_NoRow), osl_NoRow⟩)
    (cd_NoRow : PySem.W.codeIn K (.ref cda_NoRow) "NoRow.__init__" = true)
    (co_NoRow : K.lookup cda_NoRow = some ⟨ccl_NoRow, cdd_NoRow, .fields vs_NoRow, ccs_NoRow⟩)
    (vs_NoRow_ : vs_NoRow[2]? = some (.str file_NoRow tf_NoRow))
    (fl_NoRow : ((P.main.file : Str) == file_NoRow) = true)
    (ce_NoRow : K.lookup cc_NoRow = some ⟨cl_NoRow, cld_NoRow, .cell (some (.ref C_NoRow)), csl_NoRow⟩)
    (is_NoRow : PySem.W.isClsIn K C_NoRow = true)
    (ss_NoRow : PySem.W.subIn K (.ref C_NoRow) (.ref C_NoRow) = some true)
    (aC_NoAgain : PySem.W.nsIn K mainGlobals "NoAgain" = some (some (.ref C_NoAgain)))
    (aC_NoForm : PySem.W.nsIn K mainGlobals "NoForm" = some (some (.ref C_NoForm)))
    (aC_NoName : PySem.W.nsIn K mainGlobals "NoName" = some (some (.ref C_NoName)))
    (aC_NoStep : PySem.W.nsIn K mainGlobals "NoStep" = some (some (.ref C_NoStep)))
    (aC_NoText : PySem.W.nsIn K mainGlobals "NoText" = some (some (.ref C_NoText)))
    (aC_StepError : PySem.W.nsIn K mainGlobals "StepError" = some (some (.ref C_StepError)))
    (aC_TooMany : PySem.W.nsIn K mainGlobals "TooMany" = some (some (.ref C_TooMany)))
    (aC_Twice : PySem.W.nsIn K mainGlobals "Twice" = some (some (.ref C_Twice)))
    (xc_NoText : PySem.W.excIn K C_NoText [.type "ValueError", .type "Exception", .type "BaseException", .type "object"] "ValueError.__new__" = true)
    (xk_NoText : PySem.W.keepIn K (.ref C_NoText) = true)
    (xs_NoText : PySem.W.subIn K (.ref C_NoText) (.type "BaseException") = some true)
    (xt_NoText : PySem.W.typeIn K (.ref C_NoText) = some (.type "type"))
    (qcl_NoText : (PySem.W.clsIn K C_NoText).isSome = true)
    (qga_NoText : PySem.W.findIn K (.ref C_NoText) "__getattribute__" = some (some (.builtin "BaseException.__getattribute__")))
    (qgg_NoText : PySem.W.findIn K (.ref C_NoText) "__getattr__" = some none)
    (qbs_NoText : PySem.W.subIn K (.ref C_NoText) (.type "BaseException") = some true)
    (qhd_NoText : PySem.W.hasDictIn K C_NoText = true)
    (qca_NoText : PySem.W.findIn K (.ref C_NoText) "__class__" = some (some (.builtin "object.__class__")))
    (qcg_NoText : PySem.W.specialIn K (.builtin "object.__class__") "__get__" = some (some (.builtin "getset_descriptor.__get__")))
    (qct_NoText : PySem.W.takesIn K (.builtin "object.__class__") = some true)
    (qob_NoText : PySem.W.mroIn K C_NoText (.type "object") = some true)
    (qk_NoText_NoAgain : PySem.W.kitOne K (.ref C_NoText) (.ref C_NoAgain) = some false)
    (qk_NoText_NoForm : PySem.W.kitOne K (.ref C_NoText) (.ref C_NoForm) = some false)
    (qk_NoText_NoName : PySem.W.kitOne K (.ref C_NoText) (.ref C_NoName) = some false)
    (qk_NoText_NoRow : PySem.W.kitOne K (.ref C_NoText) (.ref C_NoRow) = some false)
    (qk_NoText_NoStep : PySem.W.kitOne K (.ref C_NoText) (.ref C_NoStep) = some false)
    (qk_NoText_NoText : PySem.W.kitOne K (.ref C_NoText) (.ref C_NoText) = some true)
    (qk_NoText_TooMany : PySem.W.kitOne K (.ref C_NoText) (.ref C_TooMany) = some false)
    (qk_NoText_Twice : PySem.W.kitOne K (.ref C_NoText) (.ref C_Twice) = some false)
    (qk_NoText_ValueError : PySem.W.kitOne K (.ref C_NoText) (.type "ValueError") = some true)
    (qe_NoText_StepError : PySem.W.exmOne K (.ref C_NoText) (.ref C_StepError) = some true)
    (qcl_NoRow : (PySem.W.clsIn K C_NoRow).isSome = true)
    (qga_NoRow : PySem.W.findIn K (.ref C_NoRow) "__getattribute__" = some (some (.builtin "BaseException.__getattribute__")))
    (qgg_NoRow : PySem.W.findIn K (.ref C_NoRow) "__getattr__" = some none)
    (qbs_NoRow : PySem.W.subIn K (.ref C_NoRow) (.type "BaseException") = some true)
    (qhd_NoRow : PySem.W.hasDictIn K C_NoRow = true)
    (qca_NoRow : PySem.W.findIn K (.ref C_NoRow) "__class__" = some (some (.builtin "object.__class__")))
    (qcg_NoRow : PySem.W.specialIn K (.builtin "object.__class__") "__get__" = some (some (.builtin "getset_descriptor.__get__")))
    (qct_NoRow : PySem.W.takesIn K (.builtin "object.__class__") = some true)
    (qob_NoRow : PySem.W.mroIn K C_NoRow (.type "object") = some true)
    (qk_NoRow_NoAgain : PySem.W.kitOne K (.ref C_NoRow) (.ref C_NoAgain) = some false)
    (qk_NoRow_NoForm : PySem.W.kitOne K (.ref C_NoRow) (.ref C_NoForm) = some false)
    (qk_NoRow_NoName : PySem.W.kitOne K (.ref C_NoRow) (.ref C_NoName) = some false)
    (qk_NoRow_NoRow : PySem.W.kitOne K (.ref C_NoRow) (.ref C_NoRow) = some true)
    (qk_NoRow_NoStep : PySem.W.kitOne K (.ref C_NoRow) (.ref C_NoStep) = some false)
    (qk_NoRow_NoText : PySem.W.kitOne K (.ref C_NoRow) (.ref C_NoText) = some false)
    (qk_NoRow_TooMany : PySem.W.kitOne K (.ref C_NoRow) (.ref C_TooMany) = some false)
    (qk_NoRow_Twice : PySem.W.kitOne K (.ref C_NoRow) (.ref C_Twice) = some false)
    (qk_NoRow_ValueError : PySem.W.kitOne K (.ref C_NoRow) (.type "ValueError") = some true)
    (qn_NoRow_at : PySem.W.findIn K (.ref C_NoRow) "at" = some none)
    (qe_NoRow_NoRow : PySem.W.exmOne K (.ref C_NoRow) (.ref C_NoRow) = some true)
    (qe_NoRow_StepError : PySem.W.exmOne K (.ref C_NoRow) (.ref C_StepError) = some true)
    (z_ValueError : PySem.W.nsIn K mainGlobals "ValueError" = some none)
    (z_all : PySem.W.nsIn K mainGlobals "all" = some none)
    (z_enumerate : PySem.W.nsIn K mainGlobals "enumerate" = some none)
    (z_int : PySem.W.nsIn K mainGlobals "int" = some none)
    (z_isinstance : PySem.W.nsIn K mainGlobals "isinstance" = some none)
    (z_len : PySem.W.nsIn K mainGlobals "len" = some none)
    (z_list : PySem.W.nsIn K mainGlobals "list" = some none)
    (z_min : PySem.W.nsIn K mainGlobals "min" = some none)
    (z_range : PySem.W.nsIn K mainGlobals "range" = some none)
    (z_repr : PySem.W.nsIn K mainGlobals "repr" = some none)
    (z_str : PySem.W.nsIn K mainGlobals "str" = some none)
    (z_super : PySem.W.nsIn K mainGlobals "super" = some none)
    (z_tuple : PySem.W.nsIn K mainGlobals "tuple" = some none)
    (z_abs : PySem.W.nsIn K mainGlobals "abs" = some none)
    (n_LETTERS : PySem.W.nsIn K mainGlobals "LETTERS" = some (some (.str "abcdefghijklmnopqrstuvwxyz" t_LETTERS)))
    (n_MOST_LETTERS : PySem.W.nsIn K mainGlobals "MOST_LETTERS" = some (some (.int 6 t_MOST_LETTERS)))
    (t_ne : tab__law_right ≠ tab_law) :
    ∃ fd : FuncData, (∀ (s : Shared) (u : Value), BindsTo s fd ⟨[u], []⟩ [("_law_script", u)]) ∧ ∀ base : Heap, K.In base → base.Ns mainGlobals mg → (∀ p ∈ [(code__law_right, tab__law_right), (code_law, tab_law)], TabB base mg p.1 p.2) → FnG P w K mg base (L2.CX P w) 7 fa fd ["_law_script"] (spL K [tab__law_right, tab_law]) := by
  have e := hfa.symm.trans (PySem.W.mg_of X G a_law)
  cases e
  have F_is_step := fun_mk (st := s_is_step) l_is_step c_is_step k_is_step
  have F_text_of := fun_mk (st := s_text_of) l_text_of c_text_of k_text_of
  have F_lines_of := fun_mk (st := s_lines_of) l_lines_of c_lines_of k_lines_of
  have F_is_full_row := fun_mk (st := s_is_full_row) l_is_full_row c_is_full_row k_is_full_row
  have F_need_rows := fun_mk (st := s_need_rows) l_need_rows c_need_rows k_need_rows
  have F_log_text := fun_mk (st := s_log_text) l_log_text c_log_text k_log_text
  have F_read_log := fun_mk (st := s_read_log) l_read_log c_read_log k_read_log
  have F__law_draw := fun_mk (st := s__law_draw) l__law_draw c__law_draw k__law_draw
  have F__law_pick := fun_mk (st := s__law_pick) l__law_pick c__law_pick k__law_pick
  have F__law_step := fun_mk (st := s__law_step) l__law_step c__law_step k__law_step
  have F__law_steps := fun_mk (st := s__law_steps) l__law_steps c__law_steps k__law_steps
  have F__law_odd := fun_mk (st := s__law_odd) l__law_odd c__law_odd k__law_odd
  have F__law_bent := fun_mk (st := s__law_bent) l__law_bent c__law_bent k__law_bent
  have F__law_is_full := fun_mk (st := s__law_is_full) l__law_is_full c__law_is_full k__law_is_full
  have F__law_due := fun_mk (st := s__law_due) l__law_due c__law_due k__law_due
  have F__law_right := fun_mk (st := s__law_right) l__law_right c__law_right k__law_right
  have F__law_refused := fun_mk (st := s__law_refused) l__law_refused c__law_refused k__law_refused
  have F__law_row_at := fun_mk (st := s__law_row_at) l__law_row_at c__law_row_at k__law_row_at
  have F__law_begin := fun_mk (st := s_begin) l__law_begin c__law_begin k__law_begin
  have F_law := fun_mk (st := s_law) l_law c_law k_law
  have TX : Txt K mg ⟨C_NoRow, C_NoAgain, C_NoForm, C_NoName, C_NoStep, C_NoText, C_StepError, C_TooMany, C_Twice, f__law_refused, f__law_row_at, code__law_right, tab__law_right, code_law, tab_law⟩ := { m_NoAgain := PySem.W.mg_of X G aC_NoAgain, m_NoForm := PySem.W.mg_of X G aC_NoForm, m_NoName := PySem.W.mg_of X G aC_NoName, m_NoStep := PySem.W.mg_of X G aC_NoStep, m_NoText := PySem.W.mg_of X G aC_NoText, m_StepError := PySem.W.mg_of X G aC_StepError, m_TooMany := PySem.W.mg_of X G aC_TooMany, m_Twice := PySem.W.mg_of X G aC_Twice, m__law_refused := PySem.W.mg_of X G a__law_refused, m__law_row_at := PySem.W.mg_of X G a__law_row_at, x0_NoText := ⟨xc_NoText, PySem.W.mg_of X G aC_NoText, xk_NoText, xs_NoText, xt_NoText⟩, m_NoRow := PySem.W.mg_of X G aC_NoRow, c_LETTERS := ConstAt.str (PySem.W.mg_of X G n_LETTERS), c_MOST_LETTERS := ConstAt.int (PySem.W.mg_of X G n_MOST_LETTERS), n_ValueError := PySem.W.mg_none_of X G z_ValueError, n_all := PySem.W.mg_none_of X G z_all, n_enumerate := PySem.W.mg_none_of X G z_enumerate, n_int := PySem.W.mg_none_of X G z_int, n_isinstance := PySem.W.mg_none_of X G z_isinstance, n_len := PySem.W.mg_none_of X G z_len, n_list := PySem.W.mg_none_of X G z_list, n_min := PySem.W.mg_none_of X G z_min, n_range := PySem.W.mg_none_of X G z_range, n_repr := PySem.W.mg_none_of X G z_repr, n_str := PySem.W.mg_none_of X G z_str, n_tuple := PySem.W.mg_none_of X G z_tuple }
  have TK : Txk K ⟨C_NoRow, C_NoAgain, C_NoForm, C_NoName, C_NoStep, C_NoText, C_StepError, C_TooMany, C_Twice, f__law_refused, f__law_row_at, code__law_right, tab__law_right, code_law, tab_law⟩ := { ask_NoText := ⟨qcl_NoText, qga_NoText, qgg_NoText, qbs_NoText, qhd_NoText, qca_NoText, qcg_NoText, qct_NoText, qob_NoText⟩, kb_NoText := ⟨by rw [show xb_NoText "NoAgain" = false from by decide +kernel]; exact qk_NoText_NoAgain, by rw [show xb_NoText "NoForm" = false from by decide +kernel]; exact qk_NoText_NoForm, by rw [show xb_NoText "NoName" = false from by decide +kernel]; exact qk_NoText_NoName, by rw [show xb_NoText "NoRow" = false from by decide +kernel]; exact qk_NoText_NoRow, by rw [show xb_NoText "NoStep" = false from by decide +kernel]; exact qk_NoText_NoStep, by rw [show xb_NoText "NoText" = true from by decide +kernel]; exact qk_NoText_NoText, by rw [show xb_NoText "TooMany" = false from by decide +kernel]; exact qk_NoText_TooMany, by rw [show xb_NoText "Twice" = false from by decide +kernel]; exact qk_NoText_Twice, by rw [show xb_NoText "ValueError" = true from by decide +kernel]; exact qk_NoText_ValueError⟩, exm_NoText_StepError := qe_NoText_StepError, ask_NoRow := ⟨qcl_NoRow, qga_NoRow, qgg_NoRow, qbs_NoRow, qhd_NoRow, qca_NoRow, qcg_NoRow, qct_NoRow, qob_NoRow⟩, kb_NoRow := ⟨by rw [show xb_NoRow "NoAgain" = false from by decide +kernel]; exact qk_NoRow_NoAgain, by rw [show xb_NoRow "NoForm" = false from by decide +kernel]; exact qk_NoRow_NoForm, by rw [show xb_NoRow "NoName" = false from by decide +kernel]; exact qk_NoRow_NoName, by rw [show xb_NoRow "NoRow" = true from by decide +kernel]; exact qk_NoRow_NoRow, by rw [show xb_NoRow "NoStep" = false from by decide +kernel]; exact qk_NoRow_NoStep, by rw [show xb_NoRow "NoText" = false from by decide +kernel]; exact qk_NoRow_NoText, by rw [show xb_NoRow "TooMany" = false from by decide +kernel]; exact qk_NoRow_TooMany, by rw [show xb_NoRow "Twice" = false from by decide +kernel]; exact qk_NoRow_Twice, by rw [show xb_NoRow "ValueError" = true from by decide +kernel]; exact qk_NoRow_ValueError⟩, nf_NoRow_at := qn_NoRow_at, exm_NoRow_NoRow := qe_NoRow_NoRow, exm_NoRow_StepError := qe_NoRow_StepError }
  have hu : ∀ p ∈ Ts ⟨C_NoRow, C_NoAgain, C_NoForm, C_NoName, C_NoStep, C_NoText, C_StepError, C_TooMany, C_Twice, f__law_refused, f__law_row_at, code__law_right, tab__law_right, code_law, tab_law⟩, ∀ q ∈ Ts ⟨C_NoRow, C_NoAgain, C_NoForm, C_NoName, C_NoStep, C_NoText, C_StepError, C_TooMany, C_Twice, f__law_refused, f__law_row_at, code__law_right, tab__law_right, code_law, tab_law⟩, q.1 = p.1 → q.2 = p.2 :=
    uniq2 t_ne
  have b_begin := F__law_begin.binds (ps := ["_law_script"]) fun _ _ _ _ _ _ us hl => match us, hl with | [_], _ => rfl
  refine ⟨PySem.W.fnOf "law" "law" (defArgs s_law) (defBody s_law) (defScope s_law) .none kV20 dc20 pm20 an20 (.ref code_law) ct20, fun s v => .of_eq rfl, fun base _ _ hTB => ?_⟩
  have X_NoRow := xi_NoRow (P := P) (w := w) (base := base) ⟨⟨⟨_, _, _, _, _, _, _, _, _, _, _, _, _, _, _, xL_NoRow, ve_ref (by decide +kernel)⟩, sa_NoRow, eC_NoRow, tC_NoRow, kC_NoRow⟩, no_NoRow, su_NoRow, vl_NoRow, ow_NoRow, th_NoRow, PySem.W.mg_none_of X G z_super, tp_NoRow⟩ lk_NoRow cd_NoRow co_NoRow vs_NoRow_ fl_NoRow ce_NoRow iC_NoRow tI_NoRow (PySem.W.mg_of X G aC_NoRow)
  have D_is_step := ok_is_step (P := P) (w := w) (base := base) (W := Dr) TX ⟨_, _, F_is_step, PySem.W.mg_of X G a_is_step⟩ 
  have D_text_of := ok_text_of (P := P) (w := w) (base := base) (W := Dr) TX ⟨_, _, F_text_of, PySem.W.mg_of X G a_text_of⟩ 
  have D_lines_of := ok_lines_of (P := P) (w := w) (base := base) (W := Dr) TX ⟨_, _, F_lines_of, PySem.W.mg_of X G a_lines_of⟩ 
  have D_is_full_row := ok_is_full_row (P := P) (w := w) (base := base) (W := Dr) TX ⟨_, _, F_is_full_row, PySem.W.mg_of X G a_is_full_row⟩ D_is_step
  have D_need_rows := ok_need_rows (P := P) (w := w) (base := base) (W := Dr) TX ⟨_, _, F_need_rows, PySem.W.mg_of X G a_need_rows⟩ D_is_full_row X_NoRow
  have D_log_text := ok_log_text (P := P) (w := w) (base := base) (W := Dr) TX ⟨_, _, F_log_text, PySem.W.mg_of X G a_log_text⟩ D_need_rows D_text_of
  have D_read_log := ok_read_log (P := P) (w := w) (base := base) (W := Dr) TX ⟨_, _, F_read_log, PySem.W.mg_of X G a_read_log⟩ D_lines_of D_is_full_row
  have D__law_draw := ok__law_draw (P := P) (w := w) (base := base) TX ⟨_, _, F__law_draw, PySem.W.mg_of X G a__law_draw⟩ 
  have D__law_pick := ok__law_pick (P := P) (w := w) (base := base) TX ⟨_, _, F__law_pick, PySem.W.mg_of X G a__law_pick⟩ D__law_draw
  have D__law_step := ok__law_step (P := P) (w := w) (base := base) TX ⟨_, _, F__law_step, PySem.W.mg_of X G a__law_step⟩ D__law_draw D__law_pick
  have D__law_steps := ok__law_steps (P := P) (w := w) (base := base) TX ⟨_, _, F__law_steps, PySem.W.mg_of X G a__law_steps⟩ D__law_step
  have D__law_odd := ok__law_odd (P := P) (w := w) (base := base) TX ⟨_, _, F__law_odd, PySem.W.mg_of X G a__law_odd⟩ D__law_pick
  have D__law_bent := ok__law_bent (P := P) (w := w) (base := base) TX ⟨_, _, F__law_bent, PySem.W.mg_of X G a__law_bent⟩ D__law_draw D__law_pick
  have D__law_is_full := ok__law_is_full (P := P) (w := w) (base := base) (W := Dr) TX ⟨_, _, F__law_is_full, PySem.W.mg_of X G a__law_is_full⟩ 
  have D__law_due := ok__law_due (P := P) (w := w) (base := base) (W := Dr) TX ⟨_, _, F__law_due, PySem.W.mg_of X G a__law_due⟩ D__law_is_full
  have D__law_right := ok__law_right (P := P) (w := w) (base := base) (W := Dr) TX ⟨_, _, _, _, _, _, _, _, _, l__law_right, c__law_right, k__law_right, PySem.W.mg_of X G a__law_right⟩ D__law_is_full D_read_log D_log_text TK ⟨_, F__law_refused⟩ (hTB (code__law_right, tab__law_right) (by simp))
  exact ok_law TX (plain _) hu l_law c_law (ok_begin (PySem.W.mg_none_of X G z_abs) F__law_begin) (PySem.W.mg_of X G a__law_begin) k__law_begin b_begin D__law_draw D__law_steps D__law_pick D__law_right D_log_text D__law_bent D__law_odd D__law_due D_read_log TK ⟨_, F__law_row_at⟩ ⟨_, F__law_refused⟩ (hTB (code_law, tab_law) (by simp))
theorem walkL {l : PySem.W.OpenLaw} {q : Program} {loose : List Str} {XP : (Str → Option Value) → Heap → Prop} {YP : World → Heap → Prop} {d : DefRec} {K : Params → PySem.W.Frag} {code__law_right tab__law_right code_law tab_law : Addr} (hn : l.most = some 63) (hdf : d.params.defaults = [])
    (hY : ∀ (w : World) (h : Heap), YP w h → (K w.params).In h)
    (F : ∀ (w : World) (mg : Str → Option Value) (fa : Addr) (h : Heap), (K w.params).In h → h.Ns mainGlobals mg → mg d.name = some (.ref fa) →
      ∃ fd : FuncData, (∀ (s : Shared) (u : Value), BindsTo s fd ⟨[u], []⟩ [("_law_script", u)]) ∧ ∀ base : Heap, (K w.params).In base → base.Ns mainGlobals mg → (∀ p ∈ [(code__law_right, tab__law_right), (code_law, tab_law)], TabB base mg p.1 p.2) → FnG l.prog w (K w.params) mg base (L2.CX l.prog w) 7 fa fd ["_law_script"] (spL (K w.params) [tab__law_right, tab_law]))
    (hT : ∀ (w : World) (h : Heap), YP w h → ∀ p ∈ [(code__law_right, tab__law_right), (code_law, tab_law)], PySem.W.CodeHd h p.1 p.2 ∧ h.get? p.2 = some (PySem.W.tabObj #[]) ∧ (K w.params).lookup p.2 = none) :
    PySem.W.WalkO q loose XP YP l.row.toRowW d [] (fun f vs => PySem.call f vs) :=
  walk_ofTG (n := 63) (k := 7) (x := "_law_script") (cs := [(code__law_right, tab__law_right), (code_law, tab_law)]) (CX := fun w => L2.CX l.prog w) (sp := fun w => spL (K w.params) [tab__law_right, tab_law]) hn (by decide) hdf ⟨rfl, by decide, by decide⟩ hY hT F (fun w H a ns hl hT hS => ⟨a, ns, rfl, hS, hl, (fun t ht => by
    simp only [List.mem_cons, List.not_mem_nil, or_false] at ht
    rcases ht with e | e
    · rw [e]; exact hT (code__law_right, tab__law_right) (by simp)
    · rw [e]; exact hT (code_law, tab_law) (by simp)), fun _ => rfl⟩) (fun _ _ _ _ _ z => by
    obtain ⟨_, _, _, _, _, _, _, _, _, _, _, _, z⟩ := z
    exact z)
end PL

set_option maxHeartbeats 4000000
open PySem PySem.W PyProof.Rows
set_option maxRecDepth 100000 in
set_option maxHeartbeats 0 in
set_option pp.maxSteps 300 in
set_option pp.deepTerms false in
theorem PySem.Challenge.cw_nextsteps_k74_log_texts_holds : PySem.Challenge.rw_nextsteps_k74_log_texts.Holds := by
  w_on; o_law; k_head; (case hw => w_witness2)
  k_fill
  refine' PL.walkL (l := PySem.Challenge.rw_nextsteps_k74_log_texts) rfl rfl (fun w h Y => PySem.W.km_in_of Y) ?F ?hT
  case F =>
    intro w mg fa h KX G hmg
    refine' PL.all_mk KX G hmg ?a_is_step ?l_is_step ?c_is_step ?k_is_step ?a_text_of ?l_text_of ?c_text_of ?k_text_of ?a_lines_of ?l_lines_of ?c_lines_of ?k_lines_of ?a_is_full_row ?l_is_full_row ?c_is_full_row ?k_is_full_row ?a_need_rows ?l_need_rows ?c_need_rows ?k_need_rows ?a_log_text ?l_log_text ?c_log_text ?k_log_text ?a_read_log ?l_read_log ?c_read_log ?k_read_log ?a__law_draw ?l__law_draw ?c__law_draw ?k__law_draw ?a__law_pick ?l__law_pick ?c__law_pick ?k__law_pick ?a__law_step ?l__law_step ?c__law_step ?k__law_step ?a__law_steps ?l__law_steps ?c__law_steps ?k__law_steps ?a__law_odd ?l__law_odd ?c__law_odd ?k__law_odd ?a__law_bent ?l__law_bent ?c__law_bent ?k__law_bent ?a__law_is_full ?l__law_is_full ?c__law_is_full ?k__law_is_full ?a__law_due ?l__law_due ?c__law_due ?k__law_due ?a__law_right ?l__law_right ?c__law_right ?tco__law_right ?ttb__law_right ?k__law_right ?a__law_refused ?l__law_refused ?c__law_refused ?k__law_refused ?a__law_row_at ?l__law_row_at ?c__law_row_at ?k__law_row_at ?a__law_begin ?l__law_begin ?c__law_begin ?k__law_begin ?a_law ?l_law ?c_law ?tco_law ?ttb_law ?k_law ?aC_NoRow ?xL_NoRow ?sa_NoRow ?eC_NoRow ?tC_NoRow ?kC_NoRow ?no_NoRow ?su_NoRow ?vl_NoRow ?ow_NoRow ?th_NoRow ?tp_NoRow ?iC_NoRow ?tI_NoRow ?lk_NoRow ?cd_NoRow ?co_NoRow ?vs_NoRow_ ?fl_NoRow ?ce_NoRow ?is_NoRow ?ss_NoRow ?aC_NoAgain ?aC_NoForm ?aC_NoName ?aC_NoStep ?aC_NoText ?aC_StepError ?aC_TooMany ?aC_Twice ?xc_NoText ?xk_NoText ?xs_NoText ?xt_NoText ?qcl_NoText ?qga_NoText ?qgg_NoText ?qbs_NoText ?qhd_NoText ?qca_NoText ?qcg_NoText ?qct_NoText ?qob_NoText ?qk_NoText_NoAgain ?qk_NoText_NoForm ?qk_NoText_NoName ?qk_NoText_NoRow ?qk_NoText_NoStep ?qk_NoText_NoText ?qk_NoText_TooMany ?qk_NoText_Twice ?qk_NoText_ValueError ?qe_NoText_StepError ?qcl_NoRow ?qga_NoRow ?qgg_NoRow ?qbs_NoRow ?qhd_NoRow ?qca_NoRow ?qcg_NoRow ?qct_NoRow ?qob_NoRow ?qk_NoRow_NoAgain ?qk_NoRow_NoForm ?qk_NoRow_NoName ?qk_NoRow_NoRow ?qk_NoRow_NoStep ?qk_NoRow_NoText ?qk_NoRow_TooMany ?qk_NoRow_Twice ?qk_NoRow_ValueError ?qn_NoRow_at ?qe_NoRow_NoRow ?qe_NoRow_StepError ?z_ValueError ?z_all ?z_enumerate ?z_int ?z_isinstance ?z_len ?z_list ?z_min ?z_range ?z_repr ?z_str ?z_super ?z_tuple ?z_abs ?n_LETTERS ?n_MOST_LETTERS ?t_ne
    (case a_is_step => k_is)
    (case l_is_step => k_is)
    (case c_is_step => k_is)
    (case k_is_step => k_is)
    (case a_text_of => k_is)
    (case l_text_of => k_is)
    (case c_text_of => k_is)
    (case k_text_of => k_is)
    (case a_lines_of => k_is)
    (case l_lines_of => k_is)
    (case c_lines_of => k_is)
    (case k_lines_of => k_is)
    (case a_is_full_row => k_is)
    (case l_is_full_row => k_is)
    (case c_is_full_row => k_is)
    (case k_is_full_row => k_is)
    (case a_need_rows => k_is)
    (case l_need_rows => k_is)
    (case c_need_rows => k_is)
    (case k_need_rows => k_is)
    (case a_log_text => k_is)
    (case l_log_text => k_is)
    (case c_log_text => k_is)
    (case k_log_text => k_is)
    (case a_read_log => k_is)
    (case l_read_log => k_is)
    (case c_read_log => k_is)
    (case k_read_log => k_is)
    (case a__law_draw => k_is)
    (case l__law_draw => k_is)
    (case c__law_draw => k_is)
    (case k__law_draw => k_is)
    (case a__law_pick => k_is)
    (case l__law_pick => k_is)
    (case c__law_pick => k_is)
    (case k__law_pick => k_is)
    (case a__law_step => k_is)
    (case l__law_step => k_is)
    (case c__law_step => k_is)
    (case k__law_step => k_is)
    (case a__law_steps => k_is)
    (case l__law_steps => k_is)
    (case c__law_steps => k_is)
    (case k__law_steps => k_is)
    (case a__law_odd => k_is)
    (case l__law_odd => k_is)
    (case c__law_odd => k_is)
    (case k__law_odd => k_is)
    (case a__law_bent => k_is)
    (case l__law_bent => k_is)
    (case c__law_bent => k_is)
    (case k__law_bent => k_is)
    (case a__law_is_full => k_is)
    (case l__law_is_full => k_is)
    (case c__law_is_full => k_is)
    (case k__law_is_full => k_is)
    (case a__law_due => k_is)
    (case l__law_due => k_is)
    (case c__law_due => k_is)
    (case k__law_due => k_is)
    (case a__law_right => k_is)
    (case l__law_right => k_is)
    (case c__law_right => k_is)
    (case tco__law_right => k_is)
    (case ttb__law_right => first | exact rfl | (simp; done) | fail "table")
    (case k__law_right => k_is)
    (case a__law_refused => k_is)
    (case l__law_refused => k_is)
    (case c__law_refused => k_is)
    (case k__law_refused => k_is)
    (case a__law_row_at => k_is)
    (case l__law_row_at => k_is)
    (case c__law_row_at => k_is)
    (case k__law_row_at => k_is)
    (case a__law_begin => k_is)
    (case l__law_begin => k_is)
    (case c__law_begin => k_is)
    (case k__law_begin => k_is)
    (case a_law => k_is)
    (case l_law => k_is)
    (case c_law => k_is)
    (case tco_law => k_is)
    (case ttb_law => first | exact rfl | (simp; done) | fail "table")
    (case k_law => k_is)
    (case aC_NoRow => k_is)
    (case xL_NoRow => k_is)
    (case sa_NoRow => k_is)
    (case eC_NoRow => k_is)
    (case tC_NoRow => k_is)
    (case kC_NoRow => k_is)
    (case no_NoRow => k_is)
    (case su_NoRow => first | k_is | ks_is | fail "su")
    (case vl_NoRow => k_is)
    (case ow_NoRow => k_is)
    (case th_NoRow => k_is)
    (case tp_NoRow => first | decide +kernel | kernel_rfl | rfl | fail "tp")
    (case iC_NoRow => k_is)
    (case tI_NoRow => k_is)
    (case lk_NoRow => k_is)
    (case cd_NoRow => k_is)
    (case co_NoRow => k_is)
    (case vs_NoRow_ => first | exact rfl | (simp; done) | fail "vs")
    (case fl_NoRow => first | decide +kernel | kernel_rfl | rfl | fail "fl")
    (case ce_NoRow => k_is)
    (case is_NoRow => k_is)
    (case ss_NoRow => first | rfl | k_is)
    (case aC_NoAgain => k_is)
    (case aC_NoForm => k_is)
    (case aC_NoName => k_is)
    (case aC_NoStep => k_is)
    (case aC_NoText => k_is)
    (case aC_StepError => k_is)
    (case aC_TooMany => k_is)
    (case aC_Twice => k_is)
    (case xc_NoText => kernel_rfl)
    (case xk_NoText => k_is)
    (case xs_NoText => k_is)
    (case xt_NoText => k_is)
    (case qcl_NoText => kernel_rfl)
    (case qga_NoText => k_is)
    (case qgg_NoText => k_is)
    (case qbs_NoText => k_is)
    (case qhd_NoText => k_is)
    (case qca_NoText => k_is)
    (case qcg_NoText => k_is)
    (case qct_NoText => k_is)
    (case qob_NoText => k_is)
    (case qk_NoText_NoAgain => kernel_rfl)
    (case qk_NoText_NoForm => kernel_rfl)
    (case qk_NoText_NoName => kernel_rfl)
    (case qk_NoText_NoRow => kernel_rfl)
    (case qk_NoText_NoStep => kernel_rfl)
    (case qk_NoText_NoText => kernel_rfl)
    (case qk_NoText_TooMany => kernel_rfl)
    (case qk_NoText_Twice => kernel_rfl)
    (case qk_NoText_ValueError => kernel_rfl)
    (case qe_NoText_StepError => kernel_rfl)
    (case qcl_NoRow => kernel_rfl)
    (case qga_NoRow => k_is)
    (case qgg_NoRow => k_is)
    (case qbs_NoRow => k_is)
    (case qhd_NoRow => k_is)
    (case qca_NoRow => k_is)
    (case qcg_NoRow => k_is)
    (case qct_NoRow => k_is)
    (case qob_NoRow => k_is)
    (case qk_NoRow_NoAgain => kernel_rfl)
    (case qk_NoRow_NoForm => kernel_rfl)
    (case qk_NoRow_NoName => kernel_rfl)
    (case qk_NoRow_NoRow => kernel_rfl)
    (case qk_NoRow_NoStep => kernel_rfl)
    (case qk_NoRow_NoText => kernel_rfl)
    (case qk_NoRow_TooMany => kernel_rfl)
    (case qk_NoRow_Twice => kernel_rfl)
    (case qk_NoRow_ValueError => kernel_rfl)
    (case qn_NoRow_at => k_is)
    (case qe_NoRow_NoRow => kernel_rfl)
    (case qe_NoRow_StepError => kernel_rfl)
    (case z_ValueError => k_is)
    (case z_all => k_is)
    (case z_enumerate => k_is)
    (case z_int => k_is)
    (case z_isinstance => k_is)
    (case z_len => k_is)
    (case z_list => k_is)
    (case z_min => k_is)
    (case z_range => k_is)
    (case z_repr => k_is)
    (case z_str => k_is)
    (case z_super => k_is)
    (case z_tuple => k_is)
    (case z_abs => k_is)
    (case n_LETTERS => k_is)
    (case n_MOST_LETTERS => k_is)
    (case t_ne => decide)
  case hT =>
    intro w h Y p hp
    simp only [List.mem_cons, List.not_mem_nil, or_false] at hp
    rcases hp with rfl | rfl <;> exact ⟨PySem.W.codeHd_of_K (PySem.W.km_in_of Y) (by kernel_rfl), PySem.W.km_tabs_of Y _ (by decide), by kernel_rfl⟩
#print axioms PySem.Challenge.cw_nextsteps_k74_log_texts_holds

