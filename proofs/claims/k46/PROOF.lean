import PyProof.Rows.All
import HandS.ForMost
import HandS.Walk
import HandS.Zip
import KE.Datum
import KE.DataEq
import HandS.TupAny
import HandS.Wide
import HandS.Style
import HandS.IsInst
import HandS.SortInts
import KE.DataMinMax
import HandS.Deep
import HandS.Strs
import KE.DataAny
import HandS.Comp
import HandS.Words
import HandS.Defaults
import HandS.SetFor
import HandS.Conv
import HandS.Star
import PyProof.WalkInts
import PyProof.WalksMore
import PyProof.SumWalkG
import PyProof.MeetsSeq
import KE.GoesZip
import KE.GoesMore
import KE.GoesEnum
import PyProof.ListNew
import HandS.WideBits
import PySem.Challenge.RW_beforeitcomes_k46_whole_prices_as_cost_t
import HandS.Base
import HandS.Call
import HandS.Ends
import HandS.More
import HandS.WordsExc
import HandS.Head0
import HandS.Head1
import HandS.Head2
import HandS.HeadEnd
import HandS.HeadHook1
import HandS.HeadHook2
import KE.KStateDown
import Wide.All
import OpenK.AllK
import Wide.FinOn
-- part DL0
set_option Elab.async false
set_option linter.all false
set_option maxRecDepth 100000
set_option maxHeartbeats 1000000
/-! DL0: a layer over HandS: each expression and statement is a Lean function of the def's slots, over deep data (PyData by Dp). -/
namespace L2
open PySem PySem.Spec PyProof.Rows

abbrev D := PyData

/-! ### deep data under a growing heap -/
theorem Rd.up {F G : Hp} {a : Addr} {u : HO} (e : Same F G) (h : Rd F a u) : Rd G a u := by
  rcases h with h | ⟨o, h⟩
  · exact .inl (e _ _ h)
  · exact .inr ⟨o, e _ _ h⟩
theorem sqL_up {K : PySem.W.Frag} {F G : Hp} {a : Addr} {xs : List V} (e : Same F G) (h : SqL K F a xs) : SqL K G a xs := by
  rcases h with h | h
  · exact .inl (Rd.up e h)
  · exact .inr h
theorem sqT_up {K : PySem.W.Frag} {F G : Hp} {a : Addr} {xs : List V} (e : Same F G) (h : SqT K F a xs) : SqT K G a xs := by
  rcases h with h | h
  · exact .inl (Rd.up e h)
  · exact .inr h
mutual
theorem Dp.up {K : PySem.W.Frag} {F G : Hp} (e : Same F G) : ∀ (d : D) (v : V), Dp K F v d → Dp K G v d
  | .none, _, h => by cases h; exact .non
  | .bool b, _, h => by cases h; exact .bl b
  | .int i, _, h => by cases h; exact .int i
  | .str x, _, h => by cases h; exact .str x
  | .list ds, _, h => by
    cases h with
    | lst h1 h2 => exact .lst (sqL_up e h1) (DpAll.up e ds _ h2)
  | .tuple ds, _, h => by
    cases h with
    | tup h1 h2 => exact .tup (sqT_up e h1) (DpAll.up e ds _ h2)
  | .dict _, _, h => by cases h
theorem DpAll.up {K : PySem.W.Frag} {F G : Hp} (e : Same F G) : ∀ (ds : List D) (vs : List V), DpAll K F vs ds → DpAll K G vs ds
  | [], vs, h => by
    cases vs with
    | nil => exact .nil
    | cons v vs => cases h
  | d :: ds, vs, h => by
    cases vs with
    | nil => cases h
    | cons v vs =>
      cases h with
      | cons h1 h2 => exact .cons (Dp.up e d v h1) (DpAll.up e ds vs h2)
end
section
variable {K : PySem.W.Frag} {F : Hp}
theorem DpAll.len : ∀ {vs : List V} {ds : List D}, DpAll K F vs ds → vs.length = ds.length
  | _, _, .nil => rfl
  | _, _, .cons _ t => by simp [DpAll.len t]
theorem DpAll.get : ∀ {vs : List V} {ds : List D} {i : Nat} {d : D}, DpAll K F vs ds → ds[i]? = some d → ∃ v, vs[i]? = some v ∧ Dp K F v d
  | [], [], _, _, _, e => by simp at e
  | v :: _, d :: _, 0, _, .cons h _, e => by
    simp at e
    subst e
    exact ⟨v, rfl, h⟩
  | _ :: vs, _ :: ds, i + 1, _, .cons _ t, e => by
    obtain ⟨v, h1, h2⟩ := DpAll.get (i := i) t (by simpa using e)
    exact ⟨v, by simpa using h1, h2⟩
theorem DpAll.getV : ∀ {vs : List V} {ds : List D} {i : Nat} {v : V}, DpAll K F vs ds → vs[i]? = some v → ∃ d, ds[i]? = some d ∧ Dp K F v d
  | [], [], _, _, _, e => by simp at e
  | v :: _, d :: _, 0, _, .cons h _, e => by
    simp at e
    subst e
    exact ⟨d, rfl, h⟩
  | _ :: vs, _ :: ds, i + 1, _, .cons _ t, e => by
    obtain ⟨v, h1, h2⟩ := DpAll.getV (i := i) t (by simpa using e)
    exact ⟨v, by simpa using h1, h2⟩
theorem DpAll.append : ∀ {vs ws : List V} {ds es : List D}, DpAll K F vs ds → DpAll K F ws es → DpAll K F (vs ++ ws) (ds ++ es)
  | [], _, [], _, _, t => t
  | _ :: _, _, _ :: _, _, .cons h s, t => .cons h (DpAll.append s t)
theorem DpAll.take : ∀ {vs : List V} {ds : List D} (n : Nat), DpAll K F vs ds → DpAll K F (vs.take n) (ds.take n)
  | _, _, 0, _ => by simpa using DpAll.nil
  | [], [], _ + 1, _ => by simpa using DpAll.nil
  | _ :: _, _ :: _, n + 1, .cons h t => by simpa using DpAll.cons h (DpAll.take n t)
theorem DpAll.drop : ∀ {vs : List V} {ds : List D} (n : Nat), DpAll K F vs ds → DpAll K F (vs.drop n) (ds.drop n)
  | _, _, 0, h => by simpa using h
  | [], [], _ + 1, _ => by simpa using DpAll.nil
  | _ :: _, _ :: _, n + 1, .cons _ t => by simpa using DpAll.drop n t
theorem DpAll.set : ∀ {vs : List V} {ds : List D} {v : V} {d : D} (n : Nat), DpAll K F vs ds → Dp K F v d → DpAll K F (vs.set n v) (ds.set n d)
  | [], [], _, _, _, _, _ => by simpa using DpAll.nil
  | _ :: _, _ :: _, _, _, 0, .cons _ t, h => by simpa using DpAll.cons h t
  | _ :: _, _ :: _, _, _, n + 1, .cons g t, h => by simpa using DpAll.cons g (DpAll.set n t h)
theorem DpAll.ints : ∀ {vs : List V} {ns : List Int}, DpAll K F vs (ns.map PyData.int) → vs = ns.map V.int
  | [], [], _ => rfl
  | v :: vs, n :: ns, h => by
    cases h with
    | cons h t =>
      cases h
      simp [DpAll.ints t]
theorem DpAll.bools : ∀ {vs : List V} {bs : List Bool}, DpAll K F vs (bs.map PyData.bool) → vs = bs.map V.bl
  | [], [], _ => rfl
  | v :: vs, n :: ns, h => by
    cases h with
    | cons h t =>
      cases h
      simp [DpAll.bools t]
theorem DpAll.of_ints : ∀ (ns : List Int), DpAll K F (ns.map V.int) (ns.map PyData.int)
  | [] => .nil
  | n :: ns => .cons (.int n) (DpAll.of_ints ns)
end

end L2
namespace DL
open PySem PySem.Spec PyProof.Rows L2
/-! ### the slots, what is drawn from -/
/-- the law's source: its cells from the first one on, the present one, the mixed number, turns -/
structure Src where
  cells : List Int
  left : Int
  mixed : Int
  turn : Int
/-- a slot: nothing yet; data that stands still; a list of one's own; the source -/
inductive Slot where
  | un | fz (d : D) | own (ds : List D) | src
structure Sta where
  env : List Slot
  src : Src
structure Fr where
  H0 : Hp
  F0 : Hp
  ps : Addr
  pc : Addr
def kvSrc (pc : Addr) (s : Src) : List (Key × V) := [(.inr "cells", .ref pc), (.inr "left", .int s.left), (.inr "mixed", .int s.mixed), (.inr "turn", .int s.turn)]
structure SrcAt (ps pc : Addr) (s : Src) (H : Hp) : Prop where
  d : H ps = some (.dK (kvSrc pc s))
  l : H pc = some (.lst (s.cells.map V.int))
def SlotOk (K : PySem.W.Frag) (c : Fr) (F H : Hp) : Option V → Slot → Prop
  | _, .un => True
  | some v, .fz d => Dp K F v d
  | some v, .own ds => ∃ p vs, v = .ref p ∧ H p = some (.lst vs) ∧ DpAll K F vs ds ∧ F p = none ∧ c.H0 p = none
  | some v, .src => v = .ref c.ps
  | none, _ => False
structure Rel (K : PySem.W.Frag) (c : Fr) (F : Hp) (S : Sta) (σ : L2.St) (H : Hp) : Prop where
  f0 : Same c.F0 F
  fh : Same F H
  fr : ∀ a o, F a = some o → c.F0 a = some o ∨ c.H0 a = none
  kp : ∀ a o, c.H0 a = some o → a ≠ c.ps → a ≠ c.pc → H a = some o
  hs : c.H0 c.ps ≠ none
  hc : c.H0 c.pc ≠ none
  sr : SrcAt c.ps c.pc S.src H
  fs : F c.ps = none
  fc : F c.pc = none
  len : σ.length = S.env.length
  sl : ∀ (i : Nat) (x : Slot), S.env[i]? = some x → SlotOk K c F H (σ[i]?).join x
  sep : ∀ (i j : Nat) (a b : List D), i ≠ j → S.env[i]? = some (.own a) → S.env[j]? = some (.own b) → (σ[i]?).join ≠ (σ[j]?).join

section
variable {K : PySem.W.Frag} {c : Fr} {F H : Hp} {S : Sta} {σ : L2.St}
theorem upd_up {p : Addr} {o : HO} (h : H p = none) : Same H (upd H p o) := fun b x e => by
  rw [upd_ne (ne_of_none e h)]
  exact e
theorem SlotOk.mono {F' H' : Hp} {v : Option V} {x : Slot} (h : SlotOk K c F H v x) (e : Same F F')
    (k : ∀ p, F p = none → c.H0 p = none → (∃ vs, H p = some (.lst vs)) → F' p = none ∧ H' p = H p) : SlotOk K c F' H' v x := by
  cases x with
  | un => trivial
  | fz d =>
    cases v with
    | none => exact h
    | some v => exact Dp.up e d v h
  | own ds =>
    cases v with
    | none => exact h
    | some v =>
      obtain ⟨p, vs, h1, h2, h3, h4, h5⟩ := h
      obtain ⟨k1, k2⟩ := k p h4 h5 ⟨vs, h2⟩
      exact ⟨p, vs, h1, k2.trans h2, DpAll.up e ds vs h3, k1, h5⟩
  | src =>
    cases v with
    | none => exact h
    | some v => exact h
/-- a new object that stands still -/
theorem Rel.alloc {p : Addr} {o : HO} (r : Rel K c F S σ H) (h : H p = none) : Rel K c (upd F p o) S σ (upd H p o) := by
  have fp : F p = none := r.fh.free h
  have nps : p ≠ c.ps := fun e => by
    have := r.sr.d
    rw [← e, h] at this
    cases this
  have npc : p ≠ c.pc := fun e => by
    have := r.sr.l
    rw [← e, h] at this
    cases this
  have h0 : c.H0 p = none := by
    cases q : c.H0 p with
    | none => rfl
    | some u =>
      have := r.kp p u q nps npc
      rw [h] at this
      cases this
  refine ⟨r.f0.trans (upd_up fp), fun b x e => ?_, fun a x e => ?_, fun a x e n1 n2 => ?_, r.hs, r.hc, ⟨?_, ?_⟩, ?_, ?_, r.len, fun i x e => ?_, r.sep⟩
  · by_cases hb : b = p
    · subst hb
      rw [upd_same] at e ⊢
      exact e
    · rw [upd_ne hb] at e ⊢
      exact r.fh b x e
  · by_cases hb : a = p
    · subst hb
      exact .inr h0
    · rw [upd_ne hb] at e
      exact r.fr a x e
  · have := r.kp a x e n1 n2
    rw [upd_ne (ne_of_none this h)]
    exact this
  · rw [upd_ne (Ne.symm nps)]
    exact r.sr.d
  · rw [upd_ne (Ne.symm npc)]
    exact r.sr.l
  · rw [upd_ne (Ne.symm nps)]
    exact r.fs
  · rw [upd_ne (Ne.symm npc)]
    exact r.fc
  · refine (r.sl i x e).mono (upd_up fp) fun q h1 h2 ⟨vs, h3⟩ => ?_
    have nq : q ≠ p := ne_of_none h3 h
    exact ⟨by rw [upd_ne nq]; exact h1, upd_ne nq⟩
/-- an object that no one knows -/
theorem Rel.junk {p : Addr} {o : HO} (r : Rel K c F S σ H) (h : H p = none) : Rel K c F S σ (upd H p o) := by
  have nps : p ≠ c.ps := fun e => by
    have := r.sr.d
    rw [← e, h] at this
    cases this
  have npc : p ≠ c.pc := fun e => by
    have := r.sr.l
    rw [← e, h] at this
    cases this
  refine ⟨r.f0, r.fh.trans (upd_up h), r.fr, fun a x e n1 n2 => ?_, r.hs, r.hc, ⟨?_, ?_⟩, r.fs, r.fc, r.len, fun i x e => ?_, r.sep⟩
  · exact upd_up h a x (r.kp a x e n1 n2)
  · rw [upd_ne (Ne.symm nps)]
    exact r.sr.d
  · rw [upd_ne (Ne.symm npc)]
    exact r.sr.l
  · refine (r.sl i x e).mono (Same.refl F) fun q h1 h2 ⟨vs, h3⟩ => ?_
    exact ⟨h1, upd_ne (ne_of_none h3 h)⟩
/-- the address of a slot's own list -/
theorem Rel.own_at {i : Nat} {ds : List D} (r : Rel K c F S σ H) (e : S.env[i]? = some (.own ds)) :
    ∃ p vs, σ[i]? = some (some (.ref p)) ∧ H p = some (.lst vs) ∧ DpAll K F vs ds ∧ F p = none ∧ c.H0 p = none := by
  have h := r.sl i _ e
  cases q : (σ[i]?).join with
  | none =>
    rw [q] at h
    exact h.elim
  | some v =>
    rw [q] at h
    obtain ⟨p, vs, h1, h2, h3, h4, h5⟩ := h
    subst h1
    refine ⟨p, vs, ?_, h2, h3, h4, h5⟩
    cases z : σ[i]? with
    | none =>
      rw [z] at q
      cases q
    | some w =>
      rw [z] at q
      have q' : w = some (V.ref p) := q
      rw [q']
theorem Rel.fz_at {i : Nat} {d : D} (r : Rel K c F S σ H) (e : S.env[i]? = some (.fz d)) : ∃ v, σ[i]? = some (some v) ∧ Dp K F v d := by
  have h := r.sl i _ e
  cases z : σ[i]? with
  | none =>
    rw [z] at h
    exact h.elim
  | some w =>
    rw [z] at h
    cases w with
    | none => exact h.elim
    | some v => exact ⟨v, rfl, h⟩
theorem Rel.src_at {i : Nat} (r : Rel K c F S σ H) (e : S.env[i]? = some .src) : σ[i]? = some (some (.ref c.ps)) := by
  have h := r.sl i _ e
  cases z : σ[i]? with
  | none =>
    rw [z] at h
    exact h.elim
  | some w =>
    rw [z] at h
    cases w with
    | none => exact h.elim
    | some v =>
      have h' : v = .ref c.ps := h
      rw [h']
/-- a slot is stored, the value data -/
theorem Rel.set_fz {i : Nat} {v : V} {d : D} (r : Rel K c F S σ H) (h : Dp K F v d) : Rel K c F { S with env := S.env.set i (.fz d) } (σ.set i (some v)) H := by
  refine ⟨r.f0, r.fh, r.fr, r.kp, r.hs, r.hc, r.sr, r.fs, r.fc, by simp [r.len], fun j x e => ?_, fun j k a b n e1 e2 => ?_⟩
  · by_cases hj : i = j
    · subst hj
      by_cases hl : i < S.env.length
      · rw [List.getElem?_set_self hl] at e
        rw [List.getElem?_set_self (by rw [r.len]; exact hl)]
        cases e
        exact h
      · rw [List.getElem?_eq_none (by simp; omega)] at e
        cases e
    · rw [List.getElem?_set_ne hj] at e ⊢
      exact r.sl j x e
  · have e1' : S.env[j]? = some (.own a) ∧ j ≠ i := by
      by_cases hj : i = j
      · subst hj
        by_cases hl : i < S.env.length
        · rw [List.getElem?_set_self hl] at e1
          cases e1
        · rw [List.getElem?_eq_none (by simp; omega)] at e1
          cases e1
      · rw [List.getElem?_set_ne hj] at e1
        exact ⟨e1, Ne.symm hj⟩
    have e2' : S.env[k]? = some (.own b) ∧ k ≠ i := by
      by_cases hj : i = k
      · subst hj
        by_cases hl : i < S.env.length
        · rw [List.getElem?_set_self hl] at e2
          cases e2
        · rw [List.getElem?_eq_none (by simp; omega)] at e2
          cases e2
      · rw [List.getElem?_set_ne hj] at e2
        exact ⟨e2, Ne.symm hj⟩
    rw [List.getElem?_set_ne (Ne.symm e1'.2), List.getElem?_set_ne (Ne.symm e2'.2)]
    exact r.sep j k a b n e1'.1 e2'.1
/-- a new list is stored, one's own -/
theorem Rel.set_own {i : Nat} {p : Addr} {vs : List V} {ds : List D} (r : Rel K c F S σ H) (h : H p = none) (hd : DpAll K F vs ds) :
    Rel K c F { S with env := S.env.set i (.own ds) } (σ.set i (some (.ref p))) (upd H p (.lst vs)) := by
  have r' := r.junk (o := .lst vs) h
  have fp : F p = none := r.fh.free h
  have h0 : c.H0 p = none := by
    cases q : c.H0 p with
    | none => rfl
    | some u =>
      have nps : p ≠ c.ps := fun e => by
        have := r.sr.d
        rw [← e, h] at this
        cases this
      have npc : p ≠ c.pc := fun e => by
        have := r.sr.l
        rw [← e, h] at this
        cases this
      have := r.kp p u q nps npc
      rw [h] at this
      cases this
  have other : ∀ (j : Nat) (b : List D), S.env[j]? = some (.own b) → (σ[j]?).join ≠ some (.ref p) := fun j b e z => by
    obtain ⟨q, ws, h1, h2, _⟩ := r.own_at e
    rw [h1] at z
    have z' : q = p := by
      have : V.ref q = V.ref p := Option.some.inj z
      exact V.ref.inj this
    rw [z', h] at h2
    cases h2
  refine ⟨r'.f0, r'.fh, r'.fr, r'.kp, r.hs, r.hc, r'.sr, r.fs, r.fc, by simp [r.len], fun j x e => ?_, fun j k a b n e1 e2 => ?_⟩
  · by_cases hj : i = j
    · subst hj
      by_cases hl : i < S.env.length
      · rw [List.getElem?_set_self hl] at e
        rw [List.getElem?_set_self (by rw [r.len]; exact hl)]
        cases e
        exact ⟨p, vs, rfl, upd_same, hd, fp, h0⟩
      · rw [List.getElem?_eq_none (by simp; omega)] at e
        cases e
    · rw [List.getElem?_set_ne hj] at e ⊢
      exact r'.sl j x e
  · by_cases hj : i = j
    · subst hj
      have hl : i < S.env.length := by
        by_cases hl : i < S.env.length
        · exact hl
        · rw [List.getElem?_eq_none (by simp; omega)] at e1
          cases e1
      rw [List.getElem?_set_ne n] at e2
      rw [List.getElem?_set_self (by rw [r.len]; exact hl), List.getElem?_set_ne n]
      exact fun z => other k b e2 z.symm
    · rw [List.getElem?_set_ne hj] at e1
      by_cases hk : i = k
      · subst hk
        have hl : i < S.env.length := by
          by_cases hl : i < S.env.length
          · exact hl
          · rw [List.getElem?_eq_none (by simp; omega)] at e2
            cases e2
        rw [List.getElem?_set_self (by rw [r.len]; exact hl), List.getElem?_set_ne hj]
        exact other j a e1
      · rw [List.getElem?_set_ne hk] at e2
        rw [List.getElem?_set_ne hj, List.getElem?_set_ne hk]
        exact r.sep j k a b n e1 e2
/-- one's own list is changed -/
theorem Rel.put_own {i : Nat} {p : Addr} {vs : List V} {ds es : List D} (r : Rel K c F S σ H) (e : S.env[i]? = some (.own ds)) (hp : σ[i]? = some (some (.ref p))) (hd : DpAll K F vs es) :
    Rel K c F { S with env := S.env.set i (.own es) } σ (upd H p (.lst vs)) := by
  obtain ⟨q, ws, h1, h2, h3, h4, h5⟩ := r.own_at e
  obtain rfl : p = q := by
    rw [hp] at h1
    exact V.ref.inj (Option.some.inj (Option.some.inj h1))
  have hl : i < S.env.length := (List.getElem?_eq_some_iff.mp e).1
  have nps : p ≠ c.ps := fun z => r.hs (z ▸ h5)
  have npc : p ≠ c.pc := fun z => r.hc (z ▸ h5)
  refine ⟨r.f0, fun b x z => ?_, r.fr, fun a x z n1 n2 => ?_, r.hs, r.hc, ⟨?_, ?_⟩, r.fs, r.fc, by simp [r.len], fun j x z => ?_, fun j k a b n e1 e2 => ?_⟩
  · rw [upd_ne (ne_of_none z h4)]
    exact r.fh b x z
  · rw [upd_ne (ne_of_none z h5)]
    exact r.kp a x z n1 n2
  · rw [upd_ne (Ne.symm nps)]
    exact r.sr.d
  · rw [upd_ne (Ne.symm npc)]
    exact r.sr.l
  · by_cases hj : i = j
    · subst hj
      rw [List.getElem?_set_self hl] at z
      cases z
      rw [hp]
      exact ⟨p, vs, rfl, upd_same, hd, h4, h5⟩
    · rw [List.getElem?_set_ne hj] at z
      cases x with
      | own b =>
        obtain ⟨q, us, g1, g2, g3, g4, g5⟩ := r.own_at z
        have nq : q ≠ p := fun w => by
          refine r.sep i j ds b hj e z ?_
          rw [hp, g1, w]
        rw [g1]
        exact ⟨q, us, rfl, by rw [upd_ne nq]; exact g2, g3, g4, g5⟩
      | un => trivial
      | fz d =>
        obtain ⟨v, g1, g2⟩ := r.fz_at z
        rw [g1]
        exact g2
      | src =>
        rw [r.src_at z]
        rfl
  · have f1 : ∃ a', S.env[j]? = some (.own a') := by
      by_cases hj : i = j
      · subst hj
        exact ⟨ds, e⟩
      · rw [List.getElem?_set_ne hj] at e1
        exact ⟨a, e1⟩
    have f2 : ∃ b', S.env[k]? = some (.own b') := by
      by_cases hj : i = k
      · subst hj
        exact ⟨ds, e⟩
      · rw [List.getElem?_set_ne hj] at e2
        exact ⟨b, e2⟩
    obtain ⟨a', f1⟩ := f1
    obtain ⟨b', f2⟩ := f2
    exact r.sep j k a' b' n f1 f2
/-- one's own list stands still from here on -/
theorem Rel.freeze {i : Nat} {ds : List D} (r : Rel K c F S σ H) (e : S.env[i]? = some (.own ds)) :
    ∃ p F', σ[i]? = some (some (.ref p)) ∧ Same F F' ∧ Dp K F' (.ref p) (.list ds) ∧ Rel K c F' { S with env := S.env.set i (.fz (.list ds)) } σ H := by
  obtain ⟨p, vs, h1, h2, h3, h4, h5⟩ := r.own_at e
  have hl : i < S.env.length := (List.getElem?_eq_some_iff.mp e).1
  have nps : p ≠ c.ps := fun z => r.hs (z ▸ h5)
  have npc : p ≠ c.pc := fun z => r.hc (z ▸ h5)
  have up := upd_up (o := .lst vs) h4
  have hd : Dp K (upd F p (.lst vs)) (.ref p) (.list ds) := .lst (.inl (.inl upd_same)) (DpAll.up up ds vs h3)
  refine ⟨p, upd F p (.lst vs), h1, up, hd, r.f0.trans up, fun b x z => ?_, fun a x z => ?_, r.kp, r.hs, r.hc, r.sr, ?_, ?_, by simp [r.len], fun j x z => ?_, fun j k a b n e1 e2 => ?_⟩
  · by_cases hb : b = p
    · subst hb
      rw [upd_same] at z
      cases z
      exact h2
    · rw [upd_ne hb] at z
      exact r.fh b x z
  · by_cases hb : a = p
    · subst hb
      exact .inr h5
    · rw [upd_ne hb] at z
      exact r.fr a x z
  · rw [upd_ne (Ne.symm nps)]
    exact r.fs
  · rw [upd_ne (Ne.symm npc)]
    exact r.fc
  · by_cases hj : i = j
    · subst hj
      rw [List.getElem?_set_self hl] at z
      cases z
      rw [h1]
      exact hd
    · rw [List.getElem?_set_ne hj] at z
      cases x with
      | own b =>
        obtain ⟨q, us, g1, g2, g3, g4, g5⟩ := r.own_at z
        have nq : q ≠ p := fun w => by
          refine r.sep i j ds b hj e z ?_
          rw [h1, g1, w]
        rw [g1]
        exact ⟨q, us, rfl, g2, DpAll.up up b us g3, by rw [upd_ne nq]; exact g4, g5⟩
      | un => trivial
      | fz d =>
        obtain ⟨v, g1, g2⟩ := r.fz_at z
        rw [g1]
        exact Dp.up up d v g2
      | src =>
        rw [r.src_at z]
        rfl
  · have f1 : S.env[j]? = some (.own a) := by
      by_cases hj : i = j
      · subst hj
        rw [List.getElem?_set_self hl] at e1
        cases e1
      · rw [List.getElem?_set_ne hj] at e1
        exact e1
    have f2 : S.env[k]? = some (.own b) := by
      by_cases hj : i = k
      · subst hj
        rw [List.getElem?_set_self hl] at e2
        cases e2
      · rw [List.getElem?_set_ne hj] at e2
        exact e2
    exact r.sep j k a b n f1 f2
end
end DL

-- part DL1
set_option Elab.async false
set_option linter.all false
set_option maxRecDepth 100000
set_option maxHeartbeats 1000000
/-! DL1: operations on data, by values. -/
namespace DL
open PySem PySem.Spec PyProof.Rows L2

/-- the answer d, standing in F or as a new object -/
def RES (K : PySem.W.Frag) (F H : Hp) (d : D) (Q : VK) : Prop :=
  (∀ u, Dp K F u d → Q u H) ∧ ∀ p o, H p = none → Dp K (upd F p o) (.ref p) d → Q (.ref p) (upd H p o)
def r2D (K : PySem.W.Frag) (f : D → D → Option D) : R2 := fun v w H Q => ∃ F x y d, Same F H ∧ Dp K F v x ∧ Dp K F w y ∧ f x y = some d ∧ RES K F H d Q
def r1D (K : PySem.W.Frag) (f : D → Option D) : V → Hp → VK → Prop := fun v H Q => ∃ F x d, Same F H ∧ Dp K F v x ∧ f x = some d ∧ RES K F H d Q
def rnD (K : PySem.W.Frag) (f : List D → Option D) : List V → Hp → VK → Prop := fun vs H Q => ∃ F xs d, Same F H ∧ DpAll K F vs xs ∧ f xs = some d ∧ RES K F H d Q
/-- one function, else the other -/
def alt (f g : D → D → Option D) (x y : D) : Option D := match f x y with | some d => some d | none => g x y
def altN (f g : List D → Option D) (xs : List D) : Option D := match f xs with | some d => some d | none => g xs
theorem alt_l {f g : D → D → Option D} {x y d : D} (h : f x y = some d) : alt f g x y = some d := by unfold alt; rw [h]
theorem alt_r {f g : D → D → Option D} {x y d : D} (h : f x y = none) (h' : g x y = some d) : alt f g x y = some d := by unfold alt; rw [h]; exact h'
section
variable {X : Cx}
theorem opr_alt {fn : Value → Value → Sem Value} {f g : D → D → Option D} (h : OpR X fn (r2D X.K f)) (h' : OpR X fn (r2D X.K g)) : OpR X fn (r2D X.K (alt f g)) := by
  intro pins s σ H x y v u Q I rx ry q
  obtain ⟨F, a, b, d, e, ha, hb, hf, q⟩ := q
  unfold alt at hf
  cases z : f a b with
  | some d' =>
    rw [z] at hf
    exact h pins s σ H x y v u Q I rx ry ⟨F, a, b, d', e, ha, hb, z, Option.some.inj hf ▸ q⟩
  | none =>
    rw [z] at hf
    exact h' pins s σ H x y v u Q I rx ry ⟨F, a, b, d, e, ha, hb, hf, q⟩
theorem ixr_alt {f g : D → D → Option D} (h : IxR X (r2D X.K f)) (h' : IxR X (r2D X.K g)) : IxR X (r2D X.K (alt f g)) := by
  intro value slice pins s σ H x y v u Q I rx ry q hs
  obtain ⟨F, a, b, d, e, ha, hb, hf, q⟩ := q
  unfold alt at hf
  cases z : f a b with
  | some d' =>
    rw [z] at hf
    exact h value slice pins s σ H x y v u Q I rx ry ⟨F, a, b, d', e, ha, hb, z, Option.some.inj hf ▸ q⟩ hs
  | none =>
    rw [z] at hf
    exact h' value slice pins s σ H x y v u Q I rx ry ⟨F, a, b, d, e, ha, hb, hf, q⟩ hs
theorem callr_alt {fn : Value} {f g : List D → Option D} (h : CallR X fn (rnD X.K f)) (h' : CallR X fn (rnD X.K g)) : CallR X fn (rnD X.K (altN f g)) := by
  intro pins s σ H xs us Q I r q
  obtain ⟨F, ds, d, e, ha, hf, q⟩ := q
  unfold altN at hf
  cases z : f ds with
  | some d' =>
    rw [z] at hf
    exact h pins s σ H xs us Q I r ⟨F, ds, d', e, ha, z, Option.some.inj hf ▸ q⟩
  | none =>
    rw [z] at hf
    exact h' pins s σ H xs us Q I r ⟨F, ds, d, e, ha, hf, q⟩
/-- an operator's rule by a weaker reading -/
theorem opr_imp {fn : Value → Value → Sem Value} {r r' : R2} (h : OpR X fn r) (i : ∀ x y H Q, r' x y H Q → r x y H Q) : OpR X fn r' :=
  fun pins s σ H x y v u Q I rx ry q => h pins s σ H x y v u Q I rx ry (i x y H Q q)
theorem ixr_imp {r r' : R2} (h : IxR X r) (i : ∀ x y H Q, r' x y H Q → r x y H Q) : IxR X r' :=
  fun value slice pins s σ H x y v u Q I rx ry q hs => h value slice pins s σ H x y v u Q I rx ry (i x y H Q q) hs
theorem callr_imp {fn : Value} {r r' : List V → Hp → VK → Prop} (h : CallR X fn r) (i : ∀ xs H Q, r' xs H Q → r xs H Q) : CallR X fn r' :=
  fun pins s σ H xs us Q I rs q => h pins s σ H xs us Q I rs (i xs H Q q)
theorem unr_imp {fn : Value → Sem Value} {r r' : V → Hp → VK → Prop} (h : UnR X fn r) (i : ∀ x H Q, r' x H Q → r x H Q) : UnR X fn r' :=
  fun pins s σ H x v Q I rs q => h pins s σ H x v Q I rs (i x H Q q)

/-! ### ints -/
def oI (g : Int → Int → Option D) : D → D → Option D
  | .int i, .int j => g i j
  | _, _ => none
theorem oI_some {g : Int → Int → Option D} {x y d : D} (h : oI g x y = some d) : ∃ i j, x = .int i ∧ y = .int j ∧ g i j = some d := by
  cases x <;> cases y <;> first | exact ⟨_, _, rfl, rfl, h⟩ | exact nomatch h
theorem opI_D {fn : Value → Value → Sem Value} {C : Int → Int → Prop} {g : Int → Int → V} {f : Int → Int → Option D} (h : OpR X fn (rI C g)) (k : ∀ i j d, f i j = some d → C i j ∧ ∀ F, Dp X.K F (g i j) d) : OpR X fn (r2D X.K (oI f)) :=
  opr_imp h fun x y H Q ⟨F, a, b, d, e, ha, hb, hf, q⟩ => by
    obtain ⟨i, j, rfl, rfl, hg⟩ := oI_some hf
    cases ha
    cases hb
    obtain ⟨hc, hd⟩ := k i j d hg
    exact ⟨i, j, rfl, rfl, hc, q.1 _ (hd F)⟩
theorem opI0_D {fn : Value → Value → Sem Value} {g : Int → Int → V} {f : Int → Int → D} (h : OpR X fn (rI0 g)) (k : ∀ i j F, Dp X.K F (g i j) (f i j)) : OpR X fn (r2D X.K (oI fun i j => some (f i j))) :=
  opr_imp h fun x y H Q ⟨F, a, b, d, e, ha, hb, hf, q⟩ => by
    obtain ⟨i, j, rfl, rfl, hg⟩ := oI_some hf
    cases ha
    cases hb
    cases hg
    exact ⟨i, j, rfl, rfl, q.1 _ (k i j F)⟩
def addI : D → D → Option D := oI fun i j => some (.int (i + j))
def subI : D → D → Option D := oI fun i j => some (.int (i - j))
def mulI : D → D → Option D := oI fun i j => if i.natAbs.log2 + j.natAbs.log2 < 1000000 then some (.int (i * j)) else none
def divI : D → D → Option D := oI fun i j => if 0 < j ∧ j.natAbs.log2 < 9000 then some (.int (i / j)) else none
def modI : D → D → Option D := oI fun i j => if j ≠ 0 then some (.int (i.fmod j)) else none
def ltI : D → D → Option D := oI fun i j => some (.bool (decide (i < j)))
def leI : D → D → Option D := oI fun i j => some (.bool (decide (i ≤ j)))
def gtI : D → D → Option D := oI fun i j => some (.bool (decide (j < i)))
def geI : D → D → Option D := oI fun i j => some (.bool (decide (j ≤ i)))
theorem opd_add : OpR X (binaryOp .Add) (r2D X.K addI) := opI0_D op_add fun _ _ _ => .int _
theorem opd_sub : OpR X (binaryOp .Sub) (r2D X.K subI) := opI0_D op_sub fun _ _ _ => .int _
theorem opd_mul : OpR X (binaryOp .Mult) (r2D X.K mulI) := opI_D op_mulW fun i j d h => by
  by_cases c : i.natAbs.log2 + j.natAbs.log2 < 1000000
  · rw [if_pos c] at h
    cases h
    exact ⟨c, fun _ => .int _⟩
  · rw [if_neg c] at h
    cases h
theorem opd_div : OpR X (binaryOp .FloorDiv) (r2D X.K divI) := opI_D op_fdivW fun i j d h => by
  by_cases c : 0 < j ∧ j.natAbs.log2 < 9000
  · rw [if_pos c] at h
    cases h
    exact ⟨c, fun _ => .int _⟩
  · rw [if_neg c] at h
    cases h
theorem opd_mod : OpR X (binaryOp .Mod) (r2D X.K modI) := opI_D op_modN fun i j d h => by
  by_cases c : j ≠ 0
  · rw [if_pos c] at h
    cases h
    exact ⟨c, fun _ => .int _⟩
  · rw [if_neg c] at h
    cases h
theorem opd_lt : OpR X (compareOp .Lt) (r2D X.K ltI) := opI0_D op_lt fun _ _ _ => .bl _
theorem opd_le : OpR X (compareOp .LtE) (r2D X.K leI) := opI0_D op_le fun _ _ _ => .bl _
theorem opd_gt : OpR X (compareOp .Gt) (r2D X.K gtI) := opI0_D op_gt fun _ _ _ => .bl _
theorem opd_ge : OpR X (compareOp .GtE) (r2D X.K geI) := opI0_D op_ge fun _ _ _ => .bl _

/-! ### == over any data; None; bools -/
def okD (d : D) : Bool := d.canLay0 && decide (d.depth ≤ 64)
def eqD (x y : D) : Option D := if okD x = true ∧ okD y = true then some (.bool (PyData.eqv x y)) else none
def neD (x y : D) : Option D := if okD x = true ∧ okD y = true then some (.bool (!PyData.eqv x y)) else none
theorem opd_eq (hu : X.A.units + 64 < cLine) : OpR X (compareOp .Eq) (r2D X.K eqD) :=
  opr_imp (op_eqD hu) fun x y H Q ⟨F, a, b, d, e, ha, hb, hf, q⟩ => by
    unfold eqD at hf
    by_cases c : okD a = true ∧ okD b = true
    · rw [if_pos c] at hf
      cases hf
      exact ⟨a, b, Dp.up e _ _ ha, Dp.up e _ _ hb, c.1, c.2, q.1 _ (.bl _)⟩
    · rw [if_neg c] at hf
      cases hf
theorem opd_ne (hu : X.A.units + 64 < cLine) : OpR X (compareOp .NotEq) (r2D X.K neD) :=
  opr_imp (op_neD hu) fun x y H Q ⟨F, a, b, d, e, ha, hb, hf, q⟩ => by
    unfold neD at hf
    by_cases c : okD a = true ∧ okD b = true
    · rw [if_pos c] at hf
      cases hf
      exact ⟨a, b, Dp.up e _ _ ha, Dp.up e _ _ hb, c.1, c.2, q.1 _ (.bl _)⟩
    · rw [if_neg c] at hf
      cases hf
def isNone : D → Bool
  | .none => true
  | _ => false
def isD (x y : D) : Option D := match y with
  | .none => some (.bool (isNone x))
  | .bool b => match x with
    | .bool a => some (.bool (decide (a = b)))
    | _ => none
  | _ => none
def notIsD (x y : D) : Option D := match y with
  | .none => some (.bool (!isNone x))
  | .bool b => match x with
    | .bool a => some (.bool (!decide (a = b)))
    | _ => none
  | _ => none
theorem isNone_of {K : PySem.W.Frag} {F : Hp} {v : V} {d : D} (h : Dp K F v d) : decide (v = V.non) = isNone d := by
  cases h <;> rfl
theorem opd_is : OpR X (compareOp .Is) (r2D X.K isD) := by
  intro pins s σ H x y v u Q I rx ry q
  obtain ⟨F, a, b, d, e, ha, hb, hf, q⟩ := q
  cases hb with
  | non =>
    have hf' : some (PyData.bool (isNone a)) = some d := hf
    cases hf'
    exact op_isN pins s σ H x _ v u Q I rx ry ⟨rfl, by rw [isNone_of ha]; exact q.1 _ (.bl _)⟩
  | bl b =>
    cases ha with
    | bl a =>
      have hf' : some (PyData.bool (decide (a = b))) = some d := hf
      cases hf'
      exact op_isBl pins s σ H _ _ v u Q I rx ry ⟨a, b, rfl, rfl, q.1 _ (.bl _)⟩
    | non => exact nomatch hf
    | int _ => exact nomatch hf
    | str _ => exact nomatch hf
    | lst _ _ => exact nomatch hf
    | tup _ _ => exact nomatch hf
  | int _ => exact nomatch hf
  | str _ => exact nomatch hf
  | lst _ _ => exact nomatch hf
  | tup _ _ => exact nomatch hf
theorem opd_isnot : OpR X (compareOp .IsNot) (r2D X.K notIsD) := by
  intro pins s σ H x y v u Q I rx ry q
  obtain ⟨F, a, b, d, e, ha, hb, hf, q⟩ := q
  cases hb with
  | non =>
    have hf' : some (PyData.bool (!isNone a)) = some d := hf
    cases hf'
    exact op_notN pins s σ H x _ v u Q I rx ry ⟨rfl, by rw [isNone_of ha]; exact q.1 _ (.bl _)⟩
  | bl b =>
    cases ha with
    | bl a =>
      have hf' : some (PyData.bool (!decide (a = b))) = some d := hf
      cases hf'
      exact op_notBl pins s σ H _ _ v u Q I rx ry ⟨a, b, rfl, rfl, q.1 _ (.bl _)⟩
    | non => exact nomatch hf
    | int _ => exact nomatch hf
    | str _ => exact nomatch hf
    | lst _ _ => exact nomatch hf
    | tup _ _ => exact nomatch hf
  | int _ => exact nomatch hf
  | str _ => exact nomatch hf
  | lst _ _ => exact nomatch hf
  | tup _ _ => exact nomatch hf

/-! ### x in c -/
def items : D → Option (List D)
  | .list xs => some xs
  | .tuple xs => some xs
  | _ => none
def inD (x c : D) : Option D := match items c with
  | some xs => if okD c = true ∧ okD x = true then some (.bool (xs.any fun y => PyData.eqv y x)) else none
  | none => none
def notInD (x c : D) : Option D := match items c with
  | some xs => if okD c = true ∧ okD x = true then some (.bool (!xs.any fun y => PyData.eqv y x)) else none
  | none => none
theorem okD_plain {d : D} (h : okD d = true) : d.plain = true ∧ d.depth ≤ 64 := by
  unfold okD at h
  rw [Bool.and_eq_true] at h
  exact ⟨PyData.plain_of_canLay0 d h.1, of_decide_eq_true h.2⟩
theorem opd_in (hu : X.A.units + 66 < cLine) : OpR X (compareOp .In) (r2D X.K inD) := by
  intro pins s σ H x y v u Q I rx ry q
  obtain ⟨F, a, b, d, e, ha, hb, hf, q⟩ := q
  obtain ⟨as, ra⟩ := Dp.reads I a x v (Dp.up e _ _ ha) rx
  obtain ⟨bs, rb⟩ := Dp.reads I b y u (Dp.up e _ _ hb) ry
  unfold inD at hf
  cases b with
  | list xs =>
    have hf' : (if okD (.list xs) = true ∧ okD a = true then some (PyData.bool (xs.any fun y => PyData.eqv y a)) else none) = some d := hf
    by_cases c : okD (.list xs) = true ∧ okD a = true
    · rw [if_pos c] at hf'
      cases hf'
      have p1 := okD_plain c.1
      have p2 := okD_plain c.2
      exact PySem.SeqAt.in_list_data rb ra p1.1 p2.1 (by have := p2.2; omega) ⟨.bl _, H, I, rfl, q.1 _ (.bl _)⟩
    · rw [if_neg c] at hf'
      cases hf'
  | tuple xs =>
    have hf' : (if okD (.tuple xs) = true ∧ okD a = true then some (PyData.bool (xs.any fun y => PyData.eqv y a)) else none) = some d := hf
    by_cases c : okD (.tuple xs) = true ∧ okD a = true
    · rw [if_pos c] at hf'
      cases hf'
      have p1 := okD_plain c.1
      have p2 := okD_plain c.2
      exact PySem.SeqAt.in_tuple_data rb ra p1.1 p2.1 (by have := p2.2; omega) ⟨.bl _, H, I, rfl, q.1 _ (.bl _)⟩
    · rw [if_neg c] at hf'
      cases hf'
  | none => exact nomatch hf
  | bool _ => exact nomatch hf
  | int _ => exact nomatch hf
  | str _ => exact nomatch hf
  | dict _ => exact nomatch hf
theorem opd_notin (hu : X.A.units + 66 < cLine) : OpR X (compareOp .NotIn) (r2D X.K notInD) := by
  intro pins s σ H x y v u Q I rx ry q
  obtain ⟨F, a, b, d, e, ha, hb, hf, q⟩ := q
  obtain ⟨as, ra⟩ := Dp.reads I a x v (Dp.up e _ _ ha) rx
  obtain ⟨bs, rb⟩ := Dp.reads I b y u (Dp.up e _ _ hb) ry
  unfold notInD at hf
  cases b with
  | list xs =>
    have hf' : (if okD (.list xs) = true ∧ okD a = true then some (PyData.bool (!xs.any fun y => PyData.eqv y a)) else none) = some d := hf
    by_cases c : okD (.list xs) = true ∧ okD a = true
    · rw [if_pos c] at hf'
      cases hf'
      have p1 := okD_plain c.1
      have p2 := okD_plain c.2
      exact PySem.SeqAt.notIn_list_data rb ra p1.1 p2.1 (by have := p2.2; omega) ⟨.bl _, H, I, rfl, q.1 _ (.bl _)⟩
    · rw [if_neg c] at hf'
      cases hf'
  | tuple xs =>
    have hf' : (if okD (.tuple xs) = true ∧ okD a = true then some (PyData.bool (!xs.any fun y => PyData.eqv y a)) else none) = some d := hf
    by_cases c : okD (.tuple xs) = true ∧ okD a = true
    · rw [if_pos c] at hf'
      cases hf'
      have p1 := okD_plain c.1
      have p2 := okD_plain c.2
      exact PySem.SeqAt.notIn_tuple_data rb ra p1.1 p2.1 (by have := p2.2; omega) ⟨.bl _, H, I, rfl, q.1 _ (.bl _)⟩
    · rw [if_neg c] at hf'
      cases hf'
  | none => exact nomatch hf
  | bool _ => exact nomatch hf
  | int _ => exact nomatch hf
  | str _ => exact nomatch hf
  | dict _ => exact nomatch hf

/-! ### subscripts, t + u -/
def ixD (x y : D) : Option D := match items x, y with
  | some xs, .int i => atI xs i
  | _, _ => none
theorem _root_.L2.DpAll.atI {K : PySem.W.Frag} {F : Hp} {vs : List V} {ds : List D} {i : Int} {d : D} (h : DpAll K F vs ds) (e : L2.atI ds i = some d) : ∃ v, L2.atI vs i = some v ∧ Dp K F v d := by
  unfold L2.atI at e ⊢
  rw [h.len]
  cases z : L2.ixN ds.length i with
  | none =>
    rw [z] at e
    cases e
  | some j =>
    rw [z] at e
    exact h.get e
theorem ixr_D : IxR X (r2D X.K ixD) := by
  intro value slice pins s σ H x y v u Q I rx ry q hs
  obtain ⟨F, a, b, d, e, ha, hb, hf, q⟩ := q
  unfold ixD at hf
  cases ha with
  | lst h1 h2 =>
    cases hb with
    | int i =>
      have hf' : atI _ i = some d := hf
      obtain ⟨z, g1, g2⟩ := h2.atI hf'
      exact ix_list value slice pins s σ H _ _ v u Q I rx ry ⟨_, _, i, z, rfl, rfl, sqL_up e h1, g1, q.1 z g2⟩ hs
    | non => exact nomatch hf
    | bl _ => exact nomatch hf
    | str _ => exact nomatch hf
    | lst _ _ => exact nomatch hf
    | tup _ _ => exact nomatch hf
  | tup h1 h2 =>
    cases hb with
    | int i =>
      have hf' : atI _ i = some d := hf
      obtain ⟨z, g1, g2⟩ := h2.atI hf'
      exact ix_tup value slice pins s σ H _ _ v u Q I rx ry ⟨_, _, i, z, rfl, rfl, sqT_up e h1, g1, q.1 z g2⟩ hs
    | non => exact nomatch hf
    | bl _ => exact nomatch hf
    | str _ => exact nomatch hf
    | lst _ _ => exact nomatch hf
    | tup _ _ => exact nomatch hf
  | non => exact nomatch hf
  | bl _ => exact nomatch hf
  | int _ => exact nomatch hf
  | str _ => exact nomatch hf
def addT (x y : D) : Option D := match x, y with
  | .tuple xs, .tuple ys => if xs.length + ys.length ≤ sizeLine then some (.tuple (xs ++ ys)) else none
  | _, _ => none
theorem opd_addT : OpR X (binaryOp .Add) (r2D X.K addT) :=
  opr_imp op_catA fun x y H Q ⟨F, a, b, d, e, ha, hb, hf, q⟩ => by
    cases ha with
    | @tup p xs ds h1 h2 =>
      cases hb with
      | @tup p' ys es g1 g2 =>
        have hf' : (if ds.length + es.length ≤ sizeLine then some (PyData.tuple (ds ++ es)) else none) = some d := hf
        by_cases c : ds.length + es.length ≤ sizeLine
        · rw [if_pos c] at hf'
          cases hf'
          refine ⟨p, p', xs, ys, rfl, rfl, sqT_up e h1, sqT_up e g1, by rw [h2.len, g2.len]; exact c, fun z => ?_, fun _ z => ?_, fun _ _ l hl => ?_⟩
          · subst z
            cases h2
            exact q.1 _ (.tup g1 g2)
          · subst z
            cases g2
            rw [List.append_nil] at q
            exact q.1 _ (.tup h1 h2)
          · have fl := Same.free e hl
            exact q.2 l _ hl (.tup (.inl (.inl upd_same)) (DpAll.up (upd_up fl) _ _ (h2.append g2)))
        · rw [if_neg c] at hf'
          cases hf'
      | non => exact nomatch hf
      | bl _ => exact nomatch hf
      | str _ => exact nomatch hf
      | lst _ _ => exact nomatch hf
      | int _ => exact nomatch hf
    | non => exact nomatch hf
    | bl _ => exact nomatch hf
    | int _ => exact nomatch hf
    | str _ => exact nomatch hf
    | lst _ _ => exact nomatch hf
end
end DL

-- part DL2
set_option Elab.async false
set_option linter.all false
set_option maxRecDepth 100000
set_option maxHeartbeats 1000000
/-! DL2: expressions as functions of the slots. -/
namespace DL
open PySem PySem.Spec PyProof.Rows L2

abbrev MV (α : Type) := Sta → Option (α × Sta)
def ret {α : Type} (x : α) : MV α := fun S => some (x, S)
def bnd {α β : Type} (m : MV α) (k : α → MV β) : MV β := fun S => match m S with
  | some (x, S1) => k x S1
  | none => none
def opt {α : Type} (o : Option α) : MV α := fun S => match o with
  | some x => some (x, S)
  | none => none
theorem bnd_eq {α β : Type} {m : MV α} {k : α → MV β} {S S1 : Sta} {x : α} (h : m S = some (x, S1)) : bnd m k S = k x S1 := by
  unfold bnd
  rw [h]
theorem bnd_some {α β : Type} {m : MV α} {k : α → MV β} {S S' : Sta} {y : β} (h : bnd m k S = some (y, S')) : ∃ x S1, m S = some (x, S1) ∧ k x S1 = some (y, S') := by
  unfold bnd at h
  cases e : m S with
  | none =>
    rw [e] at h
    cases h
  | some p =>
    rw [e] at h
    exact ⟨p.1, p.2, rfl, h⟩
theorem opt_some {α : Type} {o : Option α} {S S' : Sta} {y : α} (h : opt o S = some (y, S')) : o = some y ∧ S' = S := by
  unfold opt at h
  cases o with
  | none => cases h
  | some x =>
    cases h
    exact ⟨rfl, rfl⟩

/-! ### readings -/
def Go (K : PySem.W.Frag) (c : Fr) (r : Option (D × Sta)) (F : Hp) (σ : L2.St) (Q : VK) : Prop :=
  ∃ d S', r = some (d, S') ∧ ∀ F' H' v, Same F F' → Rel K c F' S' σ H' → Dp K F' v d → Q v H'
def tD (K : PySem.W.Frag) (c : Fr) (m : MV D) : TE := fun σ H Q => ∃ F S, Rel K c F S σ H ∧ Go K c (m S) F σ Q
def DE (X : Cx) (c : Fr) (e : Expr) (m : MV D) : Prop := PE X e (tD X.K c m)
def GoT (K : PySem.W.Frag) (c : Fr) (r : Option (Bool × Sta)) (F : Hp) (σ : L2.St) (Q : Bool → Hp → Prop) : Prop :=
  ∃ b S', r = some (b, S') ∧ ∀ F' H', Same F F' → Rel K c F' S' σ H' → Q b H'
def tT (K : PySem.W.Frag) (c : Fr) (m : MV Bool) : TT := fun σ H Q => ∃ F S, Rel K c F S σ H ∧ GoT K c (m S) F σ Q
def DT (X : Cx) (c : Fr) (e : Expr) (m : MV Bool) : Prop := PT X e (tT X.K c m)
/-- arguments: data, or the source -/
inductive Arg where
  | d (x : D) | src
def ArgOk (K : PySem.W.Frag) (ps : Addr) (F : Hp) (v : V) : Arg → Prop
  | .d x => Dp K F v x
  | .src => v = .ref ps
inductive ArgsOk (K : PySem.W.Frag) (ps : Addr) (F : Hp) : List V → List Arg → Prop where
  | nil : ArgsOk K ps F [] []
  | cons {v : V} {vs : List V} {a : Arg} {as : List Arg} : ArgOk K ps F v a → ArgsOk K ps F vs as → ArgsOk K ps F (v :: vs) (a :: as)
def GoA (K : PySem.W.Frag) (c : Fr) (r : Option (List Arg × Sta)) (F : Hp) (σ : L2.St) (Q : List V → Hp → Prop) : Prop :=
  ∃ as S', r = some (as, S') ∧ ∀ F' H' vs, Same F F' → Rel K c F' S' σ H' → ArgsOk K c.ps F' vs as → Q vs H'
def tA (K : PySem.W.Frag) (c : Fr) (m : MV (List Arg)) : TA := fun σ H Q => ∃ F S, Rel K c F S σ H ∧ GoA K c (m S) F σ Q
def DA (X : Cx) (c : Fr) (es : List Expr) (m : MV (List Arg)) : Prop := PA X es (tA X.K c m)

theorem ArgOk.up {K : PySem.W.Frag} {ps : Addr} {F G : Hp} (e : Same F G) {v : V} {a : Arg} (h : ArgOk K ps F v a) : ArgOk K ps G v a := by
  cases a with
  | d x => exact Dp.up e x v h
  | src => exact h
theorem ArgsOk.up {K : PySem.W.Frag} {ps : Addr} {F G : Hp} (e : Same F G) : ∀ {vs : List V} {as : List Arg}, ArgsOk K ps F vs as → ArgsOk K ps G vs as
  | _, _, .nil => .nil
  | _, _, .cons h t => .cons (h.up e) (ArgsOk.up e t)
section
variable {X : Cx} {c : Fr} {K : PySem.W.Frag} {F : Hp} {S : Sta} {σ : L2.St} {H : Hp}
theorem pe_imp {e : Expr} {t t' : TE} (h : PE X e t) (i : ∀ σ H Q, t' σ H Q → t σ H Q) : PE X e t' := ⟨fun pins s σ H Q I q => h.run pins s σ H Q I (i σ H Q q)⟩
theorem pt_imp {e : Expr} {t t' : TT} (h : PT X e t) (i : ∀ σ H Q, t' σ H Q → t σ H Q) : PT X e t' := ⟨fun pins s σ H Q I q => h.run pins s σ H Q I (i σ H Q q)⟩
theorem pa_imp {es : List Expr} {t t' : TA} (h : PA X es t) (i : ∀ σ H Q, t' σ H Q → t σ H Q) : PA X es t' := ⟨fun pos pins s σ H Q I q => h.run pos pins s σ H Q I (i σ H Q q)⟩
theorem ps_imp {st : Stmt} {t t' : TS} (h : PS X st t) (i : ∀ D σ H, t' D σ H → t D σ H) : PS X st t' := ⟨fun pins s σ H D I q => h.run pins s σ H D I (i D σ H q)⟩
theorem pss_imp {st : List Stmt} {t t' : TS} (h : PSs X st t) (i : ∀ D σ H, t' D σ H → t D σ H) : PSs X st t' := ⟨fun pins s σ H D I q => h.run pins s σ H D I (i D σ H q)⟩
/-- one after another -/
theorem go_bnd {m : MV D} {k : D → MV D} {Q Q1 : VK} (h : Go K c (bnd m k S) F σ Q)
    (i : ∀ F1 S1 x v H1, Same F F1 → Rel K c F1 S1 σ H1 → Dp K F1 v x → Go K c (k x S1) F1 σ Q → Q1 v H1) : Go K c (m S) F σ Q1 := by
  obtain ⟨d, S', e, q⟩ := h
  obtain ⟨x, S1, e1, e2⟩ := bnd_some e
  exact ⟨x, S1, e1, fun F1 H1 v s1 r1 d1 => i F1 S1 x v H1 s1 r1 d1 ⟨d, S', e2, fun F' H' w s2 r2 d2 => q F' H' w (s1.trans s2) r2 d2⟩⟩
/-- an operation's answer on data -/
theorem res_of {d : D} {Q : VK} (r : Rel K c F S σ H) (q : ∀ F' H' v, Same F F' → Rel K c F' S σ H' → Dp K F' v d → Q v H') : RES K F H d Q :=
  ⟨fun u hu => q F H u (Same.refl F) r hu, fun p o hp hd => q (upd F p o) (upd H p o) (.ref p) (upd_up (r.fh.free hp)) (r.alloc hp) hd⟩

/-! ### names and constants -/
def vD (i : Nat) : MV D := fun S => match S.env[i]? with
  | some (.fz d) => some (d, S)
  | some (.own ds) => some (.list ds, { S with env := S.env.set i (.fz (.list ds)) })
  | _ => none
theorem de_var (i : Nat) {x : Str} {pos : Pos} (hN : X.N[i]? = some x := by rfl) (hv : Vis X.env.scope x := by first | exact Or.inl rfl | exact Or.inr (Or.inl rfl) | exact Or.inr (Or.inr rfl)) (hd : (x == ("__debug__" : Str)) = false := by decide)
    (hcd : (x == ("__classdict__" : Str)) = false := by decide) : DE X c (.Name x pos) (vD i) :=
  pe_imp (pe_var hN hv hd hcd) fun σ H Q h => by
    obtain ⟨F, S, r, d, S', e, q⟩ := h
    unfold vD at e
    cases z : S.env[i]? with
    | none =>
      rw [z] at e
      cases e
    | some y =>
      rw [z] at e
      cases y with
      | un => cases e
      | src => cases e
      | fz d' =>
        cases e
        obtain ⟨v, h1, h2⟩ := r.fz_at z
        exact ⟨v, h1, q F H v (Same.refl F) r h2⟩
      | own ds =>
        cases e
        obtain ⟨p, F', h1, h2, h3, h4⟩ := r.freeze z
        exact ⟨.ref p, h1, q F' H (.ref p) h2 h4 h3⟩
def cD (d : D) : MV D := ret d
theorem de_con {e : Expr} {v : V} {d : D} (h : PE X e (tC v)) (k : ∀ F, Dp X.K F v d) : DE X c e (cD d) :=
  pe_imp h fun σ H Q h => by
    obtain ⟨F, S, r, d', S', e, q⟩ := h
    cases e
    exact q F H v (Same.refl F) r (k F)
theorem de_int {i j pos} : DE X c (.Constant (.int i) j pos) (cD (.int i)) := de_con pe_int fun _ => .int _
theorem de_bool {b j pos} : DE X c (.Constant (.bool b) j pos) (cD (.bool b)) := de_con pe_bl fun _ => .bl _
theorem de_none {j pos} : DE X c (.Constant .none j pos) (cD .none) := de_con pe_non fun _ => .non
theorem de_str {x j pos} : DE X c (.Constant (.str x) j pos) (cD (.str x)) := de_con pe_str fun _ => .str _

/-! ### operators -/
def op2 (f : D → D → Option D) (m n : MV D) : MV D := bnd m fun x => bnd n fun y => opt (f x y)
def op1 (f : D → Option D) (m : MV D) : MV D := bnd m fun x => opt (f x)
theorem t_op2 {f : D → D → Option D} {m n : MV D} {σ : L2.St} {H : Hp} {Q : VK} (h : tD K c (op2 f m n) σ H Q) : tOp (r2D K f) (tD K c m) (tD K c n) σ H Q := by
  obtain ⟨F, S, r, g⟩ := h
  refine ⟨F, S, r, go_bnd g fun F1 S1 x v H1 s1 r1 d1 g1 => ⟨F1, S1, r1, go_bnd g1 fun F2 S2 y w H2 s2 r2 d2 g2 => ?_⟩⟩
  obtain ⟨d, S', e, q⟩ := g2
  obtain ⟨e1, e2⟩ := opt_some e
  subst e2
  exact ⟨F2, x, y, d, r2.fh, Dp.up s2 x v d1, d2, e1, res_of r2 q⟩
variable {a b : Expr} {pos : Pos} {m n : MV D} {f : D → D → Option D}
theorem de_op {op : Operator} (ho : OpR X (binaryOp op) (r2D X.K f)) (ha : DE X c a m) (hb : DE X c b n) : DE X c (.BinOp a op b pos) (op2 f m n) := pe_imp (pe_op ho ha hb) fun _ _ _ h => t_op2 h
theorem de_cmp {op : CmpOp} (ho : OpR X (compareOp op) (r2D X.K f)) (ha : DE X c a m) (hb : DE X c b n) (hm : behindInMarks op b = false := by first | exact nomark _ | rfl) : DE X c (.Compare a [op] [b] pos) (op2 f m n) :=
  pe_imp (pe_cmpR ho ha hb hm) fun _ _ _ h => t_op2 h
theorem de_ix (ha : DE X c a m) (hb : DE X c b n) (hs : PlainIx b := by intro _ _; rfl) : DE X c (.Subscript a b pos) (op2 ixD m n) := pe_imp (pe_ix ixr_D ha hb hs) fun _ _ _ h => t_op2 h
def negD : D → Option D
  | .int i => some (.int (-i))
  | _ => none
theorem de_neg (ha : DE X c a m) : DE X c (.UnaryOp .USub a pos) (op1 negD m) :=
  pe_imp (pe_un un_neg ha) fun σ H Q h => by
    obtain ⟨F, S, r, g⟩ := h
    refine ⟨F, S, r, go_bnd g fun F1 S1 x v H1 s1 r1 d1 g1 => ?_⟩
    obtain ⟨d, S', e, q⟩ := g1
    obtain ⟨e1, e2⟩ := opt_some e
    subst e2
    cases d1 with
    | int i =>
      cases e1
      exact ⟨i, rfl, q F1 H1 _ (Same.refl _) r1 (.int _)⟩
    | non => exact nomatch e1
    | bl _ => exact nomatch e1
    | str _ => exact nomatch e1
    | lst _ _ => exact nomatch e1
    | tup _ _ => exact nomatch e1

/-! ### tests -/
def toB (m : MV D) : MV Bool := bnd m fun d => match d with
  | .bool b => ret b
  | _ => fun _ => none
theorem toB_some {S S' : Sta} {b : Bool} (h : toB m S = some (b, S')) : m S = some (.bool b, S') := by
  obtain ⟨x, S1, e1, e2⟩ := bnd_some h
  cases x with
  | bool b' =>
    cases e2
    exact e1
  | none => exact nomatch e2
  | int _ => exact nomatch e2
  | str _ => exact nomatch e2
  | list _ => exact nomatch e2
  | tuple _ => exact nomatch e2
  | dict _ => exact nomatch e2
theorem toB_eq {S S' : Sta} {b : Bool} (h : m S = some (.bool b, S')) : toB m S = some (b, S') := bnd_eq h
theorem got_toB {Q : Bool → Hp → Prop} {Q1 : VK} (h : GoT K c (toB m S) F σ Q) (i : ∀ F1 S1 b H1, Same F F1 → Rel K c F1 S1 σ H1 → Q b H1 → Q1 (.bl b) H1) : Go K c (m S) F σ Q1 := by
  obtain ⟨b, S', e, q⟩ := h
  refine ⟨.bool b, S', toB_some e, fun F' H' v s r d => ?_⟩
  cases d
  exact i F' S' b H' s r (q F' H' s r)
theorem dt_cmp {op : CmpOp} (ho : OpR X (compareOp op) (r2D X.K f)) (ha : DE X c a m) (hb : DE X c b n) (hm : behindInMarks op b = false := by first | exact nomark _ | rfl) : DT X c (.Compare a [op] [b] pos) (toB (op2 f m n)) :=
  pt_imp (pt_cmpR ho ha hb hm) fun σ H Q h => by
    obtain ⟨F, S, r, g⟩ := h
    have g' : Go X.K c (op2 f m n S) F σ fun x H' => ∃ k, x = .bl k ∧ Q k H' := got_toB g fun F1 S1 b H1 _ _ q => ⟨b, rfl, q⟩
    exact t_op2 ⟨F, S, r, g'⟩
/-- a value that is a bool, as a test -/
theorem dt_val (ha : DE X c a m) (he : ∀ whole, isTrue a X.env whole = (do let v ← whole; standAt a.pos; holding [v] (truthy v)) := by intro _; rfl) : DT X c a (toB m) :=
  pt_imp (pt_val ha he) fun σ H Q h => by
    obtain ⟨F, S, r, g⟩ := h
    exact ⟨F, S, r, got_toB g fun F1 S1 b H1 _ _ q => ⟨b, rfl, q⟩⟩
def andT (m n : MV Bool) : MV Bool := bnd m fun b => if b = true then n else ret false
def orT (m n : MV Bool) : MV Bool := bnd m fun b => if b = true then ret true else n
def notT (m : MV Bool) : MV Bool := bnd m fun b => ret (!b)
theorem got_bnd {p : MV Bool} {k : Bool → MV Bool} {Q Q1 : Bool → Hp → Prop} (h : GoT K c (bnd p k S) F σ Q)
    (i : ∀ F1 S1 b H1, Same F F1 → Rel K c F1 S1 σ H1 → GoT K c (k b S1) F1 σ Q → Q1 b H1) : GoT K c (p S) F σ Q1 := by
  obtain ⟨d, S', e, q⟩ := h
  obtain ⟨x, S1, e1, e2⟩ := bnd_some e
  exact ⟨x, S1, e1, fun F1 H1 s1 r1 => i F1 S1 x H1 s1 r1 ⟨d, S', e2, fun F' H' s2 r2 => q F' H' (s1.trans s2) r2⟩⟩
theorem got_ret {x : Bool} {Q : Bool → Hp → Prop} (h : GoT K c (ret x S) F σ Q) (r : Rel K c F S σ H) : Q x H := by
  obtain ⟨d, S', e, q⟩ := h
  cases e
  exact q F H (Same.refl F) r
structure DW (X : Cx) (c : Fr) (e : Expr) (m : MV Bool) : Prop where
  pw : PW X e (tT X.K c m)
theorem DW.dt {p : MV Bool} (h : DW X c a p) : DT X c a p := h.pw.pt
variable {p q : MV Bool} {rest : List Expr}
theorem dw_and1 (ha : DT X c a p) : DW X c (.BoolOp .And [a] pos) p := ⟨pw_and1 ha⟩
theorem dw_or1 (ha : DT X c a p) : DW X c (.BoolOp .Or [a] pos) p := ⟨pw_or1 ha⟩
theorem pw_imp {e : Expr} {t t' : TT} (h : PW X e t) (i : ∀ σ H Q, t' σ H Q → t σ H Q) : PW X e t' := ⟨fun wh pins s σ H Q I q => h.run wh pins s σ H Q I (i σ H Q q)⟩
theorem dw_and (ha : DT X c a p) (hb : DW X c (.BoolOp .And (b :: rest) pos) q) : DW X c (.BoolOp .And (a :: b :: rest) pos) (andT p q) :=
  ⟨pw_imp (pw_and ha hb.pw) fun σ H Q h => by
    obtain ⟨F, S, r, g⟩ := h
    refine ⟨F, S, r, got_bnd g fun F1 S1 b H1 s1 r1 g1 => ?_⟩
    cases b with
    | true => exact ⟨F1, S1, r1, g1⟩
    | false => exact got_ret g1 r1⟩
theorem dw_or (ha : DT X c a p) (hb : DW X c (.BoolOp .Or (b :: rest) pos) q) : DW X c (.BoolOp .Or (a :: b :: rest) pos) (orT p q) :=
  ⟨pw_imp (pw_or ha hb.pw) fun σ H Q h => by
    obtain ⟨F, S, r, g⟩ := h
    refine ⟨F, S, r, got_bnd g fun F1 S1 b H1 s1 r1 g1 => ?_⟩
    cases b with
    | false => exact ⟨F1, S1, r1, g1⟩
    | true => exact got_ret g1 r1⟩
theorem dt_not (ha : DT X c a p) : DT X c (.UnaryOp .Not a pos) (notT p) :=
  pt_imp (pt_not ha) fun σ H Q h => by
    obtain ⟨F, S, r, g⟩ := h
    exact ⟨F, S, r, got_bnd g fun F1 S1 b H1 s1 r1 g1 => got_ret g1 r1⟩
/-- and, or, not as values, of bools -/
def andV (m n : MV D) : MV D := bnd (toB m) fun b => if b = true then n else ret (.bool false)
def orV (m n : MV D) : MV D := bnd (toB m) fun b => if b = true then ret (.bool true) else n
def notV (m : MV D) : MV D := bnd (toB m) fun b => ret (.bool (!b))
theorem go_toB {k : Bool → MV D} {Q Q1 : VK} (h : Go K c (bnd (toB m) k S) F σ Q)
    (i : ∀ F1 S1 b H1, Same F F1 → Rel K c F1 S1 σ H1 → Go K c (k b S1) F1 σ Q → Q1 (.bl b) H1) : Go K c (m S) F σ Q1 := by
  obtain ⟨d, S', e, q⟩ := h
  obtain ⟨x, S1, e1, e2⟩ := bnd_some e
  refine ⟨.bool x, S1, toB_some e1, fun F1 H1 v s1 r1 d1 => ?_⟩
  cases d1
  exact i F1 S1 x H1 s1 r1 ⟨d, S', e2, fun F' H' w s2 r2 d2 => q F' H' w (s1.trans s2) r2 d2⟩
theorem go_ret {x : D} {Q : VK} {v : V} (h : Go K c (ret x S) F σ Q) (r : Rel K c F S σ H) (d : Dp K F v x) : Q v H := by
  obtain ⟨d', S', e, q⟩ := h
  cases e
  exact q F H v (Same.refl F) r d
theorem de_and (ha : DE X c a m) (hb : DE X c (.BoolOp .And (b :: rest) pos) n) : DE X c (.BoolOp .And (a :: b :: rest) pos) (andV m n) :=
  pe_imp (pe_and ha hb) fun σ H Q h => by
    obtain ⟨F, S, r, g⟩ := h
    refine ⟨F, S, r, go_toB g fun F1 S1 b H1 s1 r1 g1 => ⟨b, rfl, ?_⟩⟩
    cases b with
    | true => exact ⟨F1, S1, r1, g1⟩
    | false => exact go_ret g1 r1 (.bl false)
theorem de_or (ha : DE X c a m) (hb : DE X c (.BoolOp .Or (b :: rest) pos) n) : DE X c (.BoolOp .Or (a :: b :: rest) pos) (orV m n) :=
  pe_imp (pe_or ha hb) fun σ H Q h => by
    obtain ⟨F, S, r, g⟩ := h
    refine ⟨F, S, r, go_toB g fun F1 S1 b H1 s1 r1 g1 => ⟨b, rfl, ?_⟩⟩
    cases b with
    | false => exact ⟨F1, S1, r1, g1⟩
    | true => exact go_ret g1 r1 (.bl true)
theorem de_one {op} (ha : DE X c a m) : DE X c (.BoolOp op [a] pos) m := pe_one ha
theorem de_not (ha : DE X c a m) : DE X c (.UnaryOp .Not a pos) (notV m) :=
  pe_imp (pe_not ha) fun σ H Q h => by
    obtain ⟨F, S, r, g⟩ := h
    exact ⟨F, S, r, go_toB g fun F1 S1 b H1 s1 r1 g1 => ⟨b, rfl, go_ret g1 r1 (.bl _)⟩⟩
def ifD (t : MV Bool) (m n : MV D) : MV D := bnd t fun b => if b = true then m else n
theorem got_go {k : Bool → MV D} {Q : VK} {Q1 : Bool → Hp → Prop} (h : Go K c (bnd p k S) F σ Q)
    (i : ∀ F1 S1 b H1, Same F F1 → Rel K c F1 S1 σ H1 → Go K c (k b S1) F1 σ Q → Q1 b H1) : GoT K c (p S) F σ Q1 := by
  obtain ⟨d, S', e, q⟩ := h
  obtain ⟨x, S1, e1, e2⟩ := bnd_some e
  exact ⟨x, S1, e1, fun F1 H1 s1 r1 => i F1 S1 x H1 s1 r1 ⟨d, S', e2, fun F' H' w s2 r2 d2 => q F' H' w (s1.trans s2) r2 d2⟩⟩
theorem de_if {t : Expr} (ht : DT X c t p) (ha : DE X c a m) (hb : DE X c b n) : DE X c (.IfExp t a b pos) (ifD p m n) :=
  pe_imp (pe_ifExp ht ha hb) fun σ H Q h => by
    obtain ⟨F, S, r, g⟩ := h
    refine ⟨F, S, r, got_go g fun F1 S1 b H1 s1 r1 g1 => ?_⟩
    cases b with
    | true => exact ⟨F1, S1, r1, g1⟩
    | false => exact ⟨F1, S1, r1, g1⟩
/-- a < b < c -/
def chn (f g : D → D → Option D) (m n l : MV D) : MV D := bnd m fun x => bnd n fun y => bnd (toB (opt (f x y))) fun b => if b = true then bnd l fun z => opt (g y z) else ret (.bool false)
theorem t_chn {g : D → D → Option D} {l : MV D} {σ : L2.St} {H : Hp} {Q : VK} (h : tD K c (chn f g m n l) σ H Q) : tChain (r2D K f) (r2D K g) (tD K c m) (tD K c n) (tD K c l) σ H Q := by
  obtain ⟨F, S, r, w⟩ := h
  refine ⟨F, S, r, go_bnd w fun F1 S1 x v H1 s1 r1 d1 g1 => ⟨F1, S1, r1, go_bnd g1 fun F2 S2 y w H2 s2 r2 d2 g2 => ?_⟩⟩
  obtain ⟨d, S', e, q⟩ := g2
  obtain ⟨b, S3, e1, e2⟩ := bnd_some e
  have e1' := toB_some e1
  obtain ⟨e3, e4⟩ := opt_some e1'
  subst e4
  refine ⟨F2, x, y, .bool b, r2.fh, Dp.up s2 x v d1, d2, e3, res_of r2 fun F3 H3 u s3 r3 d3 => ?_⟩
  cases d3
  refine ⟨b, rfl, ?_⟩
  cases b with
  | true =>
    have e2' : bnd l (fun z => opt (g y z)) S3 = some (d, S') := e2
    refine ⟨F3, S3, r3, go_bnd (k := fun z => opt (g y z)) ⟨d, S', e2', fun F' H' w s r' dd => q F' H' w (s3.trans s) r' dd⟩ fun F4 S4 z w' H4 s4 r4 d4 g4 => ?_⟩
    obtain ⟨dd, S5, e5, q5⟩ := g4
    obtain ⟨e6, e7⟩ := opt_some e5
    subst e7
    exact ⟨F4, y, z, dd, r4.fh, Dp.up (s3.trans s4) y w d2, d4, e6, res_of r4 q5⟩
  | false =>
    cases e2
    exact q F3 H3 _ s3 r3 (.bl false)
theorem de_chain {op op' : CmpOp} {e : Expr} {g : D → D → Option D} {l : MV D} (ho : OpR X (compareOp op) (r2D X.K f)) (ho' : OpR X (compareOp op') (r2D X.K g)) (ha : DE X c a m) (hb : DE X c b n) (hc : DE X c e l)
    (hm : lastMarks [op, op'] [b, e] = false := by with_unfolding_all rfl) : DE X c (.Compare a [op, op'] [b, e] pos) (chn f g m n l) :=
  pe_imp (pe_chain ho ho' ha hb hc hm) fun _ _ _ h => t_chn h
theorem dt_chain {op op' : CmpOp} {e : Expr} {g : D → D → Option D} {l : MV D} (ho : OpR X (compareOp op) (r2D X.K f)) (ho' : OpR X (compareOp op') (r2D X.K g)) (ha : DE X c a m) (hb : DE X c b n) (hc : DE X c e l)
    (hm : lastMarks [op, op'] [b, e] = false := by with_unfolding_all rfl) : DT X c (.Compare a [op, op'] [b, e] pos) (toB (chn f g m n l)) :=
  pt_imp (pt_chain ho ho' ha hb hc hm) fun σ H Q h => by
    obtain ⟨F, S, r, w⟩ := h
    have g' : Go X.K c (chn f g m n l S) F σ fun x H' => ∃ k, x = .bl k ∧ Q k H' := got_toB w fun F1 S1 b H1 _ _ q => ⟨b, rfl, q⟩
    exact t_chn ⟨F, S, r, g'⟩
end
end DL

-- part DL3
set_option Elab.async false
set_option linter.all false
set_option maxRecDepth 100000
set_option maxHeartbeats 1000000
/-! DL3: arguments, calls, displays, slices, built-in functions. -/
namespace DL
open PySem PySem.Spec PyProof.Rows L2

/-! ### argument lists of data alone -/
def GoL (K : PySem.W.Frag) (c : Fr) (r : Option (List D × Sta)) (F : Hp) (σ : L2.St) (Q : List V → Hp → Prop) : Prop :=
  ∃ as S', r = some (as, S') ∧ ∀ F' H' vs, Same F F' → Rel K c F' S' σ H' → DpAll K F' vs as → Q vs H'
def tL (K : PySem.W.Frag) (c : Fr) (m : MV (List D)) : TA := fun σ H Q => ∃ F S, Rel K c F S σ H ∧ GoL K c (m S) F σ Q
def DL (X : Cx) (c : Fr) (es : List Expr) (m : MV (List D)) : Prop := PA X es (tL X.K c m)
def consL (m : MV D) (n : MV (List D)) : MV (List D) := bnd m fun x => bnd n fun xs => ret (x :: xs)
def consA (m : MV D) (n : MV (List Arg)) : MV (List Arg) := bnd m fun x => bnd n fun xs => ret (.d x :: xs)
def srcA (i : Nat) (n : MV (List Arg)) : MV (List Arg) := fun S => match S.env[i]? with
  | some .src => bnd n (fun xs => ret (Arg.src :: xs)) S
  | _ => none
section
variable {X : Cx} {c : Fr} {K : PySem.W.Frag} {F : Hp} {S : Sta} {σ : L2.St} {H : Hp} {e : Expr} {es : List Expr} {m : MV D} {n : MV (List D)} {l : MV (List Arg)} {pos : Pos}
theorem dl_nil : DL X c [] (ret []) := pa_imp pa_nil fun σ H Q h => by
  obtain ⟨F, S, r, as, S', e, q⟩ := h
  cases e
  exact q F H [] (Same.refl F) r .nil
theorem dl_cons (ha : DE X c e m) (hr : DL X c es n) (hs : starEach (e :: es) X.env = (false, eval e X.env) :: starEach es X.env := by rfl) : DL X c (e :: es) (consL m n) :=
  pa_imp (pa_cons ha hr hs) fun σ H Q h => by
    obtain ⟨F, S, r, as, S', e, q⟩ := h
    obtain ⟨x, S1, e1, e2⟩ := bnd_some e
    obtain ⟨xs, S2, e3, e4⟩ := bnd_some e2
    cases e4
    refine ⟨F, S, r, x, S1, e1, fun F1 H1 v s1 r1 d1 => ⟨F1, S1, r1, xs, _, e3, fun F2 H2 vs s2 r2 d2 => ?_⟩⟩
    exact q F2 H2 (v :: vs) (s1.trans s2) r2 (.cons (Dp.up s2 x v d1) d2)
theorem da_nil : DA X c [] (ret []) := pa_imp pa_nil fun σ H Q h => by
  obtain ⟨F, S, r, as, S', e, q⟩ := h
  cases e
  exact q F H [] (Same.refl F) r .nil
theorem da_cons (ha : DE X c e m) (hr : DA X c es l) (hs : starEach (e :: es) X.env = (false, eval e X.env) :: starEach es X.env := by rfl) : DA X c (e :: es) (consA m l) :=
  pa_imp (pa_cons ha hr hs) fun σ H Q h => by
    obtain ⟨F, S, r, as, S', e, q⟩ := h
    obtain ⟨x, S1, e1, e2⟩ := bnd_some e
    obtain ⟨xs, S2, e3, e4⟩ := bnd_some e2
    cases e4
    refine ⟨F, S, r, x, S1, e1, fun F1 H1 v s1 r1 d1 => ⟨F1, S1, r1, xs, _, e3, fun F2 H2 vs s2 r2 d2 => ?_⟩⟩
    exact q F2 H2 (v :: vs) (s1.trans s2) r2 (.cons (Dp.up s2 x v d1) d2)
/-- the source as an argument -/
theorem da_src (i : Nat) {x : Str} {p : Pos} (hr : DA X c es l) (hN : X.N[i]? = some x := by rfl) (hv : Vis X.env.scope x := by first | exact Or.inl rfl | exact Or.inr (Or.inl rfl) | exact Or.inr (Or.inr rfl)) (hd : (x == ("__debug__" : Str)) = false := by decide)
    (hcd : (x == ("__classdict__" : Str)) = false := by decide) (hs : starEach (.Name x p :: es) X.env = (false, eval (.Name x p) X.env) :: starEach es X.env := by rfl) : DA X c (.Name x p :: es) (srcA i l) :=
  pa_imp (pa_cons (pe_var hN hv hd hcd) hr hs) fun σ H Q h => by
    obtain ⟨F, S, r, as, S', e, q⟩ := h
    unfold srcA at e
    cases z : S.env[i]? with
    | none =>
      rw [z] at e
      cases e
    | some y =>
      rw [z] at e
      cases y with
      | un => cases e
      | fz d => cases e
      | own ds => cases e
      | src =>
        have e' : bnd l (fun xs => ret (Arg.src :: xs)) S = some (as, S') := e
        obtain ⟨xs, S2, e3, e4⟩ := bnd_some e'
        cases e4
        refine ⟨.ref c.ps, r.src_at z, F, S, r, xs, _, e3, fun F2 H2 vs s2 r2 d2 => ?_⟩
        exact q F2 H2 (.ref c.ps :: vs) s2 r2 (.cons rfl d2)

/-! ### defs -/
abbrev DF := List Arg → Src → Option (D × Src)
def spD (n : Nat) (m : DF) (K : PySem.W.Frag) : Sp := fun vs H Q _ => ∃ ps pc F as s d s', as.length = n ∧ Same F H ∧ ArgsOk K ps F vs as ∧ SrcAt ps pc s H ∧ F ps = none ∧ F pc = none ∧ m as s = some (d, s') ∧
  ∀ F' H' v, Same F F' → Same F' H' → (∀ a o, F' a = some o → F a = some o ∨ H a = none) → (∀ a o, H a = some o → a ≠ ps → a ≠ pc → H' a = some o) → SrcAt ps pc s' H' → Dp K F' v d → Q v H'
theorem ArgsOk.len {ps : Addr} : ∀ {vs : List V} {as : List Arg}, ArgsOk K ps F vs as → vs.length = as.length
  | _, _, .nil => rfl
  | _, _, .cons _ t => by simp [ArgsOk.len t]
theorem spD_len {n : Nat} {f : DF} {vs : List V} {Q : VK} {E : XK} (h : spD n f K vs H Q E) : vs.length = n := by
  obtain ⟨ps, pc, F, as, s, d, s', h1, h2, h3, _⟩ := h
  rw [h3.len, h1]
def callD (f : DF) (l : MV (List Arg)) : MV D := bnd l fun as => fun S => match f as S.src with
  | some (d, s') => some (d, { S with src := s' })
  | none => none
theorem t_call {n : Nat} {f : DF} {σ : L2.St} {H : Hp} {Q : VK} {E : XK} (hn : ∀ S as S', l S = some (as, S') → as.length = n) (h : tD K c (callD f l) σ H Q) : tCall (spD n f K) [] E (tA K c l) σ H Q := by
  obtain ⟨F, S, r, d, S', e, q⟩ := h
  obtain ⟨as, S1, e1, e2⟩ := bnd_some e
  refine ⟨F, S, r, as, S1, e1, fun F1 H1 vs s1 r1 a1 => ?_⟩
  show spD n f K (vs ++ []) H1 Q E
  rw [List.append_nil]
  cases z : f as S1.src with
  | none =>
    rw [z] at e2
    cases e2
  | some p =>
    rw [z] at e2
    cases e2
    refine ⟨c.ps, c.pc, F1, as, S1.src, p.1, p.2, hn S as S1 e1, r1.fh, a1, r1.sr, r1.fs, r1.fc, z, fun F' H' v g1 g2 g3 g4 g5 g6 => ?_⟩
    have Hs : H1 c.ps ≠ none := fun w => by
      have := r1.sr.d
      rw [w] at this
      cases this
    have Hc : H1 c.pc ≠ none := fun w => by
      have := r1.sr.l
      rw [w] at this
      cases this
    have fs' : F' c.ps = none := by
      cases w : F' c.ps with
      | none => rfl
      | some o =>
        rcases g3 _ _ w with z | z
        · rw [r1.fs] at z
          cases z
        · exact absurd z Hs
    have fc' : F' c.pc = none := by
      cases w : F' c.pc with
      | none => rfl
      | some o =>
        rcases g3 _ _ w with z | z
        · rw [r1.fc] at z
          cases z
        · exact absurd z Hc
    have ff : ∀ a, H1 a ≠ none → F1 a = none → F' a = none := fun a h1 h2 => by
      cases w : F' a with
      | none => rfl
      | some o =>
        rcases g3 _ _ w with z | z
        · rw [h2] at z
          cases z
        · exact absurd z h1
    refine q F' H' v (s1.trans g1) ⟨r1.f0.trans g1, g2, fun a o w => ?_, fun a o w n1 n2 => g4 a o (r1.kp a o w n1 n2) n1 n2, r1.hs, r1.hc, g5, fs', fc', r1.len, fun i x w => ?_, r1.sep⟩ g6
    · rcases g3 a o w with z | z
      · exact r1.fr a o z
      · refine .inr ?_
        cases w0 : c.H0 a with
        | none => rfl
        | some o' =>
          by_cases ha : a = c.ps
          · exact absurd (ha ▸ z) Hs
          · by_cases hb : a = c.pc
            · exact absurd (hb ▸ z) Hc
            · have := r1.kp a o' w0 ha hb
              rw [z] at this
              cases this
    · refine (r1.sl i x w).mono g1 fun p h1 h2 ⟨vs, h3⟩ => ?_
      have n1 : p ≠ c.ps := fun w => r1.hs (w ▸ h2)
      have n2 : p ≠ c.pc := fun w => r1.hc (w ▸ h2)
      exact ⟨ff p (by rw [h3]; exact fun w => nomatch w) h1, (g4 p _ h3 n1 n2).trans h3.symm⟩
theorem de_call {n : Nat} {f : DF} {k : Nat} {ff : Addr} {fd : FuncData} {ps : List Str} {x : Str} {p : Pos} {E : XK} (G : FnOk X.prog X.w X.K X.mg X.base CX0 k ff fd ps (spD n f X.K)) (hr : Room k X.A) (hg : Gl X x) (hm : X.mg x = some (.ref ff)) (hk : PySem.W.keepIn X.K (.ref ff) = true) (hb : Binds X.K fd ps [])
    (ha : DA X c (e :: es) l) (hn : ∀ S as S', l S = some (as, S') → as.length = n) (hdb : (x == ("__debug__" : Str)) = false := by decide) (he : starEach (e :: es) X.env = (false, eval e X.env) :: starEach es X.env := by rfl) (hpl : (backTo pos (starEach es X.env)).any (·.1) = false := by rfl) :
    DE X c (.Call (.Name x p) (e :: es) [] pos) (callD f l) :=
  pe_imp (pe_call G hr hg hm hk hb .nil pass0 ha hdb he hpl) fun σ H Q h => t_call hn h
theorem len_nil {S S' : Sta} {as : List Arg} (h : ret ([] : List Arg) S = some (as, S')) : as.length = 0 := by
  cases h
  rfl
theorem len_cons {k : Nat} (h : ∀ S as S', l S = some (as, S') → as.length = k) : ∀ S as S', consA m l S = some (as, S') → as.length = k + 1 := fun S as S' e => by
  obtain ⟨x, S1, e1, e2⟩ := bnd_some e
  obtain ⟨xs, S2, e3, e4⟩ := bnd_some e2
  cases e4
  simp [h _ _ _ e3]
theorem len_src {k i : Nat} (h : ∀ S as S', l S = some (as, S') → as.length = k) : ∀ S as S', srcA i l S = some (as, S') → as.length = k + 1 := fun S as S' e => by
  unfold srcA at e
  split at e
  · obtain ⟨xs, S2, e3, e4⟩ := bnd_some e
    cases e4
    simp [h _ _ _ e3]
  · cases e

/-! ### displays -/
def tupD (n : MV (List D)) : MV D := bnd n fun xs => if xs.length ≤ sizeLine then ret (.tuple xs) else fun _ => none
def lstD (n : MV (List D)) : MV D := bnd n fun xs => if xs.length ≤ sizeLine then ret (.list xs) else fun _ => none
theorem de_tup {x1} (h : DL X c es n) : DE X c (.Tuple es x1 pos) (tupD n) :=
  pe_imp (pe_tup h) fun σ H Q h => by
    obtain ⟨F, S, r, d, S', e, q⟩ := h
    obtain ⟨xs, S1, e1, e2⟩ := bnd_some e
    refine ⟨F, S, r, xs, S1, e1, fun F1 H1 vs s1 r1 d1 => ?_⟩
    by_cases z : xs.length ≤ sizeLine
    · rw [if_pos z] at e2
      cases e2
      refine ⟨by rw [d1.len]; exact z, fun p hp => ?_⟩
      have fp := r1.fh.free hp
      exact q _ _ _ (s1.trans (upd_up fp)) (r1.alloc hp) (.tup (.inl (.inl upd_same)) (DpAll.up (upd_up fp) _ _ d1))
    · rw [if_neg z] at e2
      cases e2
theorem de_lst (h : DL X c es n) : DE X c (.List es pos) (lstD n) :=
  pe_imp (pe_lst h) fun σ H Q h => by
    obtain ⟨F, S, r, d, S', e, q⟩ := h
    obtain ⟨xs, S1, e1, e2⟩ := bnd_some e
    refine ⟨F, S, r, xs, S1, e1, fun F1 H1 vs s1 r1 d1 => ?_⟩
    by_cases z : xs.length ≤ sizeLine
    · rw [if_pos z] at e2
      cases e2
      refine ⟨by rw [d1.len]; exact z, fun p hp => ?_⟩
      have fp := r1.fh.free hp
      exact q _ _ _ (s1.trans (upd_up fp)) (r1.alloc hp) (.lst (.inl (.inl upd_same)) (DpAll.up (upd_up fp) _ _ d1))
    · rw [if_neg z] at e2
      cases e2

/-! ### slices -/
def cutD (xs : List D) (lo hi : Option Int) : List D := (xs.drop (HT.sIx xs.length 0 lo)).take (HT.sIx xs.length xs.length hi - HT.sIx xs.length 0 lo)
def slD (x : D) (lo hi : Option Int) : Option D := match x with
  | .list xs => some (.list (cutD xs lo hi))
  | .tuple xs => some (.tuple (cutD xs lo hi))
  | _ => none
theorem cut_all {vs : List V} {ds : List D} {lo hi : Option Int} (h : DpAll K F vs ds) : DpAll K F (cutV vs lo hi) (cutD ds lo hi) := by
  unfold cutV cutD
  rw [h.len]
  exact (h.drop _).take _
def r3D (K : PySem.W.Frag) : V → Option Int → Option Int → Hp → VK → Prop := fun v lo hi H Q => ∃ F x d, Same F H ∧ Dp K F v x ∧ slD x lo hi = some d ∧ RES K F H d Q
theorem slr_D : SlR X (r3D X.K) := by
  intro pins s σ H x v vl vu lo hi sl Q I rx hs pl pu h
  obtain ⟨F, a, d, e, ha, hf, q⟩ := h
  cases ha with
  | @lst p xs ds h1 h2 =>
    cases hf
    refine sl_list pins s σ H _ v vl vu lo hi sl Q I rx hs pl pu ⟨p, xs, rfl, sqL_up e h1, fun l hl => ?_⟩
    exact q.2 l _ hl (.lst (.inl (.inl upd_same)) (DpAll.up (upd_up (Same.free e hl)) _ _ (cut_all h2)))
  | @tup p xs ds h1 h2 =>
    cases hf
    refine sl_tupA pins s σ H _ v vl vu lo hi sl Q I rx hs pl pu ⟨p, xs, rfl, sqT_up e h1, fun w => ?_, fun w l hl => ?_⟩
    · refine q.1 _ (.tup h1 ?_)
      have := cut_all (lo := lo) (hi := hi) h2
      unfold cutV at this
      rw [w.1, w.2] at this
      simpa using this
    · exact q.2 l _ hl (.tup (.inl (.inl upd_same)) (DpAll.up (upd_up (Same.free e hl)) _ _ (cut_all h2)))
  | non => exact nomatch hf
  | bl _ => exact nomatch hf
  | str _ => exact nomatch hf
  | int _ => exact nomatch hf
def GoO (K : PySem.W.Frag) (c : Fr) (r : Option (Option Int × Sta)) (F : Hp) (σ : L2.St) (Q : Option Int → Hp → Prop) : Prop :=
  ∃ o S', r = some (o, S') ∧ ∀ F' H', Same F F' → Rel K c F' S' σ H' → Q o H'
def tO (K : PySem.W.Frag) (c : Fr) (m : MV (Option Int)) : TO := fun σ H Q => ∃ F S, Rel K c F S σ H ∧ GoO K c (m S) F σ Q
def DO (X : Cx) (c : Fr) (e : Option Expr) (m : MV (Option Int)) : Prop := PO X e (tO X.K c m)
theorem po_imp {e : Option Expr} {t t' : TO} (h : PO X e t) (i : ∀ σ H Q, t' σ H Q → t σ H Q) : PO X e t' := ⟨fun pins s σ H Q I q => h.run pins s σ H Q I (i σ H Q q)⟩
def someI (m : MV D) : MV (Option Int) := bnd m fun d => match d with
  | .int i => ret (some i)
  | _ => fun _ => none
theorem do_none : DO X c none (ret none) := po_imp po_none fun σ H Q h => by
  obtain ⟨F, S, r, o, S', e, q⟩ := h
  cases e
  exact q F H (Same.refl F) r
theorem do_some (h : DE X c e m) : DO X c (some e) (someI m) := po_imp (po_some h) fun σ H Q h => by
  obtain ⟨F, S, r, o, S', e, q⟩ := h
  obtain ⟨x, S1, e1, e2⟩ := bnd_some e
  refine ⟨F, S, r, x, S1, e1, fun F1 H1 v s1 r1 d1 => ?_⟩
  cases d1 with
  | int i =>
    cases e2
    exact ⟨i, rfl, q F1 H1 s1 r1⟩
  | non => exact nomatch e2
  | bl _ => exact nomatch e2
  | str _ => exact nomatch e2
  | lst _ _ => exact nomatch e2
  | tup _ _ => exact nomatch e2
def sliceD (m : MV D) (lo hi : MV (Option Int)) : MV D := bnd m fun x => bnd lo fun a => bnd hi fun b => opt (slD x a b)
theorem de_slice {lo hi : Option Expr} {a b : MV (Option Int)} {p2} (h : DE X c e m) (hl : DO X c lo a) (hu : DO X c hi b) : DE X c (.Subscript e (.Slice lo hi none p2) pos) (sliceD m a b) :=
  pe_imp (pe_slice slr_D h hl hu) fun σ H Q h => by
    obtain ⟨F, S, r, g⟩ := h
    refine ⟨F, S, r, go_bnd g fun F1 S1 x v H1 s1 r1 d1 g1 => ?_⟩
    obtain ⟨d, S', e, q⟩ := g1
    obtain ⟨o1, S2, e2, e3⟩ := bnd_some e
    obtain ⟨o2, S3, e4, e5⟩ := bnd_some e3
    obtain ⟨e6, e7⟩ := opt_some e5
    subst e7
    refine ⟨F1, S1, r1, o1, S2, e2, fun F2 H2 s2 r2 => ⟨F2, S2, r2, o2, _, e4, fun F3 H3 s3 r3 => ?_⟩⟩
    exact ⟨F3, x, d, r3.fh, Dp.up (s2.trans s3) x v d1, e6, res_of r3 fun F' H' w s' r' d' => q F' H' w ((s2.trans s3).trans s') r' d'⟩

/-! ### built-in functions -/
def callN (g : List D → Option D) (n : MV (List D)) : MV D := bnd n fun xs => opt (g xs)
theorem t_callN {g : List D → Option D} {σ : L2.St} {H : Hp} {Q : VK} (h : tD K c (callN g n) σ H Q) : tCB (rnD K g) (tL K c n) σ H Q := by
  obtain ⟨F, S, r, d, S', e, q⟩ := h
  obtain ⟨xs, S1, e1, e2⟩ := bnd_some e
  obtain ⟨e3, e4⟩ := opt_some e2
  subst e4
  exact ⟨F, S, r, xs, _, e1, fun F1 H1 vs s1 r1 d1 => ⟨F1, xs, d, r1.fh, d1, e3, res_of r1 fun F' H' v s' r' d' => q F' H' v (s1.trans s') r' d'⟩⟩
theorem de_callB {id : String} {g : List D → Option D} {x : Str} {p : Pos} (hc : CallR X (.builtin id) (rnD X.K g)) (hg : Gl X x) (hm : X.mg x = none) (hv : bootBuiltins x = some (.builtin id)) (ha : DL X c (e :: es) n) (hn : x ≠ "__name__" := by decide) (hdb : (x == ("__debug__" : Str)) = false := by decide)
    (he : starEach (e :: es) X.env = (false, eval e X.env) :: starEach es X.env := by rfl) (hpl : (backTo pos (starEach es X.env)).any (·.1) = false := by rfl) : DE X c (.Call (.Name x p) (e :: es) [] pos) (callN g n) :=
  pe_imp (pe_callB hc hg hm hv ha hn hdb he hpl) fun _ _ _ h => t_callN h
theorem de_callTy {T : String} {g : List D → Option D} {x : Str} {p : Pos} (hc : CallR X (.type T) (rnD X.K g)) (hg : Gl X x) (hm : X.mg x = none) (hv : bootBuiltins x = some (.type T)) (ha : DL X c (e :: es) n) (hn : x ≠ "__name__" := by decide) (hdb : (x == ("__debug__" : Str)) = false := by decide)
    (he : starEach (e :: es) X.env = (false, eval e X.env) :: starEach es X.env := by rfl) (hpl : (backTo pos (starEach es X.env)).any (·.1) = false := by rfl) : DE X c (.Call (.Name x p) (e :: es) [] pos) (callN g n) :=
  pe_imp (pe_callTy hc hg hm hv ha hn hdb he hpl) fun _ _ _ h => t_callN h
theorem DpAll.one {K : PySem.W.Frag} {F : Hp} {vs : List V} {x : D} (h : DpAll K F vs [x]) : ∃ v, vs = [v] ∧ Dp K F v x := by
  cases h with
  | cons h t =>
    cases t
    exact ⟨_, rfl, h⟩
theorem DpAll.two {K : PySem.W.Frag} {F : Hp} {vs : List V} {x y : D} (h : DpAll K F vs [x, y]) : ∃ v w, vs = [v, w] ∧ Dp K F v x ∧ Dp K F w y := by
  cases h with
  | cons h t =>
    obtain ⟨w, rfl, h2⟩ := DpAll.one t
    exact ⟨_, w, rfl, h, h2⟩
def lenD : List D → Option D
  | [.list xs] => some (.int xs.length)
  | [.tuple xs] => some (.int xs.length)
  | _ => none
theorem callr_len : CallR X (.builtin "len") (rnD X.K lenD) := callr_imp call_len_seq fun vs H Q ⟨F, xs, d, e, ha, hf, q⟩ => by
  match xs, hf with
  | [.list xs], hf =>
    obtain ⟨v, rfl, hv⟩ := DpAll.one ha
    cases hf
    cases hv with
    | @lst p ys _ h1 h2 => exact ⟨p, ys, rfl, .inl (sqL_up e h1), by rw [h2.len]; exact q.1 _ (.int _)⟩
  | [.tuple xs], hf =>
    obtain ⟨v, rfl, hv⟩ := DpAll.one ha
    cases hf
    cases hv with
    | @tup p ys _ h1 h2 => exact ⟨p, ys, rfl, .inr (sqT_up e h1), by rw [h2.len]; exact q.1 _ (.int _)⟩
def absD : List D → Option D
  | [.int i] => some (.int (if i < 0 then -i else i))
  | _ => none
theorem callr_abs : CallR X (.builtin "abs") (rnD X.K absD) := callr_imp call_abs fun vs H Q ⟨F, xs, d, e, ha, hf, q⟩ => by
  match xs, hf with
  | [.int i], hf =>
    obtain ⟨v, rfl, hv⟩ := DpAll.one ha
    cases hf
    cases hv
    exact ⟨i, rfl, q.1 _ (.int _)⟩
def max2D : List D → Option D
  | [.int i, .int j] => some (.int (if j > i then j else i))
  | _ => none
def min2D : List D → Option D
  | [.int i, .int j] => some (.int (if j < i then j else i))
  | _ => none
theorem callr_max2 (hc : X.calm = true) : CallR X (.builtin "max") (rnD X.K max2D) := callr_imp (call_max2 hc) fun vs H Q ⟨F, xs, d, e, ha, hf, q⟩ => by
  match xs, hf with
  | [.int i, .int j], hf =>
    obtain ⟨v, w, rfl, hv, hw⟩ := DpAll.two ha
    cases hf
    cases hv
    cases hw
    exact ⟨i, j, rfl, q.1 _ (.int _)⟩
theorem callr_min2 (hc : X.calm = true) : CallR X (.builtin "min") (rnD X.K min2D) := callr_imp (call_min2 hc) fun vs H Q ⟨F, xs, d, e, ha, hf, q⟩ => by
  match xs, hf with
  | [.int i, .int j], hf =>
    obtain ⟨v, w, rfl, hv, hw⟩ := DpAll.two ha
    cases hf
    cases hv
    cases hw
    exact ⟨i, j, rfl, q.1 _ (.int _)⟩
def intD : List D → Option D
  | [.int i] => some (.int i)
  | [.bool k] => some (.int (if k then 1 else 0))
  | _ => none
theorem callr_int : CallR X (.type "int") (rnD X.K intD) := callr_imp call_int1 fun vs H Q ⟨F, xs, d, e, ha, hf, q⟩ => by
  match xs, hf with
  | [.int i], hf =>
    obtain ⟨v, rfl, hv⟩ := DpAll.one ha
    cases hf
    cases hv
    exact .inl ⟨i, rfl, q.1 _ (.int _)⟩
  | [.bool i], hf =>
    obtain ⟨v, rfl, hv⟩ := DpAll.one ha
    cases hf
    cases hv
    exact .inr ⟨i, rfl, q.1 _ (.int _)⟩
def tupleD : List D → Option D
  | [.list xs] => some (.tuple xs)
  | [.tuple xs] => some (.tuple xs)
  | _ => none
theorem callr_tuple : CallR X (.type "tuple") (rnD X.K tupleD) := callr_imp call_tuple_of fun vs H Q ⟨F, xs, d, e, ha, hf, q⟩ => by
  match xs, hf with
  | [.list xs], hf =>
    obtain ⟨v, rfl, hv⟩ := DpAll.one ha
    cases hf
    cases hv with
    | @lst p ys _ h1 h2 => exact ⟨p, ys, rfl, .inl ⟨sqL_up e h1, fun l hl => q.2 l _ hl (.tup (.inl (.inl upd_same)) (DpAll.up (upd_up (Same.free e hl)) _ _ h2))⟩⟩
  | [.tuple xs], hf =>
    obtain ⟨v, rfl, hv⟩ := DpAll.one ha
    cases hf
    cases hv with
    | @tup p ys _ h1 h2 => exact ⟨p, ys, rfl, .inr ⟨sqT_up e h1, q.1 _ (.tup h1 h2)⟩⟩
def listD : List D → Option D
  | [.list xs] => some (.list xs)
  | [.tuple xs] => some (.list xs)
  | _ => none
theorem callr_list : CallR X (.type "list") (rnD X.K listD) := callr_imp call_list_of fun vs H Q ⟨F, xs, d, e, ha, hf, q⟩ => by
  match xs, hf with
  | [.list xs], hf =>
    obtain ⟨v, rfl, hv⟩ := DpAll.one ha
    cases hf
    cases hv with
    | @lst p ys _ h1 h2 => exact ⟨p, ys, rfl, .inl (sqL_up e h1), fun l hl => q.2 l _ hl (.lst (.inl (.inl upd_same)) (DpAll.up (upd_up (Same.free e hl)) _ _ h2))⟩
  | [.tuple xs], hf =>
    obtain ⟨v, rfl, hv⟩ := DpAll.one ha
    cases hf
    cases hv with
    | @tup p ys _ h1 h2 => exact ⟨p, ys, rfl, .inr (sqT_up e h1), fun l hl => q.2 l _ hl (.lst (.inl (.inl upd_same)) (DpAll.up (upd_up (Same.free e hl)) _ _ h2))⟩
/-- the ints of data -/
def intsOf : List D → Option (List Int)
  | [] => some []
  | .int i :: xs => (intsOf xs).map (i :: ·)
  | _ :: _ => none
theorem intsOf_some : ∀ {xs : List D} {ns : List Int}, intsOf xs = some ns → xs = ns.map PyData.int
  | [], ns, h => by
    cases h
    rfl
  | .int i :: xs, ns, h => by
    have h' : (intsOf xs).map (i :: ·) = some ns := h
    cases z : intsOf xs with
    | none =>
      rw [z] at h'
      cases h'
    | some ms =>
      rw [z] at h'
      cases h'
      rw [intsOf_some z]
      rfl
  | .none :: _, _, h => nomatch h
  | .bool _ :: _, _, h => nomatch h
  | .str _ :: _, _, h => nomatch h
  | .list _ :: _, _, h => nomatch h
  | .tuple _ :: _, _, h => nomatch h
  | .dict _ :: _, _, h => nomatch h
theorem intsOf_map : ∀ ns : List Int, intsOf (ns.map PyData.int) = some ns
  | [] => rfl
  | n :: ns => by
    show (intsOf (ns.map PyData.int)).map (n :: ·) = some (n :: ns)
    rw [intsOf_map ns]
    rfl
def sumD : List D → Option D
  | [.list xs] => (intsOf xs).map fun ns => .int ns.sum
  | _ => none
theorem callr_sum (hc : X.calm = true) : CallR X (.builtin "sum") (rnD X.K sumD) := callr_imp (cr_sum hc) fun vs H Q ⟨F, xs, d, e, ha, hf, q⟩ => by
  match xs, hf with
  | [.list xs], hf =>
    obtain ⟨v, rfl, hv⟩ := DpAll.one ha
    have hf' : (intsOf xs).map (fun ns => PyData.int ns.sum) = some d := hf
    cases z : intsOf xs with
    | none =>
      rw [z] at hf'
      cases hf'
    | some ns =>
      rw [z] at hf'
      cases hf'
      have zz := intsOf_some z
      subst zz
      cases hv with
      | @lst p ys _ h1 h2 =>
        have := DpAll.ints h2
        subst this
        exact ⟨p, ns, rfl, sqL_up e h1, q.1 _ (.int _)⟩
def boolsOf : List D → Option (List Bool)
  | [] => some []
  | .bool i :: xs => (boolsOf xs).map (i :: ·)
  | _ :: _ => none
theorem boolsOf_some : ∀ {xs : List D} {ns : List Bool}, boolsOf xs = some ns → xs = ns.map PyData.bool
  | [], ns, h => by
    cases h
    rfl
  | .bool i :: xs, ns, h => by
    have h' : (boolsOf xs).map (i :: ·) = some ns := h
    cases z : boolsOf xs with
    | none =>
      rw [z] at h'
      cases h'
    | some ms =>
      rw [z] at h'
      cases h'
      rw [boolsOf_some z]
      rfl
  | .none :: _, _, h => nomatch h
  | .int _ :: _, _, h => nomatch h
  | .str _ :: _, _, h => nomatch h
  | .list _ :: _, _, h => nomatch h
  | .tuple _ :: _, _, h => nomatch h
  | .dict _ :: _, _, h => nomatch h
theorem boolsOf_map : ∀ ns : List Bool, boolsOf (ns.map PyData.bool) = some ns
  | [] => rfl
  | n :: ns => by
    show (boolsOf (ns.map PyData.bool)).map (n :: ·) = some (n :: ns)
    rw [boolsOf_map ns]
    rfl
def allD : List D → Option D
  | [.list xs] => (boolsOf xs).map fun ns => .bool (ns.all id)
  | _ => none
def anyD : List D → Option D
  | [.list xs] => (boolsOf xs).map fun ns => .bool (ns.any id)
  | _ => none
theorem callr_all (hc : X.calm = true) : CallR X (.builtin "all") (rnD X.K allD) := callr_imp (cr_all hc) fun vs H Q ⟨F, xs, d, e, ha, hf, q⟩ => by
  match xs, hf with
  | [.list xs], hf =>
    obtain ⟨v, rfl, hv⟩ := DpAll.one ha
    have hf' : (boolsOf xs).map (fun ns => PyData.bool (ns.all id)) = some d := hf
    cases z : boolsOf xs with
    | none =>
      rw [z] at hf'
      cases hf'
    | some ns =>
      rw [z] at hf'
      cases hf'
      have zz := boolsOf_some z
      subst zz
      cases hv with
      | @lst p ys _ h1 h2 =>
        have := DpAll.bools h2
        subst this
        exact ⟨p, ns, rfl, sqL_up e h1, q.1 _ (.bl _)⟩
theorem callr_any (hc : X.calm = true) : CallR X (.builtin "any") (rnD X.K anyD) := callr_imp (cr_any hc) fun vs H Q ⟨F, xs, d, e, ha, hf, q⟩ => by
  match xs, hf with
  | [.list xs], hf =>
    obtain ⟨v, rfl, hv⟩ := DpAll.one ha
    have hf' : (boolsOf xs).map (fun ns => PyData.bool (ns.any id)) = some d := hf
    cases z : boolsOf xs with
    | none =>
      rw [z] at hf'
      cases hf'
    | some ns =>
      rw [z] at hf'
      cases hf'
      have zz := boolsOf_some z
      subst zz
      cases hv with
      | @lst p ys _ h1 h2 =>
        have := DpAll.bools h2
        subst this
        exact ⟨p, ns, rfl, sqL_up e h1, q.1 _ (.bl _)⟩
/-- sorted ints -/
def sortI (ns : List Int) : List Int := ns.mergeSort (fun a b => decide (a ≤ b))
theorem sortI_perm (ns : List Int) : (sortI ns).Perm ns := List.mergeSort_perm ns _
theorem sortI_sorted (ns : List Int) : (sortI ns).Pairwise (· ≤ ·) := by
  have h := List.pairwise_mergeSort (le := fun a b : Int => decide (a ≤ b)) (fun a b c h1 h2 => by simp at *; omega) (fun a b => by simp; omega) ns
  exact h.imp fun {a b} hab => of_decide_eq_true hab
theorem sorted_uniq {a b : List Int} (hp : a.Perm b) (ha : a.Pairwise (· ≤ ·)) (hb : b.Pairwise (· ≤ ·)) : a = b :=
  hp.eq_of_pairwise (fun x y _ _ h1 h2 => Int.le_antisymm h1 h2) ha hb
def sortedD : List D → Option D
  | [.list xs] => (intsOf xs).map fun ns => .list ((sortI ns).map .int)
  | _ => none
theorem callr_sorted : CallR X (.builtin "sorted") (rnD X.K sortedD) := callr_imp cr_sortedI fun vs H Q ⟨F, xs, d, e, ha, hf, q⟩ => by
  match xs, hf with
  | [.list xs], hf =>
    obtain ⟨v, rfl, hv⟩ := DpAll.one ha
    have hf' : (intsOf xs).map (fun ns => PyData.list ((sortI ns).map .int)) = some d := hf
    cases z : intsOf xs with
    | none =>
      rw [z] at hf'
      cases hf'
    | some ns =>
      rw [z] at hf'
      cases hf'
      have zz := intsOf_some z
      subst zz
      cases hv with
      | @lst p ys _ h1 h2 =>
        have := DpAll.ints h2
        subst this
        refine ⟨p, ns, rfl, sqL_up e h1, fun ns' l hp hs hl => ?_⟩
        have eq : ns' = sortI ns := sorted_uniq (hp.trans (sortI_perm ns).symm) hs (sortI_sorted ns)
        subst eq
        exact q.2 l _ hl (.lst (.inl (.inl upd_same)) (DpAll.of_ints _))
end
end DL

-- part DL4
set_option Elab.async false
set_option linter.all false
set_option maxRecDepth 100000
set_option maxHeartbeats 1000000
/-! DL4: targets, what is walked, comprehensions. -/
namespace DL
open PySem PySem.Spec PyProof.Rows L2 RZ

/-! ### targets -/
inductive Pat where
  | nm (i : Nat)
  | tp (ps : List Pat)
mutual
def Pat.bind : Pat → D → List Slot → Option (List Slot)
  | .nm i, d, env => some (env.set i (.fz d))
  | .tp ps, d, env => match d with
    | .tuple ds => Pat.binds ps ds env
    | _ => none
def Pat.binds : List Pat → List D → List Slot → Option (List Slot)
  | [], [], env => some env
  | p :: ps, d :: ds, env => match Pat.bind p d env with
    | some env' => Pat.binds ps ds env'
    | none => none
  | _, _, _ => none
end
mutual
def Pat.vars : Pat → List Nat
  | .nm i => [i]
  | .tp ps => Pat.varss ps
def Pat.varss : List Pat → List Nat
  | [] => []
  | p :: ps => Pat.vars p ++ Pat.varss ps
end
mutual
def gP (K : PySem.W.Frag) : Pat → TG
  | .nm i => gName i
  | .tp ps => gTup K ps.length (gPs K ps)
def gPs (K : PySem.W.Frag) : List Pat → TGs
  | [] => gNil
  | p :: ps => gCons (gP K p) (gPs K ps)
end
def DG (X : Cx) (e : Expr) (p : Pat) : Prop := PG X e (gP X.K p)
def DGs (X : Cx) (es : List Expr) (ps : List Pat) : Prop := PGs X es (gPs X.K ps)
/-- σ' differs from σ at some places alone -/
def OnlyAt (vs : List Nat) (σ σ' : L2.St) : Prop := σ'.length = σ.length ∧ ∀ i, i ∉ vs → σ'[i]? = σ[i]?
theorem OnlyAt.refl (vs : List Nat) (σ : L2.St) : OnlyAt vs σ σ := ⟨rfl, fun _ _ => rfl⟩
theorem OnlyAt.trans {vs ws : List Nat} {σ σ1 σ2 : L2.St} (a : OnlyAt vs σ σ1) (b : OnlyAt ws σ1 σ2) : OnlyAt (vs ++ ws) σ σ2 :=
  ⟨b.1.trans a.1, fun i h => by
    simp only [List.mem_append, not_or] at h
    rw [b.2 i h.2, a.2 i h.1]⟩
section
variable {X : Cx} {K : PySem.W.Frag} {c : Fr} {pos : Pos}
theorem dg_nm (i : Nat) {x : Str} (hN : X.N.Nodup) (hi : X.N[i]? = some x := by rfl) (hx : Loc X.env.scope x := by first | exact Or.inl rfl | exact Or.inr rfl) (hf : X.fn x = true ∨ X.env.scope.names.lookup x = some .local := by first | exact .inl rfl | exact .inr rfl) : DG X (.Name x pos) (.nm i) := by
  unfold DG gP
  exact pg_name hN hi hx hf
theorem dg_tp {es : List Expr} {k : Nat} {ps : List Pat} (hc : X.calm = true) (h : DGs X es ps) (hn : (assignEach es X.env).length = ps.length := by rfl) (hst : (assignEach es X.env).findIdx? (·.1) = none := by rfl) : DG X (.Tuple es k pos) (.tp ps) := by
  unfold DG gP
  exact pg_tup hc h hn hst
theorem dgs_nil : DGs X [] [] := by
  unfold DGs gPs
  exact pgs_nil
theorem dgs_cons {e : Expr} {es : List Expr} {p : Pat} {ps : List Pat} (h1 : DG X e p) (h2 : DGs X es ps) (hs : (assignEach (e :: es) X.env).map (·.2) = assign e X.env :: (assignEach es X.env).map (·.2) := by rfl) : DGs X (e :: es) (p :: ps) := by
  unfold DGs gPs
  exact pgs_cons h1 h2 hs
mutual
theorem gP_run : ∀ (p : Pat) {F : Hp} {S : Sta} {σ : L2.St} {H : Hp} {v : V} {d : D} {env : List Slot} {Q : L2.St → Hp → Prop}, Rel K c F S σ H → Dp K F v d → p.bind d S.env = some env →
    (∀ σ', Rel K c F { S with env := env } σ' H → OnlyAt p.vars σ σ' → Q σ' H) → gP K p v σ H Q
  | .nm i, F, S, σ, H, v, d, env, Q, r, hd, hb, q => by
    unfold Pat.bind at hb
    cases hb
    unfold gP
    refine q _ (r.set_fz hd) ⟨by simp, fun j hj => ?_⟩
    unfold Pat.vars at hj
    simp only [List.mem_singleton] at hj
    exact List.getElem?_set_ne (Ne.symm hj)
  | .tp ps, F, S, σ, H, v, d, env, Q, r, hd, hb, q => by
    unfold Pat.bind at hb
    unfold gP
    cases hd with
    | @tup a xs ds h1 h2 =>
      have hb' : Pat.binds ps ds S.env = some env := hb
      refine ⟨a, xs, rfl, sqT_up r.fh h1, ?_, ?_⟩
      · rw [h2.len]
        exact gPs_len ps ds S.env env hb'
      · refine gPs_run ps r h2 hb' fun σ' r' o => q σ' r' ?_
        unfold Pat.vars
        exact o
    | non => cases hb
    | bl _ => cases hb
    | int _ => cases hb
    | str _ => cases hb
    | lst _ _ => cases hb
theorem gPs_run : ∀ (ps : List Pat) {F : Hp} {S : Sta} {σ : L2.St} {H : Hp} {vs : List V} {ds : List D} {env : List Slot} {Q : L2.St → Hp → Prop}, Rel K c F S σ H → DpAll K F vs ds → Pat.binds ps ds S.env = some env →
    (∀ σ', Rel K c F { S with env := env } σ' H → OnlyAt (Pat.varss ps) σ σ' → Q σ' H) → gPs K ps vs σ H Q
  | [], F, S, σ, H, vs, ds, env, Q, r, hd, hb, q => by
    unfold gPs
    cases hd with
    | nil =>
      unfold Pat.binds at hb
      cases hb
      exact ⟨rfl, q σ r (OnlyAt.refl _ σ)⟩
    | cons _ _ =>
      unfold Pat.binds at hb
      cases hb
  | p :: ps, F, S, σ, H, vs, ds, env, Q, r, hd, hb, q => by
    unfold gPs
    cases hd with
    | nil =>
      unfold Pat.binds at hb
      cases hb
    | @cons v vs d ds h1 h2 =>
      unfold Pat.binds at hb
      cases z : Pat.bind p d S.env with
      | none =>
        rw [z] at hb
        cases hb
      | some env' =>
        rw [z] at hb
        refine ⟨v, vs, rfl, gP_run p r h1 z fun σ' r' o => gPs_run ps (S := { S with env := env' }) r' h2 hb fun σ2 r2 o2 => q σ2 r2 ?_⟩
        unfold Pat.varss
        exact o.trans o2
theorem gPs_len : ∀ (ps : List Pat) (ds : List D) (env env' : List Slot), Pat.binds ps ds env = some env' → ds.length = ps.length
  | [], [], _, _, _ => rfl
  | [], _ :: _, _, _, h => by
    unfold Pat.binds at h
    cases h
  | p :: ps, [], _, _, h => by
    unfold Pat.binds at h
    cases h
  | p :: ps, d :: ds, env, env', h => by
    unfold Pat.binds at h
    cases z : Pat.bind p d env with
    | none =>
      rw [z] at h
      cases h
    | some e1 =>
      rw [z] at h
      simp [gPs_len ps ds e1 env' h]
end
end

/-! ### what is walked -/
def YOk (K : PySem.W.Frag) (ds : List D) (F : Hp) (Y : Nat → Hp → V → Hp → Prop) : Prop :=
  ∀ i c F1 S1 σ1 H1 x H2, Same F F1 → Rel K c F1 S1 σ1 H1 → Y i H1 x H2 → ∃ F2 d, Same F1 F2 ∧ Rel K c F2 S1 σ1 H2 ∧ ds[i]? = some d ∧ Dp K F2 x d
def GoI (K : PySem.W.Frag) (c : Fr) (r : Option (List D × Sta)) (F : Hp) (σ : L2.St) (R : It → Hp → Prop) : Prop :=
  ∃ ds S', r = some (ds, S') ∧ ∀ F' H' (J : It) (G : Hp → Prop) (Y : Nat → Hp → V → Hp → Prop), Same F F' → Rel K c F' S' σ H' → L2.Walk J ds.length G Y → (∀ F1 H1, Same F' F1 → Same F1 H1 → G H1) → YOk K ds F' Y → R J H'
def tI (K : PySem.W.Frag) (c : Fr) (m : MV (List D)) : TI := fun σ H R => ∃ F S, Rel K c F S σ H ∧ GoI K c (m S) F σ R
def DI (X : Cx) (c : Fr) (tg e : Expr) (m : MV (List D)) : Prop := PI X tg e (tI X.K c m)
section
variable {X : Cx} {K : PySem.W.Frag} {c : Fr} {pos p : Pos} {tg e e2 : Expr} {m : MV D} {n : MV (List D)}
theorem pi_imp {t t' : TI} (h : PI X tg e t) (i : ∀ σ H R, t' σ H R → t σ H R) : PI X tg e t' := ⟨fun pins s σ H R I q => h.run pins s σ H R I (i σ H R q)⟩
theorem pi_or {t t' : TI} (h : PI X tg e t) (h' : PI X tg e t') : PI X tg e (fun σ H R => t σ H R ∨ t' σ H R) := ⟨fun pins s σ H R I q => q.elim (h.run pins s σ H R I) (h'.run pins s σ H R I)⟩
theorem yAt_ok {F : Hp} {xs : List V} {ds : List D} (h : DpAll K F xs ds) : YOk K ds F (YAt xs) := fun i c F1 S1 σ1 H1 x H2 s r y => by
  obtain ⟨y1, y2⟩ := y
  subst y1
  obtain ⟨d, e1, e2⟩ := h.getV y2
  exact ⟨F1, d, Same.refl F1, r, e1, Dp.up s d x e2⟩
/-- a list or a tuple -/
def seqI (m : MV D) : MV (List D) := bnd m fun d => opt (items d)
theorem di_seq (h : DE X c e m) : DI X c tg e (seqI m) := by
  refine pi_imp (pi_or (pi_list (tg := tg) h) (pi_tup (tg := tg) h)) fun σ H R q => ?_
  obtain ⟨F, S, r, ds, S', e1, q⟩ := q
  obtain ⟨x, S1, e2, e3⟩ := bnd_some e1
  obtain ⟨e4, e5⟩ := opt_some e3
  subst e5
  cases x with
  | list xs =>
    cases e4
    refine .inl ⟨F, S, r, _, _, e2, fun F' H' v s r' d' => ?_⟩
    cases d' with
    | @lst a vs _ h1 h2 =>
      refine ⟨a, rfl, ⟨vs, sqL_up r'.fh h1⟩, q F' H' (Itl X.K a) (fun H => SqL X.K H a vs) (YAt vs) s r' ?_ (fun F1 H1 s1 s2 => sqL_up s2 (sqL_up s1 h1)) (yAt_ok h2)⟩
      rw [← h2.len]
      exact walk_list
  | tuple xs =>
    cases e4
    refine .inr ⟨F, S, r, _, _, e2, fun F' H' v s r' d' => ?_⟩
    cases d' with
    | @tup a vs _ h1 h2 =>
      refine ⟨a, rfl, ⟨vs, sqT_up r'.fh h1⟩, q F' H' (Itt X.K a) (fun H => SqT X.K H a vs) (YAt vs) s r' ?_ (fun F1 H1 s1 s2 => sqT_up s2 (sqT_up s1 h1)) (yAt_ok h2)⟩
      rw [← h2.len]
      exact walk_tup
  | none => cases e4
  | bool _ => cases e4
  | int _ => cases e4
  | str _ => cases e4
  | dict _ => cases e4
/-- ranges -/
def upTo (lo hi : Int) : List D := (List.range (hi - lo).toNat).map fun (k : Nat) => PyData.int (lo + (k : Int))
def downTo (lo hi : Int) : List D := (List.range (lo - hi).toNat).map fun (k : Nat) => PyData.int (lo + (k : Int) * (-1))
theorem yFn_ok {F : Hp} {f : Nat → Int} {k : Nat} {Y : Nat → Hp → V → Hp → Prop} (hY : ∀ i H x H', i < k → Y i H x H' → H' = H ∧ x = .int (f i)) (hk : ∀ i H x H', Y i H x H' → i < k) : YOk K ((List.range k).map fun i => PyData.int (f i)) F Y := fun i c F1 S1 σ1 H1 x H2 s r y => by
  have hi := hk i H1 x H2 y
  obtain ⟨y1, y2⟩ := hY i H1 x H2 hi y
  subst y1
  subst y2
  exact ⟨F1, .int (f i), Same.refl F1, r, by simp [hi], .int _⟩
def rangeI1 (n : MV (List D)) : MV (List D) := bnd n fun xs => match xs with
  | [.int j] => if -(2 ^ 62) ≤ j ∧ j < 2 ^ 62 then ret (upTo 0 j) else fun _ => none
  | _ => fun _ => none
def rangeI2 (n : MV (List D)) : MV (List D) := bnd n fun xs => match xs with
  | [.int i, .int j] => if (-(2 ^ 62) ≤ i ∧ i < 2 ^ 62) ∧ -(2 ^ 62) ≤ j ∧ j < 2 ^ 62 then ret (upTo i j) else fun _ => none
  | _ => fun _ => none
/-- range(i, j, -1) -/
def rangeI3 (n : MV (List D)) : MV (List D) := bnd n fun xs => match xs with
  | [.int i, .int j, .int k] => if k = -1 ∧ (-(2 ^ 62) ≤ i ∧ i < 2 ^ 62) ∧ -(2 ^ 62) ≤ j ∧ j < 2 ^ 62 then ret (downTo i j) else fun _ => none
  | _ => fun _ => none
theorem walk_rangeB {lo : Int} {n : Nat} : L2.Walk (Itr lo n) n (fun _ => True) (fun i H x H' => i < n ∧ H' = H ∧ x = .int (lo + (i : Int))) :=
  ⟨fun _ _ hi _ => hi, fun _ _ => Nat.le_refl _, fun _ _ _ _ hi _ y => ⟨hi, y⟩⟩
theorem walk_rangeCB {lo k : Int} {n : Nat} : L2.Walk (Itc lo k n) n (fun _ => True) (fun i H x H' => i < n ∧ H' = H ∧ x = .int (lo + (i : Int) * k)) :=
  ⟨fun _ _ hi _ => hi, fun _ _ => Nat.le_refl _, fun _ _ _ _ hi _ y => ⟨hi, y⟩⟩
theorem int1 {F : Hp} {vs : List V} {xs : List D} {S1 S' : Sta} {ds : List D} {k : Int → MV (List D)} (d : DpAll K F vs xs) (h : (match xs with | [.int j] => k j | _ => fun _ => none) S1 = some (ds, S')) :
    ∃ j, vs = [.int j] ∧ xs = [.int j] ∧ k j S1 = some (ds, S') := by
  split at h
  · obtain ⟨v, rfl, hv⟩ := DpAll.one d
    cases hv
    exact ⟨_, rfl, rfl, h⟩
  · cases h
theorem int2 {F : Hp} {vs : List V} {xs : List D} {S1 S' : Sta} {ds : List D} {k : Int → Int → MV (List D)} (d : DpAll K F vs xs) (h : (match xs with | [.int i, .int j] => k i j | _ => fun _ => none) S1 = some (ds, S')) :
    ∃ i j, vs = [.int i, .int j] ∧ k i j S1 = some (ds, S') := by
  split at h
  · obtain ⟨v, w, rfl, hv, hw⟩ := DpAll.two d
    cases hv
    cases hw
    exact ⟨_, _, rfl, h⟩
  · cases h
theorem int3 {F : Hp} {vs : List V} {xs : List D} {S1 S' : Sta} {ds : List D} {k : Int → Int → Int → MV (List D)} (d : DpAll K F vs xs) (h : (match xs with | [.int i, .int j, .int l] => k i j l | _ => fun _ => none) S1 = some (ds, S')) :
    ∃ i j l, vs = [.int i, .int j, .int l] ∧ k i j l S1 = some (ds, S') := by
  split at h
  · cases d with
    | cons h1 t =>
      obtain ⟨v, w, rfl, hv, hw⟩ := DpAll.two t
      cases h1
      cases hv
      cases hw
      exact ⟨_, _, _, rfl, h⟩
  · cases h
theorem di_range1 (hg : Gl X "range") (hm : X.mg "range" = none) (ha : DL X c [e] n) (hs : starEach [e] X.env = [(false, eval e X.env)] := by rfl) : DI X c tg (.Call (.Name "range" p) [e] [] pos) (rangeI1 n) := by
  refine pi_imp (pi_range1 (tg := tg) hg hm ha hs) fun σ H R q => ?_
  obtain ⟨F, S, r, ds, S', e1, q⟩ := q
  obtain ⟨xs, S1, e2, e3⟩ := bnd_some e1
  refine ⟨F, S, r, xs, S1, e2, fun F' H' vs s r' d' => ?_⟩
  obtain ⟨j, rfl, rfl, e4⟩ := int1 d' e3
  by_cases z : -(2 ^ 62) ≤ j ∧ j < 2 ^ 62
  · rw [if_pos z] at e4
    cases e4
    refine ⟨j, rfl, z.1, z.2, ?_⟩
    refine q F' H' (Itr 0 j.toNat) (fun _ => True) (fun i H x H' => i < j.toNat ∧ H' = H ∧ x = .int (0 + (i : Int))) s r' ?_ (fun _ _ _ _ => trivial) ?_
    · unfold upTo
      simp only [List.length_map, List.length_range, Int.sub_zero]
      exact walk_rangeB
    · unfold upTo
      rw [Int.sub_zero]
      exact yFn_ok (f := fun i => 0 + (i : Int)) (fun i H x H' _ y => y.2) (fun i H x H' y => y.1)
  · rw [if_neg z] at e4
    cases e4
theorem di_range2 (hg : Gl X "range") (hm : X.mg "range" = none) (ha : DL X c [e, e2] n) (hs : starEach [e, e2] X.env = [(false, eval e X.env), (false, eval e2 X.env)] := by rfl) (hs2 : starEach [e2] X.env = [(false, eval e2 X.env)] := by rfl) : DI X c tg (.Call (.Name "range" p) [e, e2] [] pos) (rangeI2 n) := by
  refine pi_imp (pi_range2 (tg := tg) hg hm ha hs hs2) fun σ H R q => ?_
  obtain ⟨F, S, r, ds, S', e1, q⟩ := q
  obtain ⟨xs, S1, e2, e3⟩ := bnd_some e1
  refine ⟨F, S, r, xs, S1, e2, fun F' H' vs s r' d' => ?_⟩
  obtain ⟨i, j, rfl, e4⟩ := int2 d' e3
  by_cases z : (-(2 ^ 62) ≤ i ∧ i < 2 ^ 62) ∧ -(2 ^ 62) ≤ j ∧ j < 2 ^ 62
  · rw [if_pos z] at e4
    cases e4
    refine ⟨i, j, rfl, ⟨z.1.1, z.1.2, z.2.1, z.2.2⟩, ?_⟩
    refine q F' H' (Itr i (j - i).toNat) (fun _ => True) (fun k H x H' => k < (j - i).toNat ∧ H' = H ∧ x = .int (i + (k : Int))) s r' ?_ (fun _ _ _ _ => trivial) ?_
    · unfold upTo
      simp only [List.length_map, List.length_range]
      exact walk_rangeB
    · unfold upTo
      exact yFn_ok (f := fun k => i + (k : Int)) (fun i H x H' _ y => y.2) (fun i H x H' y => y.1)
  · rw [if_neg z] at e4
    cases e4
theorem di_range3 {e3 : Expr} (hg : Gl X "range") (hm : X.mg "range" = none) (ha : DL X c [e, e2, e3] n) (hs : starEach [e, e2, e3] X.env = (false, eval e X.env) :: starEach [e2, e3] X.env := by rfl) (hpl : (backTo pos (starEach [e2, e3] X.env)).any (·.1) = false := by rfl) :
    DI X c tg (.Call (.Name "range" p) [e, e2, e3] [] pos) (rangeI3 n) := by
  refine pi_imp (pi_range3 (tg := tg) hg hm ha hs hpl) fun σ H R q => ?_
  obtain ⟨F, S, r, ds, S', e1, q⟩ := q
  obtain ⟨xs, S1, e2, e3⟩ := bnd_some e1
  refine ⟨F, S, r, xs, S1, e2, fun F' H' vs s r' d' => ?_⟩
  obtain ⟨i, j, k, rfl, e4⟩ := int3 d' e3
  by_cases z : k = -1 ∧ (-(2 ^ 62) ≤ i ∧ i < 2 ^ 62) ∧ -(2 ^ 62) ≤ j ∧ j < 2 ^ 62
  · rw [if_pos z] at e4
    cases e4
    obtain ⟨rfl, z1, z2⟩ := z
    refine ⟨i, j, -1, (i - j).toNat, rfl, RgC.neg z1.1 z1.2 z2.1 z2.2, ?_⟩
    refine q F' H' (Itc i (-1) (i - j).toNat) (fun _ => True) (fun k H x H' => k < (i - j).toNat ∧ H' = H ∧ x = .int (i + (k : Int) * (-1))) s r' ?_ (fun _ _ _ _ => trivial) ?_
    · unfold downTo
      simp only [List.length_map, List.length_range]
      exact walk_rangeCB
    · unfold downTo
      exact yFn_ok (f := fun k => i + (k : Int) * (-1)) (fun i H x H' _ y => y.2) (fun i H x H' y => y.1)
  · rw [if_neg z] at e4
    cases e4
/-- new pairs -/
theorem yPair_ok {F : Hp} {a b : Nat → Option V} {ds : List D} (h : ∀ i x y, a i = some x → b i = some y → ∃ d e, ds[i]? = some (.tuple [d, e]) ∧ Dp K F x d ∧ Dp K F y e) : YOk K ds F (YPair a b) := fun i c F1 S1 σ1 H1 v H2 s r y => by
  obtain ⟨T, x, z, rfl, hT, rfl, h1, h2⟩ := y
  obtain ⟨d, e, g1, g2, g3⟩ := h i x z h1 h2
  have fT := r.fh.free hT
  refine ⟨upd F1 T (.tup [x, z]), .tuple [d, e], upd_up fT, r.alloc hT, g1, .tup (.inl (.inl upd_same)) ?_⟩
  have up := s.trans (upd_up (o := .tup [x, z]) fT)
  exact .cons (Dp.up up d x g2) (.cons (Dp.up up e z g3) .nil)
def zipL (xs ys : List D) : List D := List.zipWith (fun a b => PyData.tuple [a, b]) xs ys
/-- zip of two lists, of two tuples -/
def zipI (n : MV (List D)) : MV (List D) := bnd n fun xs => match xs with
  | [.list a, .list b] => ret (zipL a b)
  | [.tuple a, .tuple b] => ret (zipL a b)
  | _ => fun _ => none
theorem zipL_ok {F : Hp} {vs ws : List V} {a b : List D} (h1 : DpAll K F vs a) (h2 : DpAll K F ws b) : YOk K (zipL a b) F (YPair (fun i => vs[i]?) (fun i => ws[i]?)) :=
  yPair_ok fun i x y e1 e2 => by
    obtain ⟨d, g1, g2⟩ := h1.getV e1
    obtain ⟨e, g3, g4⟩ := h2.getV e2
    refine ⟨d, e, ?_, g2, g4⟩
    unfold zipL
    rw [List.getElem?_zipWith, g1, g3]
theorem walk_zipT {a b : Addr} {xs ys : List V} {n : Nat} (hn : n = min xs.length ys.length) : L2.Walk (ItzT K a b) n (fun H => SqT K H a xs ∧ SqT K H b ys) (YPair (fun i => xs[i]?) (fun i => ys[i]?)) := by
  subst hn
  refine ⟨fun i _ hi q => ?_, fun _ q => ⟨xs, ys, q.1, q.2, by omega⟩, fun i H v H' _ q y => ?_⟩
  · have h1 : i < xs.length := by omega
    have h2 : i < ys.length := by omega
    exact ⟨xs, ys, xs[i], ys[i], q.1, q.2, by simp [h1], by simp [h2]⟩
  · obtain ⟨T, x, z, h1, h2, h3, h4, h5⟩ := y
    exact ⟨T, x, z, h1, h2, h3, h4 xs q.1, h5 ys q.2⟩
theorem di_zip {elts : List Expr} {kk : Nat} {tpos : Pos} (hg : Gl X "zip") (hm : X.mg "zip" = none) (ha : DL X c [e, e2] n)
    (hs : starEach [e, e2] X.env = (false, eval e X.env) :: starEach [e2] X.env := by rfl) (hpl : (backTo pos (starEach [e2] X.env)).any (·.1) = false := by rfl) : DI X c (.Tuple elts kk tpos) (.Call (.Name "zip" p) [e, e2] [] pos) (zipI n) := by
  refine pi_imp (pi_zipA hg hm ha hs hpl) fun σ H R q => ?_
  obtain ⟨F, S, r, ds, S', e1, q⟩ := q
  obtain ⟨xs, S1, e2, e3⟩ := bnd_some e1
  refine ⟨F, S, r, xs, S1, e2, fun F' H' vs s r' d' => ?_⟩
  split at e3
  · obtain ⟨v, w, rfl, hv, hw⟩ := DpAll.two d'
    cases e3
    cases hv with
    | @lst p1 us _ h1 h2 =>
      cases hw with
      | @lst p2 ws _ g1 g2 =>
        refine ⟨p1, p2, us, ws, rfl, .inl ⟨sqL_up r'.fh h1, sqL_up r'.fh g1, q F' H' (Itz X.K p1 p2) (fun H => SqL X.K H p1 us ∧ SqL X.K H p2 ws) _ s r' (walk_zip ?_) (fun F1 H1 s1 s2 => ⟨sqL_up (s1.trans s2) h1, sqL_up (s1.trans s2) g1⟩) (zipL_ok h2 g2)⟩⟩
        unfold zipL
        rw [List.length_zipWith, h2.len, g2.len]
  · obtain ⟨v, w, rfl, hv, hw⟩ := DpAll.two d'
    cases e3
    cases hv with
    | @tup p1 us _ h1 h2 =>
      cases hw with
      | @tup p2 ws _ g1 g2 =>
        refine ⟨p1, p2, us, ws, rfl, .inr ⟨sqT_up r'.fh h1, sqT_up r'.fh g1, q F' H' (ItzT X.K p1 p2) (fun H => SqT X.K H p1 us ∧ SqT X.K H p2 ws) _ s r' (walk_zipT ?_) (fun F1 H1 s1 s2 => ⟨sqT_up (s1.trans s2) h1, sqT_up (s1.trans s2) g1⟩) (zipL_ok h2 g2)⟩⟩
        unfold zipL
        rw [List.length_zipWith, h2.len, g2.len]
  · cases e3
/-- enumerate of a list -/
def enumL (xs : List D) : List D := List.zipWith (fun (i : Nat) x => PyData.tuple [.int i, x]) (List.range xs.length) xs
def enumI (n : MV (List D)) : MV (List D) := bnd n fun xs => match xs with
  | [.list a] => ret (enumL a)
  | _ => fun _ => none
theorem enumL_get {xs : List D} {i : Nat} {x : D} (h : xs[i]? = some x) : (enumL xs)[i]? = some (.tuple [.int i, x]) := by
  have hi := (List.getElem?_eq_some_iff.mp h).1
  unfold enumL
  rw [List.getElem?_zipWith, h, List.getElem?_range hi]
theorem enumL_len (xs : List D) : (enumL xs).length = xs.length := by
  unfold enumL
  simp
theorem di_enum {elts : List Expr} {kk : Nat} {tpos : Pos} (hg : Gl X "enumerate") (hm : X.mg "enumerate" = none) (ha : DL X c [e] n) (hs : starEach [e] X.env = [(false, eval e X.env)] := by rfl) :
    DI X c (.Tuple elts kk tpos) (.Call (.Name "enumerate" p) [e] [] pos) (enumI n) := by
  refine pi_imp (pi_enum hg hm ha hs) fun σ H R q => ?_
  obtain ⟨F, S, r, ds, S', e1, q⟩ := q
  obtain ⟨xs, S1, e2, e3⟩ := bnd_some e1
  refine ⟨F, S, r, xs, S1, e2, fun F' H' vs s r' d' => ?_⟩
  split at e3
  · obtain ⟨v, rfl, hv⟩ := DpAll.one d'
    cases e3
    cases hv with
    | @lst p1 us ds h1 h2 =>
      refine ⟨p1, us, rfl, sqL_up r'.fh h1, q F' H' (Ite X.K p1) (fun H => SqL X.K H p1 us) (YPair (fun i => some (.int (i : Nat))) (fun i => us[i]?)) s r' ?_ (fun F1 H1 s1 s2 => sqL_up (s1.trans s2) h1) (yPair_ok fun i x y e1 e2 => ?_)⟩
      · rw [enumL_len, ← h2.len]
        exact walk_enum
      · obtain ⟨d, g1, g2⟩ := h2.getV e2
        cases e1
        exact ⟨.int i, d, enumL_get g1, .int _, g2⟩
  · cases e3
end

/-! ### comprehensions -/
def wipeE (env : List Slot) : List Nat → List Slot
  | [] => env
  | v :: vs => (wipeE env vs).set v .un
def Slot.isOwn : Slot → Bool
  | .own _ => true
  | _ => false
/-- the slots at vs as they were -/
def backE (old new : List Slot) : List Nat → List Slot
  | [] => new
  | v :: vs => (backE old new vs).set v (old.getD v .un)
def wipeS (vs : List Nat) : MV Unit := fun S => some ((), { S with env := wipeE S.env vs })
/-- the turns: each begins with the block's own slots empty -/
def compM (vs : List Nat) (p : Pat) (t : MV Bool) (m : MV D) : List D → MV (List D)
  | [] => ret []
  | d :: ds => fun S => match p.bind d S.env with
    | none => none
    | some env1 => bnd t (fun b => if b = true then bnd m fun y => bnd (wipeS vs) fun _ => bnd (compM vs p t m ds) fun ys => ret (y :: ys) else bnd (wipeS vs) fun _ => compM vs p t m ds) { S with env := env1 }
def compD (vs : List Nat) (i : MV (List D)) (p : Pat) (t : MV Bool) (m : MV D) : MV D := bnd i fun ds => fun S =>
  if vs.all (fun v => !(S.env.getD v .un).isOwn) = true ∧ ds.length ≤ 1000000 then
    match compM vs p t m ds { S with env := wipeE S.env vs } with
    | some (ys, S2) => some (.list ys, { S2 with env := backE S.env S2.env vs })
    | none => none
  else none
end DL

-- part DL5
set_option Elab.async false
set_option linter.all false
set_option maxRecDepth 100000
set_option maxHeartbeats 1000000
/-! DL5: comprehensions. -/
namespace DL
open PySem PySem.Spec PyProof.Rows L2 RZ
section
variable {K : PySem.W.Frag} {c : Fr} {F H : Hp} {S : Sta} {σ : L2.St} {o u : HO} {Dl : Addr}
def Fr.push (c : Fr) (d : Addr) (o : HO) : Fr := { c with H0 := upd c.H0 d o }
/-- an object beside all that is known is kept, too -/
theorem Rel.push (r : Rel K c F S σ H) (h : H Dl = some o) (hF : F Dl = none) (h0 : c.H0 Dl = none) (hx : ∀ (i : Nat) (ds : List D), S.env[i]? = some (.own ds) → σ[i]? ≠ some (some (.ref Dl))) : Rel K (c.push Dl o) F S σ H := by
  have ns : c.ps ≠ Dl := fun e => r.hs (e ▸ h0)
  have nc : c.pc ≠ Dl := fun e => r.hc (e ▸ h0)
  refine ⟨r.f0, r.fh, fun a x e => ?_, fun a x e n1 n2 => ?_, ?_, ?_, r.sr, r.fs, r.fc, r.len, fun i x e => ?_, r.sep⟩
  · have na : a ≠ Dl := ne_of_none e hF
    rcases r.fr a x e with z | z
    · exact .inl z
    · refine .inr ?_
      show upd c.H0 Dl o a = none
      rw [upd_ne na]
      exact z
  · have e' : upd c.H0 Dl o a = some x := e
    by_cases ha : a = Dl
    · subst ha
      rw [upd_same] at e'
      cases e'
      exact h
    · rw [upd_ne ha] at e'
      exact r.kp a x e' n1 n2
  · show upd c.H0 Dl o c.ps ≠ none
    rw [upd_ne ns]
    exact r.hs
  · show upd c.H0 Dl o c.pc ≠ none
    rw [upd_ne nc]
    exact r.hc
  · cases x with
    | un => trivial
    | fz d =>
      obtain ⟨v, g1, g2⟩ := r.fz_at e
      rw [g1]
      exact g2
    | own ds =>
      obtain ⟨p, vs, g1, g2, g3, g4, g5⟩ := r.own_at e
      rw [g1]
      refine ⟨p, vs, rfl, g2, g3, g4, ?_⟩
      show upd c.H0 Dl o p = none
      rw [upd_ne fun z => hx i ds e (by rw [g1, z])]
      exact g5
    | src =>
      rw [r.src_at e]
      rfl
theorem Rel.pop (r : Rel K (c.push Dl o) F S σ H) (h0 : c.H0 Dl = none) (f0 : c.F0 Dl = none) (hs : c.H0 c.ps ≠ none) (hc : c.H0 c.pc ≠ none) :
    Rel K c F S σ H ∧ H Dl = some o ∧ F Dl = none ∧ ∀ (i : Nat) (ds : List D), S.env[i]? = some (.own ds) → σ[i]? ≠ some (some (.ref Dl)) := by
  have ns : Dl ≠ c.ps := fun e => hs (e ▸ h0)
  have nc : Dl ≠ c.pc := fun e => hc (e ▸ h0)
  have hp : (c.push Dl o).H0 Dl = some o := upd_same
  have low : ∀ a, (c.push Dl o).H0 a = none → c.H0 a = none := fun a e => by
    have e' : upd c.H0 Dl o a = none := e
    by_cases ha : a = Dl
    · rw [ha]
      exact h0
    · rw [upd_ne ha] at e'
      exact e'
  have hF : F Dl = none := by
    cases z : F Dl with
    | none => rfl
    | some x =>
      rcases r.fr Dl x z with w | w
      · have : c.F0 Dl = some x := w
        rw [f0] at this
        cases this
      · rw [hp] at w
        cases w
  refine ⟨⟨r.f0, r.fh, fun a x e => ?_, fun a x e n1 n2 => ?_, hs, hc, r.sr, r.fs, r.fc, r.len, fun i x e => ?_, r.sep⟩, r.kp Dl o hp ns nc, hF, fun i ds e z => ?_⟩
  · exact (r.fr a x e).imp id (low a)
  · refine r.kp a x ?_ n1 n2
    show upd c.H0 Dl o a = some x
    rw [upd_ne (ne_of_none e h0)]
    exact e
  · cases x with
    | un => trivial
    | fz d =>
      obtain ⟨v, g1, g2⟩ := r.fz_at e
      rw [g1]
      exact g2
    | own ds =>
      obtain ⟨p, vs, g1, g2, g3, g4, g5⟩ := r.own_at e
      rw [g1]
      exact ⟨p, vs, rfl, g2, g3, g4, low p g5⟩
    | src =>
      rw [r.src_at e]
      rfl
  · obtain ⟨p, vs, g1, g2, g3, g4, g5⟩ := r.own_at e
    rw [g1] at z
    have z' : p = Dl := V.ref.inj (Option.some.inj (Option.some.inj z))
    rw [z', hp] at g5
    cases g5
/-- the object beside is changed -/
theorem Rel.repush (r : Rel K (c.push Dl o) F S σ H) (h0 : c.H0 Dl = none) (f0 : c.F0 Dl = none) (hs : c.H0 c.ps ≠ none) (hc : c.H0 c.pc ≠ none) : Rel K (c.push Dl u) F S σ (upd H Dl u) := by
  obtain ⟨r1, h1, h2, h3⟩ := r.pop h0 f0 hs hc
  have ns : c.ps ≠ Dl := fun e => hs (e ▸ h0)
  have nc : c.pc ≠ Dl := fun e => hc (e ▸ h0)
  refine Rel.push ⟨r1.f0, fun b x e => ?_, r1.fr, fun a x e n1 n2 => ?_, hs, hc, ⟨?_, ?_⟩, r1.fs, r1.fc, r1.len, fun i x e => ?_, r1.sep⟩ upd_same h2 h0 h3
  · rw [upd_ne (ne_of_none e h2)]
    exact r1.fh b x e
  · rw [upd_ne (ne_of_none e h0)]
    exact r1.kp a x e n1 n2
  · rw [upd_ne ns]
    exact r1.sr.d
  · rw [upd_ne nc]
    exact r1.sr.l
  · cases x with
    | un => trivial
    | fz d =>
      obtain ⟨v, g1, g2⟩ := r1.fz_at e
      rw [g1]
      exact g2
    | own ds =>
      obtain ⟨p, vs, g1, g2, g3, g4, g5⟩ := r1.own_at e
      rw [g1]
      refine ⟨p, vs, rfl, ?_, g3, g4, g5⟩
      rw [upd_ne fun z => h3 i ds e (by rw [g1, z])]
      exact g2
    | src =>
      rw [r1.src_at e]
      rfl
theorem wipeE_length (env : List Slot) : ∀ vs : List Nat, (wipeE env vs).length = env.length
  | [] => rfl
  | v :: vs => by
    unfold wipeE
    rw [List.length_set, wipeE_length env vs]
theorem wipeE_in {env : List Slot} {i : Nat} : ∀ {vs : List Nat}, i ∈ vs → ∀ x, (wipeE env vs)[i]? = some x → x = .un
  | v :: vs, h, x, e => by
    unfold wipeE at e
    by_cases hi : v = i
    · subst hi
      by_cases hl : v < (wipeE env vs).length
      · rw [List.getElem?_set_self hl] at e
        exact (Option.some.inj e).symm
      · rw [List.getElem?_eq_none (by simpa using hl)] at e
        cases e
    · rw [List.getElem?_set_ne hi] at e
      refine wipeE_in (vs := vs) ?_ x e
      rcases List.mem_cons.mp h with z | z
      · exact absurd z.symm hi
      · exact z
theorem wipeE_out {env : List Slot} {i : Nat} : ∀ {vs : List Nat}, i ∉ vs → (wipeE env vs)[i]? = env[i]?
  | [], _ => rfl
  | v :: vs, h => by
    simp only [List.mem_cons, not_or] at h
    unfold wipeE
    rw [List.getElem?_set_ne (Ne.symm h.1)]
    exact wipeE_out h.2
theorem wipe_out' {σ : L2.St} {i : Nat} : ∀ {vs : List Nat}, i ∉ vs → (wipe σ vs)[i]? = σ[i]?
  | [], _ => rfl
  | v :: vs, h => by
    simp only [List.mem_cons, not_or] at h
    unfold wipe
    rw [List.getElem?_set_ne (Ne.symm h.1)]
    exact wipe_out' h.2
/-- only the kept slots matter -/
theorem Rel.slots {env : List Slot} {τ : L2.St} (r : Rel K c F S σ H) (hl : τ.length = env.length) (h : ∀ (i : Nat) (x : Slot), env[i]? = some x → x = .un ∨ (S.env[i]? = some x ∧ τ[i]? = σ[i]?) ∨ (x.isOwn = false ∧ SlotOk K c F H (τ[i]?).join x)) : Rel K c F { S with env := env } τ H := by
  have own : ∀ (i : Nat) (ds : List D), env[i]? = some (.own ds) → S.env[i]? = some (.own ds) ∧ τ[i]? = σ[i]? := fun i ds e => by
    rcases h i _ e with z | z | z
    · cases z
    · exact z
    · exact absurd (show true = false from z.1) (by decide)
  refine ⟨r.f0, r.fh, r.fr, r.kp, r.hs, r.hc, r.sr, r.fs, r.fc, hl, fun i x e => ?_, fun i j a b n e1 e2 => ?_⟩
  · rcases h i x e with z | z | z
    · rw [z]
      trivial
    · rw [z.2]
      exact r.sl i x z.1
    · exact z.2
  · obtain ⟨g1, g2⟩ := own i a e1
    obtain ⟨g3, g4⟩ := own j b e2
    rw [g2, g4]
    exact r.sep i j a b n g1 g3
theorem Rel.wipe (r : Rel K c F S σ H) (vs : List Nat) : Rel K c F { S with env := wipeE S.env vs } (L2.wipe σ vs) H :=
  r.slots (by rw [wipe_length, wipeE_length, r.len]) fun i x e => by
    by_cases h : i ∈ vs
    · exact .inl (wipeE_in h x e)
    · rw [wipeE_out h] at e
      exact .inr (.inl ⟨e, wipe_out' h⟩)
theorem backE_length (a b : List Slot) : ∀ vs : List Nat, (backE a b vs).length = b.length
  | [] => rfl
  | v :: vs => by
    unfold backE
    rw [List.length_set, backE_length a b vs]
theorem backE_in {a b : List Slot} {i : Nat} : ∀ {vs : List Nat}, i ∈ vs → ∀ x, (backE a b vs)[i]? = some x → x = a.getD i .un
  | v :: vs, h, x, e => by
    unfold backE at e
    by_cases hi : v = i
    · subst hi
      by_cases hl : v < (backE a b vs).length
      · rw [List.getElem?_set_self hl] at e
        exact (Option.some.inj e).symm
      · rw [List.getElem?_eq_none (by simpa using hl)] at e
        cases e
    · rw [List.getElem?_set_ne hi] at e
      refine backE_in (vs := vs) ?_ x e
      rcases List.mem_cons.mp h with z | z
      · exact absurd z.symm hi
      · exact z
theorem backE_out {a b : List Slot} {i : Nat} : ∀ {vs : List Nat}, i ∉ vs → (backE a b vs)[i]? = b[i]?
  | [], _ => rfl
  | v :: vs, h => by
    simp only [List.mem_cons, not_or] at h
    unfold backE
    rw [List.getElem?_set_ne (Ne.symm h.1)]
    exact backE_out h.2
/-- behind a comprehension: its own slots as they were -/
theorem Rel.back {F1 H1 : Hp} {S1 : Sta} (vs : List Nat) (r : Rel K c F S σ H) (r1 : Rel K c F1 S1 (L2.wipe σ vs) H1) (s : Same F F1) (hv : vs.all (fun v => !(S.env.getD v .un).isOwn) = true) : Rel K c F1 { S1 with env := backE S.env S1.env vs } σ H1 := by
  refine r1.slots (by rw [backE_length, ← r1.len, wipe_length]) fun i x e => ?_
  by_cases h : i ∈ vs
  · have e1 := backE_in h x e
    have e2 := List.all_eq_true.mp hv i h
    by_cases hl : i < S.env.length
    · have e3 : S.env[i]? = some x := by
        rw [e1, List.getD_eq_getElem?_getD, List.getElem?_eq_getElem hl]
        rfl
      rw [← e1] at e2
      have e4 : x.isOwn = false := by
        cases z : x.isOwn with
        | false => rfl
        | true =>
          rw [z] at e2
          cases e2
      refine .inr (.inr ⟨e4, ?_⟩)
      cases x with
      | un => trivial
      | fz d =>
        obtain ⟨v, g1, g2⟩ := r.fz_at e3
        rw [g1]
        exact Dp.up s d v g2
      | own ds => exact absurd (show true = false from e4) (by decide)
      | src =>
        rw [r.src_at e3]
        rfl
    · left
      rw [e1, List.getD_eq_getElem?_getD, List.getElem?_eq_none (by omega)]
      rfl
  · rw [backE_out h] at e
    exact .inr (.inl ⟨e, (wipe_out' h).symm⟩)
theorem wipe_only {τ : L2.St} : ∀ {ws vs : List Nat}, OnlyAt ws (L2.wipe σ vs) τ → (∀ i ∈ ws, i ∈ vs) → L2.wipe τ vs = L2.wipe σ vs := fun {ws vs} o h => by
  refine List.ext_getElem? fun i => ?_
  by_cases hi : i ∈ vs
  · have big : ∀ (τ : L2.St) (vs : List Nat), i ∈ vs → (L2.wipe τ vs)[i]? = if i < τ.length then some none else none := by
      intro τ vs
      induction vs with
      | nil => intro h; cases h
      | cons v vs ih =>
        intro h
        unfold L2.wipe
        by_cases hv : v = i
        · subst hv
          by_cases hl : v < (L2.wipe τ vs).length
          · rw [List.getElem?_set_self hl]
            rw [wipe_length] at hl
            rw [if_pos hl]
          · rw [List.getElem?_eq_none (by simpa using hl)]
            rw [wipe_length] at hl
            rw [if_neg hl]
        · rw [List.getElem?_set_ne hv]
          refine ih ?_
          rcases List.mem_cons.mp h with z | z
          · exact absurd z.symm hv
          · exact z
    rw [big τ vs hi, big σ vs hi, o.1, wipe_length]
  · rw [wipe_out' hi, wipe_out' hi, o.2 i fun z => hi (h i z), wipe_out' hi]
/-- one's own names are stored in the comprehension's block alone -/
theorem Rel.fresh0 {p : Addr} (r : Rel K c F S σ H) (h : H p = none) : c.H0 p = none ∧ F p = none ∧ c.F0 p = none ∧ ∀ (i : Nat) (ds : List D), S.env[i]? = some (.own ds) → σ[i]? ≠ some (some (.ref p)) := by
  have nps : p ≠ c.ps := fun e => by
    have := r.sr.d
    rw [← e, h] at this
    cases this
  have npc : p ≠ c.pc := fun e => by
    have := r.sr.l
    rw [← e, h] at this
    cases this
  have fp := r.fh.free h
  refine ⟨?_, fp, r.f0.free fp, fun i ds e z => ?_⟩
  · cases q : c.H0 p with
    | none => rfl
    | some u =>
      have := r.kp p u q nps npc
      rw [h] at this
      cases this
  · obtain ⟨q, vs, g1, g2, _⟩ := r.own_at e
    rw [g1] at z
    have z' : q = p := V.ref.inj (Option.some.inj (Option.some.inj z))
    rw [z', h] at g2
    cases g2
end
/-- whatever stands beside -/
def tDx (K : PySem.W.Frag) (m : MV D) : TE := fun σ H Q => ∃ c, tD K c m σ H Q
def tTx (K : PySem.W.Frag) (m : MV Bool) : TT := fun σ H Q => ∃ c, tT K c m σ H Q
/-- a comprehension's new list as it stands -/
def GoN (K : PySem.W.Frag) (c : Fr) (r : Option (D × Sta)) (F : Hp) (σ : L2.St) (Q : VK) : Prop :=
  ∃ ys S', r = some (.list ys, S') ∧ ∀ F' H' (l : Addr) ws, Same F F' → Rel K c F' S' σ H' → F' l = none → c.H0 l = none → (∀ (j : Nat) (ds : List D), S'.env[j]? = some (.own ds) → σ[j]? ≠ some (some (.ref l))) → H' l = some (.lst ws) → DpAll K F' ws ys → Q (.ref l) H'
def tN (K : PySem.W.Frag) (c : Fr) (m : MV D) : TE := fun σ H Q => ∃ F S, Rel K c F S σ H ∧ GoN K c (m S) F σ Q
/-- the reading of a comprehension -/
theorem t_comp {K : PySem.W.Frag} {c : Fr} {vs : List Nat} {i : MV (List D)} {p : Pat} {t : MV Bool} {m : MV D} {σ : L2.St} {H : Hp} {Q : VK}
    (hvs : ∀ j ∈ p.vars, j ∈ vs) (h : tN K c (compD vs i p t m) σ H Q) : tLc (tI K c i) (gP K p) (tTx K t) (tDx K m) vs σ H Q := by
  obtain ⟨F, S, r, ys, S', e, q⟩ := h
  obtain ⟨ds, S1, e1, e2⟩ := bnd_some e
  have e2' : (if vs.all (fun v => !(S1.env.getD v .un).isOwn) = true ∧ ds.length ≤ 1000000 then
    match compM vs p t m ds { S1 with env := wipeE S1.env vs } with
    | some (ys, S2) => some (PyData.list ys, { S2 with env := backE S1.env S2.env vs })
    | none => none
  else none) = some (PyData.list ys, S') := e2
  by_cases z : vs.all (fun v => !(S1.env.getD v .un).isOwn) = true ∧ ds.length ≤ 1000000
  · rw [if_pos z] at e2'
    cases ec : compM vs p t m ds { S1 with env := wipeE S1.env vs } with
    | none =>
      rw [ec] at e2'
      cases e2'
    | some r2 =>
      obtain ⟨ys', S2⟩ := r2
      rw [ec] at e2'
      have e3 : ys' = ys ∧ { S2 with env := backE S1.env S2.env vs } = S' := by
        have := Option.some.inj e2'
        exact ⟨PyData.list.inj (congrArg Prod.fst this), congrArg Prod.snd this⟩
      obtain ⟨rfl, rfl⟩ := e3
      refine ⟨F, S, r, ds, S1, e1, fun F1 H1 J G Y s1 r1 W hG hY Dl hD => ?_⟩
      obtain ⟨d0, dF, dF0, dx⟩ := r1.fresh0 hD
      have first : Rel K (c.push Dl (.lst [])) F1 { S1 with env := wipeE S1.env vs } (wipe σ vs) (upd H1 Dl (.lst [])) := by
        have ra := (r1.junk (o := .lst []) hD).wipe vs
        refine ra.push upd_same dF d0 fun j ds' ej z' => ?_
        by_cases hj : j ∈ vs
        · have := wipeE_in hj _ ej
          cases this
        · rw [wipeE_out hj] at ej
          rw [wipe_out' hj] at z'
          exact dx j ds' ej z'
      -- the loop's word: what is made so far, and what the rest gives
      refine lc_it (g := gP K p) (tt := tTx K t) (te := tDx K m) (vs := vs) (σ := σ) (D := Dl) (Qd := fun H' => Q (.ref Dl) H') W
        (fun k Hk => ∃ acc F2 S3 dn rest, Rel K (c.push Dl (.lst acc)) F2 S3 (wipe σ vs) Hk ∧ Same F1 F2 ∧ DpAll K F2 acc dn ∧ acc.length ≤ k ∧ compM vs p t m (ds.drop k) S3 = some (rest, S2) ∧ dn ++ rest = ys') ?_ ?_ ?_ ?_
      · exact ⟨[], F1, _, [], ys', first, Same.refl F1, .nil, Nat.zero_le _, by simpa using ec, rfl⟩
      · rintro k Hk _ ⟨acc, F2, S3, dn, rest, g1, g2, _⟩
        exact hG F2 Hk g2 (g1.fh)
      · rintro k x Hk Hk' hk ⟨acc, F2, S3, dn, rest, g1, g2, g3, g4, g5, g6⟩ y
        obtain ⟨F3, d, s3, r3, ed, hd⟩ := hY k _ F2 S3 (wipe σ vs) Hk x Hk' g2 g1 y
        have hk' : k < ds.length := hk
        have edrop : ds.drop k = d :: ds.drop (k + 1) := by
          rw [List.drop_eq_getElem_cons hk']
          rw [List.getElem?_eq_getElem hk'] at ed
          rw [Option.some.inj ed]
        rw [edrop] at g5
        unfold compM at g5
        cases eb : p.bind d S3.env with
        | none =>
          rw [eb] at g5
          cases g5
        | some env1 =>
          rw [eb] at g5
          have hs : c.H0 c.ps ≠ none := r1.hs
          have hc : c.H0 c.pc ≠ none := r1.hc
          refine gP_run p r3 hd eb fun σ2 r4 o4 => ⟨wipe_only o4 hvs, ?_⟩
          obtain ⟨b, S5, e5, e6⟩ := bnd_some g5
          refine ⟨c.push Dl (.lst acc), F3, _, r4, b, S5, e5, fun F5 H5 s5 r5 => ?_⟩
          cases b with
          | true =>
            rw [if_pos rfl]
            obtain ⟨y', S6, e7, e8⟩ := bnd_some e6
            obtain ⟨_, S7, e9, e10⟩ := bnd_some e8
            cases e9
            obtain ⟨ys2, S8, e11, e12⟩ := bnd_some e10
            cases e12
            refine ⟨c.push Dl (.lst acc), F5, S5, r5, y', S6, e7, fun F6 H6 v6 s6 r6 d6 => ?_⟩
            have up := (s3.trans s5).trans s6
            obtain ⟨_, l1, l2, _⟩ := r6.pop d0 dF0 hs hc
            refine ⟨acc, l1, ?_, acc ++ [v6], F6, _, dn ++ [y'], ys2, ?_, g2.trans up, (DpAll.up up _ _ g3).append (.cons d6 .nil), ?_, e11, ?_⟩
            · have : sizeLine = 16777216 := sizeLine_eq
              omega
            · have w := (r6.repush (u := .lst (acc ++ [v6])) d0 dF0 hs hc).wipe vs
              rw [wipe_only o4 hvs] at w
              exact w
            · simp
              omega
            · rw [← g6]
              simp
          | false =>
            rw [if_neg Bool.false_ne_true]
            have e6' : bnd (wipeS vs) (fun _ => compM vs p t m (ds.drop (k + 1))) S5 = some (rest, S2) := e6
            obtain ⟨_, S7, e9, e10⟩ := bnd_some e6'
            cases e9
            have up := s3.trans s5
            refine ⟨acc, F5, _, dn, rest, ?_, g2.trans up, DpAll.up up _ _ g3, by omega, e10, g6⟩
            have w := r5.wipe vs
            rw [wipe_only o4 hvs] at w
            exact w
      · rintro Hk ⟨acc, F2, S3, dn, rest, g1, g2, g3, g4, g5, g6⟩
        rw [List.drop_length] at g5
        unfold compM at g5
        cases g5
        rw [List.append_nil] at g6
        subst g6
        obtain ⟨k1, k2, k3, k4⟩ := g1.pop d0 dF0 r1.hs r1.hc
        have k5 := r1.back vs k1 g2 z.1
        refine q F2 Hk Dl acc (s1.trans g2) k5 k3 d0 (fun j ds' ej zj => ?_) k2 g3
        by_cases hj : j ∈ vs
        · have e1 := backE_in hj _ ej
          have e2 := List.all_eq_true.mp z.1 j hj
          rw [← e1] at e2
          cases e2
        · have ej' : (backE S1.env S2.env vs)[j]? = some (.own ds') := ej
          rw [backE_out hj] at ej'
          rw [← wipe_out' hj] at zj
          exact k4 j ds' ej' zj
  · rw [if_neg z] at e2'
    cases e2'
section
variable {X : Cx} {c : Fr} {e : Expr} {m : MV D}
/-- a new list, as an expression's value, stands still -/
theorem tN_tD {K : PySem.W.Frag} {σ : L2.St} {H : Hp} {Q : VK} (hl : ∀ S d S', m S = some (d, S') → ∃ ys, d = .list ys) (h : tD K c m σ H Q) : tN K c m σ H Q := by
  obtain ⟨F, S, r, d, S', e, q⟩ := h
  obtain ⟨ys, rfl⟩ := hl S d S' e
  refine ⟨F, S, r, ys, S', e, fun F' H' l ws s r' g1 g2 g3 g4 g5 => ?_⟩
  -- l is put to what stands still
  have ns : l ≠ c.ps := fun w => r.hs (w ▸ g2)
  have nc : l ≠ c.pc := fun w => r.hc (w ▸ g2)
  have up := upd_up (o := .lst ws) g1
  refine q (upd F' l (.lst ws)) H' (.ref l) (s.trans up) ⟨r'.f0.trans up, fun b x w => ?_, fun a x w => ?_, r'.kp, r'.hs, r'.hc, r'.sr, ?_, ?_, r'.len, fun i x w => ?_, r'.sep⟩ (.lst (.inl (.inl upd_same)) (DpAll.up up _ _ g5))
  · by_cases hb : b = l
    · subst hb
      rw [upd_same] at w
      cases w
      exact g4
    · rw [upd_ne hb] at w
      exact r'.fh b x w
  · by_cases hb : a = l
    · subst hb
      exact .inr g2
    · rw [upd_ne hb] at w
      exact r'.fr a x w
  · rw [upd_ne (Ne.symm ns)]
    exact r'.fs
  · rw [upd_ne (Ne.symm nc)]
    exact r'.fc
  · cases x with
    | un => trivial
    | fz d =>
      obtain ⟨v, k1, k2⟩ := r'.fz_at w
      rw [k1]
      exact Dp.up up d v k2
    | own ds =>
      obtain ⟨p, us, k1, k2, k3, k4, k5⟩ := r'.own_at w
      rw [k1]
      refine ⟨p, us, rfl, k2, DpAll.up up _ _ k3, ?_, k5⟩
      rw [upd_ne fun z => g3 i ds w (by rw [k1, z])]
      exact k4
    | src =>
      rw [r'.src_at w]
      rfl
theorem compD_list {vs : List Nat} {i : MV (List D)} {p : Pat} {t : MV Bool} {S S' : Sta} {d : D} (h : compD vs i p t m S = some (d, S')) : ∃ ys, d = .list ys := by
  obtain ⟨ds, S1, e1, e2⟩ := bnd_some h
  have e2' : (if vs.all (fun v => !(S1.env.getD v .un).isOwn) = true ∧ ds.length ≤ 1000000 then
    match compM vs p t m ds { S1 with env := wipeE S1.env vs } with
    | some (ys, S2) => some (PyData.list ys, { S2 with env := backE S1.env S2.env vs })
    | none => none
  else none) = some (d, S') := e2
  split at e2'
  · split at e2'
    · cases e2'
      exact ⟨_, rfl⟩
    · cases e2'
  · cases e2'
/-- a comprehension's tests -/
def DTs (X : Cx) (ifs : List Expr) (t : MV Bool) : Prop := PTs X ifs (tTx X.K t)
theorem pts_imp {ifs : List Expr} {t t' : TT} (h : PTs X ifs t) (i : ∀ σ H Q, t' σ H Q → t σ H Q) : PTs X ifs t' := ⟨fun pins s σ H Q I q => h.run pins s σ H Q I (i σ H Q q)⟩
theorem pt_ex {e : Expr} {t : MV Bool} (h : ∀ c, DT X c e t) : PT X e (tTx X.K t) := ⟨fun pins s σ H Q I ⟨c, q⟩ => (h c).run pins s σ H Q I q⟩
theorem pe_ex {e : Expr} {m : MV D} (h : ∀ c, DE X c e m) : PE X e (tDx X.K m) := ⟨fun pins s σ H Q I ⟨c, q⟩ => (h c).run pins s σ H Q I q⟩
theorem dts_nil : DTs X [] (ret true) := pts_imp pts_nil fun σ H Q ⟨c, F, S, r, b, S', e, q⟩ => by
  cases e
  exact q F H (Same.refl F) r
theorem dts_one {t : MV Bool} (h : ∀ c, DT X c e t) : DTs X [e] t := pts_one (pt_ex h)
variable {elt tg iter : Expr} {ifs : List Expr} {scope : Scope} {own : List (Str × Nat)} {pos : Pos} {i : MV (List D)} {p : Pat} {t : MV Bool}
theorem pe_comp (hc : X.calm = true) (hN : X.N.Nodup) (hi : DI X c tg iter i) (ok : BlkOk X.N X.env.scope scope own) (hvs : ∀ j ∈ p.vars, j ∈ own.map (·.2))
    (hg : ∀ (s : Shared) (H : Hp) (C : Addr) (cl : List (Str × Addr)) (fp : List Addr), DG (X.blk s H scope (compEnvC scope cl C X.env) fp) tg p) (ht : ∀ (s : Shared) (H : Hp) (C : Addr) (cl : List (Str × Addr)) (fp : List Addr), DTs (X.blk s H scope (compEnvC scope cl C X.env) fp) ifs t)
    (he : ∀ (s : Shared) (H : Hp) (C : Addr) (cl : List (Str × Addr)) (fp : List Addr) (c' : Fr), DE (X.blk s H scope (compEnvC scope cl C X.env) fp) c' elt m) (hs : ∀ x, foldedSetIterable iter X.env x = pure x := by intro _; rfl) :
    PE X (.ListComp elt [⟨tg, iter, ifs, 0⟩] scope pos) (tN X.K c (compD (own.map (·.2)) i p t m)) :=
  pe_imp (pe_lc (g := gP X.K p) (tt := tTx X.K t) (te := tDx X.K m) hc hN hi ok hg ht (fun s H C cl fp => pe_ex (he s H C cl fp)) hs) fun σ H Q h => t_comp hvs h
theorem de_comp (hc : X.calm = true) (hN : X.N.Nodup) (hi : DI X c tg iter i) (ok : BlkOk X.N X.env.scope scope own) (hvs : ∀ j ∈ p.vars, j ∈ own.map (·.2))
    (hg : ∀ (s : Shared) (H : Hp) (C : Addr) (cl : List (Str × Addr)) (fp : List Addr), DG (X.blk s H scope (compEnvC scope cl C X.env) fp) tg p) (ht : ∀ (s : Shared) (H : Hp) (C : Addr) (cl : List (Str × Addr)) (fp : List Addr), DTs (X.blk s H scope (compEnvC scope cl C X.env) fp) ifs t)
    (he : ∀ (s : Shared) (H : Hp) (C : Addr) (cl : List (Str × Addr)) (fp : List Addr) (c' : Fr), DE (X.blk s H scope (compEnvC scope cl C X.env) fp) c' elt m) (hs : ∀ x, foldedSetIterable iter X.env x = pure x := by intro _; rfl) :
    DE X c (.ListComp elt [⟨tg, iter, ifs, 0⟩] scope pos) (compD (own.map (·.2)) i p t m) :=
  pe_imp (pe_comp hc hN hi ok hvs hg ht he hs) fun σ H Q h => tN_tD (fun S d S' e => compD_list e) h
end
end DL

-- part DL6
set_option Elab.async false
set_option linter.all false
set_option maxRecDepth 100000
set_option maxHeartbeats 1000000
/-! DL6: statements, defs. -/
namespace DL
open PySem PySem.Spec PyProof.Rows L2 RZ

inductive Out where
  | nx | rt (d : D) | bk | ct
abbrev MS := MV Out
def EndAt (K : PySem.W.Frag) (F : Hp) (D : Ends) (o : Out) (σ : L2.St) (H : Hp) : Prop := match o with
  | .nx => D.nx σ H
  | .bk => D.bk σ H
  | .ct => D.ct σ H
  | .rt d => ∀ v, Dp K F v d → D.rt v H
def GoS (K : PySem.W.Frag) (c : Fr) (r : Option (Out × Sta)) (F : Hp) (D : Ends) : Prop :=
  ∃ o S', r = some (o, S') ∧ ∀ F' H' σ', Same F F' → Rel K c F' S' σ' H' → EndAt K F' D o σ' H'
def tS (K : PySem.W.Frag) (c : Fr) (m : MS) : TS := fun D σ H => ∃ F S, Rel K c F S σ H ∧ GoS K c (m S) F D
def DS (X : Cx) (c : Fr) (st : Stmt) (m : MS) : Prop := PS X st (tS X.K c m)
def DSs (X : Cx) (c : Fr) (st : List Stmt) (m : MS) : Prop := PSs X st (tS X.K c m)
def setF (i : Nat) (d : D) : MS := fun S => some (.nx, { S with env := S.env.set i (.fz d) })
def setO (i : Nat) (ds : List D) : MS := fun S => some (.nx, { S with env := S.env.set i (.own ds) })
def bindS (p : Pat) (d : D) : MS := fun S => match p.bind d S.env with
  | some env => some (.nx, { S with env := env })
  | none => none
def seqS (m n : MS) : MS := bnd m fun o => match o with
  | .nx => n
  | o => ret o
def asgS (i : Nat) (m : MV D) : MS := bnd m (setF i)
/-- name = a new list: one's own -/
def asgN (i : Nat) (m : MV D) : MS := bnd m fun d => match d with
  | .list ys => setO i ys
  | _ => fun _ => none
def retS (m : MV D) : MS := bnd m fun d => ret (.rt d)
def dropS (m : MV D) : MS := bnd m fun _ => ret .nx
def ifS (t : MV Bool) (m n : MS) : MS := bnd t fun b => if b = true then m else n
def unpS (p : Pat) (m : MV D) : MS := bnd m (bindS p)
def forM (p : Pat) (b : MS) : List D → MS
  | [] => ret .nx
  | d :: ds => fun S => match p.bind d S.env with
    | none => none
    | some env1 => bnd b (fun o => match o with
      | .nx => forM p b ds
      | .ct => forM p b ds
      | .bk => ret .nx
      | .rt d => ret (.rt d)) { S with env := env1 }
def forS (i : MV (List D)) (p : Pat) (b : MS) : MS := bnd i (forM p b)
def whileF (t : MV Bool) (b : MS) : Nat → MS
  | 0 => fun _ => none
  | n + 1 => bnd t fun k => if k = true then bnd b fun o => match o with
      | .nx => whileF t b n
      | .ct => whileF t b n
      | .bk => ret .nx
      | .rt d => ret (.rt d)
    else ret .nx
open Classical in
noncomputable def whileS (t : MV Bool) (b : MS) : MS := fun S => if h : ∃ n r, whileF t b n S = some r then some h.choose_spec.choose else none
theorem whileF_mono {t : MV Bool} {b : MS} : ∀ (n : Nat) (S : Sta) (r : Out × Sta) (k : Nat), whileF t b n S = some r → whileF t b (n + k) S = some r
  | 0, S, r, k, h => by cases h
  | n + 1, S, r, k, h => by
    rw [show n + 1 + k = (n + k) + 1 by omega]
    unfold whileF at h ⊢
    obtain ⟨o', S'⟩ := r
    obtain ⟨x, S1, e1, e2⟩ := bnd_some h
    rw [bnd_eq e1]
    cases x with
    | false => exact e2
    | true =>
      rw [if_pos rfl] at e2 ⊢
      obtain ⟨o, S2, e3, e4⟩ := bnd_some e2
      rw [bnd_eq e3]
      cases o with
      | nx => exact whileF_mono n S2 _ k e4
      | ct => exact whileF_mono n S2 _ k e4
      | bk => exact e4
      | rt d => exact e4
theorem whileS_of {t : MV Bool} {b : MS} {n : Nat} {S : Sta} {r : Out × Sta} (h : whileF t b n S = some r) : whileS t b S = some r := by
  have ex : ∃ n r, whileF t b n S = some r := ⟨n, r, h⟩
  unfold whileS
  rw [dif_pos ex]
  have h2 := ex.choose_spec.choose_spec
  have a := whileF_mono n S r ex.choose h
  have b := whileF_mono _ S _ n h2
  rw [Nat.add_comm] at b
  rw [a] at b
  rw [← Option.some.inj b]
theorem whileS_some {t : MV Bool} {b : MS} {S : Sta} {r : Out × Sta} (h : whileS t b S = some r) : ∃ n, whileF t b n S = some r := by
  unfold whileS at h
  by_cases ex : ∃ n r, whileF t b n S = some r
  · rw [dif_pos ex] at h
    have h2 := ex.choose_spec.choose_spec
    rw [Option.some.inj h] at h2
    exact ⟨_, h2⟩
  · rw [dif_neg ex] at h
    cases h
theorem whileS_end {t : MV Bool} {b : MS} {S S1 : Sta} (h : t S = some (false, S1)) : whileS t b S = some (.nx, S1) := whileS_of (n := 1) (by
  unfold whileF
  rw [bnd_eq h]
  rfl)
theorem whileS_go {t : MV Bool} {b : MS} {S S1 S2 : Sta} {r : Out × Sta} (h : t S = some (true, S1)) (hb : b S1 = some (.nx, S2)) (hr : whileS t b S2 = some r) : whileS t b S = some r := by
  obtain ⟨n, hn⟩ := whileS_some hr
  refine whileS_of (n := n + 1) ?_
  unfold whileF
  rw [bnd_eq h, if_pos rfl, bnd_eq hb]
  exact hn
section
variable {X : Cx} {c : Fr} {K : PySem.W.Frag} {F H : Hp} {S : Sta} {σ : L2.St} {e : Expr} {m : MV D} {pos : Pos} {st : Stmt} {rest : List Stmt} {a b : MS} {t : MV Bool}
/-- a list that no one else knows becomes one's own -/
theorem Rel.adopt {i : Nat} {l : Addr} {ws : List V} {ys : List D} (r : Rel K c F S σ H) (h : H l = some (.lst ws)) (hF : F l = none) (h0 : c.H0 l = none) (hx : ∀ (j : Nat) (ds : List D), S.env[j]? = some (.own ds) → σ[j]? ≠ some (some (.ref l))) (hd : DpAll K F ws ys) :
    Rel K c F { S with env := S.env.set i (.own ys) } (σ.set i (some (.ref l))) H := by
  refine ⟨r.f0, r.fh, r.fr, r.kp, r.hs, r.hc, r.sr, r.fs, r.fc, by simp [r.len], fun j x e => ?_, fun j k a b n e1 e2 => ?_⟩
  · by_cases hj : i = j
    · subst hj
      by_cases hl : i < S.env.length
      · rw [List.getElem?_set_self hl] at e
        rw [List.getElem?_set_self (by rw [r.len]; exact hl)]
        cases e
        exact ⟨l, ws, rfl, h, hd, hF, h0⟩
      · rw [List.getElem?_eq_none (by simp; omega)] at e
        cases e
    · rw [List.getElem?_set_ne hj] at e ⊢
      exact r.sl j x e
  · have other : ∀ (j : Nat) (b : List D), S.env[j]? = some (.own b) → (σ[j]?).join ≠ some (.ref l) := fun j b e z => by
      obtain ⟨q, us, h1, _⟩ := r.own_at e
      refine hx j b e ?_
      rw [h1] at z ⊢
      exact congrArg some z
    by_cases hj : i = j
    · subst hj
      have hl : i < S.env.length := by
        by_cases hl : i < S.env.length
        · exact hl
        · rw [List.getElem?_eq_none (by simp; omega)] at e1
          cases e1
      rw [List.getElem?_set_ne n] at e2
      rw [List.getElem?_set_self (by rw [r.len]; exact hl), List.getElem?_set_ne n]
      exact fun z => other k b e2 z.symm
    · rw [List.getElem?_set_ne hj] at e1
      by_cases hk : i = k
      · subst hk
        have hl : i < S.env.length := by
          by_cases hl : i < S.env.length
          · exact hl
          · rw [List.getElem?_eq_none (by simp; omega)] at e2
            cases e2
        rw [List.getElem?_set_self (by rw [r.len]; exact hl), List.getElem?_set_ne hj]
        exact other j a e1
      · rw [List.getElem?_set_ne hk] at e2
        rw [List.getElem?_set_ne hj, List.getElem?_set_ne hk]
        exact r.sep j k a b n e1 e2
/-- an expression, then a statement's end -/
theorem go_gos {k : D → MS} {D' : Ends} {Q1 : VK} (h : GoS K c (bnd m k S) F D')
    (i : ∀ F1 S1 x v H1, Same F F1 → Rel K c F1 S1 σ H1 → Dp K F1 v x → GoS K c (k x S1) F1 D' → Q1 v H1) : Go K c (m S) F σ Q1 := by
  obtain ⟨o, S', e, q⟩ := h
  obtain ⟨x, S1, e1, e2⟩ := bnd_some e
  exact ⟨x, S1, e1, fun F1 H1 v s1 r1 d1 => i F1 S1 x v H1 s1 r1 d1 ⟨o, S', e2, fun F' H' σ' s2 r2 => q F' H' σ' (s1.trans s2) r2⟩⟩
theorem got_gos {k : Bool → MS} {D' : Ends} {Q1 : Bool → Hp → Prop} (h : GoS K c (bnd t k S) F D')
    (i : ∀ F1 S1 x H1, Same F F1 → Rel K c F1 S1 σ H1 → GoS K c (k x S1) F1 D' → Q1 x H1) : GoT K c (t S) F σ Q1 := by
  obtain ⟨o, S', e, q⟩ := h
  obtain ⟨x, S1, e1, e2⟩ := bnd_some e
  exact ⟨x, S1, e1, fun F1 H1 s1 r1 => i F1 S1 x H1 s1 r1 ⟨o, S', e2, fun F' H' σ' s2 r2 => q F' H' σ' (s1.trans s2) r2⟩⟩
theorem gos_ret {o : Out} {D' : Ends} (h : GoS K c (ret o S) F D') (r : Rel K c F S σ H) : EndAt K F D' o σ H := by
  obtain ⟨o', S', e, q⟩ := h
  cases e
  exact q F H σ (Same.refl F) r
theorem dss_nil : DSs X c [] (ret .nx) := pss_imp pss_nil fun D' σ H ⟨F, S, r, g⟩ => gos_ret g r
theorem dss_cons (h1 : DS X c st a) (h2 : DSs X c rest b) : DSs X c (st :: rest) (seqS a b) :=
  pss_imp (pss_cons h1 h2) fun D' σ H ⟨F, S, r, o, S', e, q⟩ => by
    obtain ⟨x, S1, e1, e2⟩ := bnd_some e
    refine ⟨F, S, r, x, S1, e1, fun F1 H1 σ1 s1 r1 => ?_⟩
    cases x with
    | nx => exact ⟨F1, S1, r1, o, S', e2, fun F' H' σ' s2 r2 => q F' H' σ' (s1.trans s2) r2⟩
    | bk =>
      cases e2
      exact q F1 H1 σ1 s1 r1
    | ct =>
      cases e2
      exact q F1 H1 σ1 s1 r1
    | rt d =>
      cases e2
      exact q F1 H1 σ1 s1 r1
theorem dss_one (h1 : DS X c st a) : DSs X c [st] a := pss_one h1
theorem ds_ret (h : DE X c e m) : DS X c (.Return (some e) pos) (retS m) :=
  ps_imp (ps_ret h) fun D' σ H ⟨F, S, r, g⟩ => ⟨F, S, r, go_gos g fun F1 S1 x v H1 s1 r1 d1 g1 => gos_ret g1 r1 v d1⟩
theorem ds_retN : DS X c (.Return none pos) (ret (.rt .none)) :=
  ps_imp ps_retN fun D' σ H ⟨F, S, r, g⟩ => gos_ret g r .non .non
theorem ds_pass : DS X c (.Pass pos) (ret .nx) := ps_imp ps_pass fun D' σ H ⟨F, S, r, g⟩ => gos_ret g r
theorem ds_break : DS X c (.Break pos) (ret .bk) := ps_imp ps_break fun D' σ H ⟨F, S, r, g⟩ => gos_ret g r
theorem ds_continue : DS X c (.Continue pos) (ret .ct) := ps_imp ps_continue fun D' σ H ⟨F, S, r, g⟩ => gos_ret g r
theorem ds_expr (h : DE X c e m) (hs : swapsWith e none pos.line X.env = pure false := by rfl) : DS X c (.Expr e pos) (dropS m) :=
  ps_imp (ps_expr h hs) fun D' σ H ⟨F, S, r, g⟩ => ⟨F, S, r, go_gos g fun F1 S1 x v H1 s1 r1 d1 g1 => gos_ret g1 r1⟩
theorem ds_if {x y : List Stmt} {q : Expr} (hq : DT X c q t) (ha : DSs X c x a) (hb : DSs X c y b) : DS X c (.If q x y pos) (ifS t a b) :=
  ps_imp (ps_if hq ha hb) fun D' σ H ⟨F, S, r, g⟩ => ⟨F, S, r, got_gos g fun F1 S1 k H1 s1 r1 g1 => by
    cases k with
    | true => exact ⟨F1, S1, r1, g1⟩
    | false => exact ⟨F1, S1, r1, g1⟩⟩
/-- name = e, data -/
theorem ds_asg {x : Str} {pos' : Pos} (i : Nat) (h : DE X c e m) (hN : X.N.Nodup) (hi : X.N[i]? = some x := by rfl) (hx : Loc X.env.scope x := by first | exact Or.inl rfl | exact Or.inr rfl) (hs : swapsWith e (some (.Name x pos')) pos.line X.env = pure false := by rfl)
    (hf : X.fn x = true ∨ X.env.scope.names.lookup x = some .local := by first | exact .inl rfl | exact .inr rfl) : DS X c (.Assign [.Name x pos'] e pos) (asgS i m) :=
  ps_imp (ps_set hN hi hx h hs hf) fun D' σ H ⟨F, S, r, g⟩ => ⟨F, S, r, go_gos g fun F1 S1 y v H1 s1 r1 d1 ⟨o, S', e2, q⟩ => by
    cases e2
    exact q F1 H1 (σ.set i (some v)) (Same.refl F1) (r1.set_fz d1)⟩
/-- name = a new list -/
theorem t_new {i : Nat} {D' : Ends} {Q : VK} (h : GoS K c (asgN i m S) F D') (k : ∀ v H1, D'.nx (σ.set i (some v)) H1 → Q v H1) : GoN K c (m S) F σ Q := by
  obtain ⟨o, S', e, q⟩ := h
  obtain ⟨x, S1, e1, e2⟩ := bnd_some e
  cases x with
  | list ys =>
    cases e2
    refine ⟨ys, S1, e1, fun F' H' l ws s r' g1 g2 g3 g4 g5 => k _ _ ?_⟩
    exact q F' H' (σ.set i (some (.ref l))) s (r'.adopt g4 g1 g2 g3 g5)
  | none => cases e2
  | bool _ => cases e2
  | int _ => cases e2
  | str _ => cases e2
  | tuple _ => cases e2
  | dict _ => cases e2
def DN (X : Cx) (c : Fr) (e : Expr) (m : MV D) : Prop := PE X e (tN X.K c m)
theorem ds_new {x : Str} {pos' : Pos} (i : Nat) (h : DN X c e m) (hN : X.N.Nodup) (hi : X.N[i]? = some x := by rfl) (hx : Loc X.env.scope x := by first | exact Or.inl rfl | exact Or.inr rfl) (hs : swapsWith e (some (.Name x pos')) pos.line X.env = pure false := by rfl)
    (hf : X.fn x = true ∨ X.env.scope.names.lookup x = some .local := by first | exact .inl rfl | exact .inr rfl) : DS X c (.Assign [.Name x pos'] e pos) (asgN i m) :=
  ps_imp (ps_set hN hi hx h hs hf) fun D' σ H ⟨F, S, r, g⟩ => ⟨F, S, r, t_new g fun v H1 q => q⟩
/-- name = [.. for ..] where the name is a plain local one -/
theorem ds_setComp {elt tg iter : Expr} {ifs : List Expr} {scope : Scope} {own : List (Str × Nat)} {spos py : Pos} {y : Str} {i : MV (List D)} {p : Pat} (j : Nat) (hc : X.calm = true) (hN : X.N.Nodup) (hsw : swapsWith (.ListComp elt [⟨tg, iter, ifs, 0⟩] scope pos) (some (.Name y py)) spos.line X.env = pure true)
    (hi : DI X c tg iter i) (ok : BlkOk X.N X.env.scope scope own) (hvs : ∀ j ∈ p.vars, j ∈ own.map (·.2))
    (hg : ∀ (s : Shared) (H : Hp) (C : Addr) (cl : List (Str × Addr)) (fp : List Addr), DG (X.blk s H scope (compEnvC scope cl C X.env) fp) tg p) (ht : ∀ (s : Shared) (H : Hp) (C : Addr) (cl : List (Str × Addr)) (fp : List Addr), DTs (X.blk s H scope (compEnvC scope cl C X.env) fp) ifs t)
    (he : ∀ (s : Shared) (H : Hp) (C : Addr) (cl : List (Str × Addr)) (fp : List Addr) (c' : Fr), DE (X.blk s H scope (compEnvC scope cl C X.env) fp) c' elt m) (hy : X.N[j]? = some y := by rfl) (hyl : X.env.scope.names.lookup y = some .local := by rfl) (hs : ∀ x, foldedSetIterable iter X.env x = pure x := by intro _; rfl) :
    DS X c (.Assign [.Name y py] (.ListComp elt [⟨tg, iter, ifs, 0⟩] scope pos) spos) (asgN j (compD (own.map (·.2)) i p t m)) :=
  ps_imp (ps_setLc (g := gP X.K p) (tt := tTx X.K t) (te := tDx X.K m) hc hN hy hyl hsw hi ok hg ht (fun s H C cl fp => pe_ex (he s H C cl fp)) hs) fun D' σ H ⟨F, S, r, g⟩ => by
    have z : tN X.K c (compD (own.map (·.2)) i p t m) σ H (fun x H1 => gName j x σ H1 D'.nx) := ⟨F, S, r, t_new g fun v H1 q => q⟩
    exact t_comp hvs z
theorem dn_comp {elt tg iter : Expr} {ifs : List Expr} {scope : Scope} {own : List (Str × Nat)} {i : MV (List D)} {p : Pat} (hc : X.calm = true) (hN : X.N.Nodup) (hi : DI X c tg iter i) (ok : BlkOk X.N X.env.scope scope own) (hvs : ∀ j ∈ p.vars, j ∈ own.map (·.2))
    (hg : ∀ (s : Shared) (H : Hp) (C : Addr) (cl : List (Str × Addr)) (fp : List Addr), DG (X.blk s H scope (compEnvC scope cl C X.env) fp) tg p) (ht : ∀ (s : Shared) (H : Hp) (C : Addr) (cl : List (Str × Addr)) (fp : List Addr), DTs (X.blk s H scope (compEnvC scope cl C X.env) fp) ifs t)
    (he : ∀ (s : Shared) (H : Hp) (C : Addr) (cl : List (Str × Addr)) (fp : List Addr) (c' : Fr), DE (X.blk s H scope (compEnvC scope cl C X.env) fp) c' elt m) (hs : ∀ x, foldedSetIterable iter X.env x = pure x := by intro _; rfl) :
    DN X c (.ListComp elt [⟨tg, iter, ifs, 0⟩] scope pos) (compD (own.map (·.2)) i p t m) := pe_comp hc hN hi ok hvs hg ht he hs
/-- a display as a new list -/
theorem dn_lst {es : List Expr} {n : MV (List D)} (h : DL X c es n) : DN X c (.List es pos) (lstD n) :=
  pe_imp (pe_lst h) fun σ H Q ⟨F, S, r, ys, S', e, q⟩ => by
    obtain ⟨xs, S1, e1, e2⟩ := bnd_some e
    refine ⟨F, S, r, xs, S1, e1, fun F1 H1 vs s1 r1 d1 => ?_⟩
    by_cases z : xs.length ≤ sizeLine
    · rw [if_pos z] at e2
      cases e2
      refine ⟨by rw [d1.len]; exact z, fun p hp => ?_⟩
      obtain ⟨g1, g2, g3, g4⟩ := r1.fresh0 hp
      exact q F1 _ p vs s1 (r1.junk hp) g2 g1 g4 upd_same d1
    · rw [if_neg z] at e2
      cases e2
/-- list(xs), a new list -/
theorem dn_list {p : Pos} {n : MV (List D)} (hg : Gl X "list") (hm : X.mg "list" = none) (hv : bootBuiltins "list" = some (.type "list")) (ha : DL X c [e] n) (he : starEach [e] X.env = (false, eval e X.env) :: starEach [] X.env := by rfl) (hpl : (backTo pos (starEach [] X.env)).any (·.1) = false := by rfl) :
    DN X c (.Call (.Name "list" p) [e] [] pos) (callN listD n) :=
  pe_imp (pe_callTy call_list_of hg hm hv ha (by decide) (by decide) he hpl) fun σ H Q ⟨F, S, r, ys, S', e, q⟩ => by
    obtain ⟨xs, S1, e1, e2⟩ := bnd_some e
    obtain ⟨e3, e4⟩ := opt_some e2
    subst e4
    refine ⟨F, S, r, xs, _, e1, fun F1 H1 vs s1 r1 d1 => ?_⟩
    match xs, e3 with
    | [.list xs], e3 =>
      obtain ⟨v, rfl, hv⟩ := DpAll.one d1
      cases e3
      cases hv with
      | @lst p ws _ h1 h2 =>
        refine ⟨p, ws, rfl, .inl (sqL_up r1.fh h1), fun l hl => ?_⟩
        obtain ⟨g1, g2, g3, g4⟩ := r1.fresh0 hl
        exact q F1 _ l ws s1 (r1.junk hl) g2 g1 g4 upd_same h2
    | [.tuple xs], e3 =>
      obtain ⟨v, rfl, hv⟩ := DpAll.one d1
      cases e3
      cases hv with
      | @tup p ws _ h1 h2 =>
        refine ⟨p, ws, rfl, .inr (sqT_up r1.fh h1), fun l hl => ?_⟩
        obtain ⟨g1, g2, g3, g4⟩ := r1.fresh0 hl
        exact q F1 _ l ws s1 (r1.junk hl) g2 g1 g4 upd_same h2
/-- name.append(e), the name's list one's own -/
def appS (i : Nat) (m : MV D) : MS := fun S0 => match S0.env[i]? with
  | some (.own _) => bnd m (fun d => fun S => match S.env[i]? with
    | some (.own ds) => if ds.length < sizeLine then some (.nx, { S with env := S.env.set i (.own (ds ++ [d])) }) else none
    | _ => none) S0
  | _ => none
theorem tyV_list {p : Addr} {vs : List V} (h : H p = some (.lst vs)) : tyV K "list" (.ref p) H := .inl ⟨rfl, _, .inl (.inl h)⟩
theorem ds_append {cl : Expr} {i : Nat} (h : PE X cl (tBM X.K "list" rAppend (tVar i) (tCons (tD X.K c m) tNil))) (hs : swapsWith cl none pos.line X.env = pure false := by rfl) : DS X c (.Expr cl pos) (appS i m) :=
  ps_imp (ps_expr h hs) fun D' σ H ⟨F, S, r, o, S', e, q⟩ => by
    unfold appS at e
    split at e
    · rename_i ds0 e0
      obtain ⟨x, S1, e1, e2⟩ := bnd_some e
      split at e2
      · rename_i ds ez
        by_cases z : ds.length < sizeLine
        · rw [if_pos z] at e2
          cases e2
          obtain ⟨p0, us, k1, k2, _⟩ := r.own_at e0
          refine ⟨.ref p0, k1, tyV_list k2, F, S, r, x, S1, e1, fun F1 H1 v s1 r1 d1 => ?_⟩
          obtain ⟨p, vs, g1, g2, g3, _⟩ := r1.own_at ez
          have ep : p0 = p := by
            rw [k1] at g1
            exact V.ref.inj (Option.some.inj (Option.some.inj g1))
          subst ep
          refine ⟨p0, vs, v, rfl, rfl, g2, by rw [g3.len]; exact z, ?_⟩
          exact q F1 _ σ s1 (r1.put_own ez g1 (g3.append (.cons d1 .nil)))
        · rw [if_neg z] at e2
          cases e2
      · cases e2
    · cases e
/-- while -/
theorem ds_while {q : Expr} {body : List Stmt} (hp : PassesOwn (model X.prog X.w) X.A X.env X.xe) (hq : DT X c q t) (hb : DSs X c body b) : DS X c (.While q body [] pos) (whileS t b) :=
  ps_imp (ps_while hp hq hb) fun D' σ H ⟨F, S, r, o, S', e, q⟩ => by
    obtain ⟨n, hn⟩ := whileS_some e
    refine ⟨fun k σ1 H1 => ∃ F1 S1, Same F F1 ∧ Rel X.K c F1 S1 σ1 H1 ∧ whileF t b k S1 = some (o, S'), ⟨n, F, S, Same.refl F, r, hn⟩, ?_⟩
    rintro k σ1 H1 ⟨F1, S1, s1, r1, h1⟩
    cases k with
    | zero => cases h1
    | succ k =>
      unfold whileF at h1
      obtain ⟨x, S2, e1, e2⟩ := bnd_some h1
      refine ⟨F1, S1, r1, x, S2, e1, fun F2 H2 s2 r2 => ?_⟩
      cases x with
      | false =>
        rw [if_neg Bool.false_ne_true]
        cases e2
        exact q F2 H2 σ1 (s1.trans s2) r2
      | true =>
        rw [if_pos rfl]
        rw [if_pos rfl] at e2
        obtain ⟨o2, S3, e3, e4⟩ := bnd_some e2
        refine ⟨fun σ' H' => ∃ F3 S4, Same F F3 ∧ Rel X.K c F3 S4 σ' H' ∧ whileF t b k S4 = some (o, S'), fun σ' H' h => ⟨k, Nat.lt_succ_self k, h⟩, F2, S2, r2, o2, S3, e3, fun F3 H3 σ3 s3 r3 => ?_⟩
        have up := (s1.trans s2).trans s3
        cases o2 with
        | nx => exact ⟨F3, S3, up, r3, e4⟩
        | ct => exact ⟨F3, S3, up, r3, e4⟩
        | bk =>
          cases e4
          exact q F3 H3 σ3 up r3
        | rt d =>
          cases e4
          exact q F3 H3 σ3 up r3
/-- for -/
theorem ds_for {tg iter : Expr} {body : List Stmt} {i : MV (List D)} {p : Pat} (hp : PassesOwn (model X.prog X.w) X.A X.env X.xe) (hc : X.calm = true) (hi : DI X c tg iter i) (hg : DG X tg p) (hb : DSs X c body b)
    (hs : ∀ x, foldedSetIterable iter X.env x = pure x := by intro _; rfl) : DS X c (.For tg iter body [] pos) (forS i p b) :=
  ps_imp (ps_for hp hc hi hg hb hs) fun D' σ H ⟨F, S, r, o, S', e, q⟩ => by
    obtain ⟨ds, S1, e1, e2⟩ := bnd_some e
    refine ⟨F, S, r, ds, S1, e1, fun F1 H1 J G Y s1 r1 W hG hY => ?_⟩
    refine for_it W (fun k σk Hk => ∃ F2 S2, Same F1 F2 ∧ Rel X.K c F2 S2 σk Hk ∧ forM p b (ds.drop k) S2 = some (o, S')) ?_ ?_ ?_ ?_
    · exact ⟨F1, S1, Same.refl F1, r1, by simpa using e2⟩
    · rintro k σk Hk _ ⟨F2, S2, g1, g2, _⟩
      exact hG F2 Hk g1 g2.fh
    · rintro k x σk Hk Hk' hk ⟨F2, S2, g1, g2, g3⟩ y
      obtain ⟨F3, d, s3, r3, ed, hd⟩ := hY k _ F2 S2 σk Hk x Hk' g1 g2 y
      have hk' : k < ds.length := hk
      have edrop : ds.drop k = d :: ds.drop (k + 1) := by
        rw [List.drop_eq_getElem_cons hk']
        rw [List.getElem?_eq_getElem hk'] at ed
        rw [Option.some.inj ed]
      rw [edrop] at g3
      unfold forM at g3
      cases eb : p.bind d S2.env with
      | none =>
        rw [eb] at g3
        cases g3
      | some env1 =>
        rw [eb] at g3
        refine gP_run p r3 hd eb fun σ4 r4 o4 => ?_
        obtain ⟨o2, S5, e5, e6⟩ := bnd_some g3
        refine ⟨F3, _, r4, o2, S5, e5, fun F5 H5 σ5 s5 r5 => ?_⟩
        have up := (g1.trans s3).trans s5
        cases o2 with
        | nx => exact ⟨F5, S5, up, r5, e6⟩
        | ct => exact ⟨F5, S5, up, r5, e6⟩
        | bk =>
          cases e6
          exact q F5 H5 σ5 (s1.trans up) r5
        | rt d' =>
          cases e6
          exact q F5 H5 σ5 (s1.trans up) r5
    · rintro σk Hk ⟨F2, S2, g1, g2, g3⟩
      rw [List.drop_length] at g3
      unfold forM at g3
      cases g3
      exact q F2 Hk σk (s1.trans g1) g2
/-- names = a tuple -/
theorem ds_unp {tg : Expr} {p : Pat} (h : DE X c e m) (hg : DG X tg p) (hs : swapsWithSole [tg] e pos.line X.env = pure false := by rfl) (hw : swappedStores [tg] e X.env = pure none := by rfl)
    (h1 : (assignEach [tg] X.env).map (·.2) = [assign tg X.env] := by rfl) : DS X c (.Assign [tg] e pos) (unpS p m) :=
  ps_imp (ps_asg h hg hs hw h1) fun D' σ H ⟨F, S, r, g⟩ => ⟨F, S, r, go_gos g fun F1 S1 x v H1 s1 r1 d1 ⟨o, S', e2, q⟩ => by
    unfold bindS at e2
    cases eb : p.bind x S1.env with
    | none =>
      rw [eb] at e2
      cases e2
    | some env =>
      rw [eb] at e2
      cases e2
      exact gP_run p r1 d1 eb fun σ' r' o' => q F1 H1 σ' (Same.refl F1) r'⟩
/-- x, y = e1, e2, both local -/
def par2 (i j : Nat) (n : MV (List D)) : MS := bnd n fun xs => match xs with
  | [x, y] => fun S => some (.nx, { S with env := (S.env.set i (.fz x)).set j (.fz y) })
  | _ => fun _ => none
theorem ds_par {i j : Nat} {x y : Str} {e1 e2 : Expr} {n : MV (List D)} {px py pt : Pos} {kt k2 pt2} (hc : X.calm = true) (hN : X.N.Nodup) (ha : DL X c [e1, e2] n) (hw : swappedStores [.Tuple [.Name x px, .Name y py] kt pt] (.Tuple [e1, e2] k2 pt2) X.env = pure (some [x, y])) (hij : i ≠ j) (hi : X.N[i]? = some x := by rfl) (hj : X.N[j]? = some y := by rfl)
    (hx : X.env.scope.names.lookup x = some .local := by rfl) (hy : X.env.scope.names.lookup y = some .local := by rfl) (hs : swapsWithSole [.Tuple [.Name x px, .Name y py] kt pt] (.Tuple [e1, e2] k2 pt2) pos.line X.env = pure false := by rfl) :
    DS X c (.Assign [.Tuple [.Name x px, .Name y py] kt pt] (.Tuple [e1, e2] k2 pt2) pos) (par2 i j n) :=
  ps_imp (ps_par hc hN hi hj hij hx hy ha hw hs) fun D' σ H ⟨F, S, r, o, S', e, q⟩ => by
    obtain ⟨xs, S1, e1, e2⟩ := bnd_some e
    refine ⟨F, S, r, xs, S1, e1, fun F1 H1 vs s1 r1 d1 => ?_⟩
    split at e2
    · cases e2
      obtain ⟨v, w, rfl, hv, hw'⟩ := DpAll.two d1
      exact ⟨v, w, rfl, q F1 H1 _ s1 ((r1.set_fz hv).set_fz hw')⟩
    · cases e2
/-! ### a def -/
def slotOf : Arg → Slot
  | .d x => .fz x
  | .src => .src
def defM (n : Nat) (b : MS) : DF := fun as s => match b ⟨as.map slotOf ++ List.replicate (n - as.length) .un, s⟩ with
  | some (.rt d, S') => some (d, S'.src)
  | some (.nx, S') => some (.none, S'.src)
  | _ => none
theorem args_slots {ps : Addr} : ∀ {vs : List V} {as : List Arg}, ArgsOk K ps F vs as → ∀ (i : Nat) (x : Slot), (as.map slotOf)[i]? = some x → ∃ v, vs[i]? = some v ∧ ((∃ d, x = .fz d ∧ Dp K F v d) ∨ (x = .src ∧ v = .ref ps))
  | _, _, .nil, i, x, e => by simp at e
  | v :: vs, a :: as, .cons h t, 0, x, e => by
    refine ⟨v, rfl, ?_⟩
    cases a with
    | d y =>
      cases e
      exact .inl ⟨y, rfl, h⟩
    | src =>
      cases e
      exact .inr ⟨rfl, h⟩
  | v :: vs, a :: as, .cons h t, i + 1, x, e => args_slots t i x (by simpa using e)
theorem t_def {N : List Str} {ps : List Str} {vs : List V} {Q : VK} {E : XK} {b : MS} (hN : ps.length ≤ N.length) (h : spD ps.length (defM N.length b) K vs H Q E) : ∃ c, tS K c b { nx := fun _ H' => Q .non H', rt := Q } (L2.start N vs) H := by
  obtain ⟨sp, pc, F, as, s, d, s', h1, h2, h3, h4, h5, h6, h7, q⟩ := h
  unfold defM at h7
  have hv : vs.length = as.length := h3.len
  refine ⟨⟨H, F, sp, pc⟩, F, ⟨as.map slotOf ++ List.replicate (N.length - as.length) .un, s⟩, ⟨Same.refl F, h2, fun a o e => .inl e, fun a o e _ _ => e, ?_, ?_, h4, h5, h6, ?_, fun i x e => ?_, fun i j a b n e1 e2 => ?_⟩, ?_⟩
  · show H sp ≠ none
    rw [h4.d]
    exact fun z => nomatch z
  · show H pc ≠ none
    rw [h4.l]
    exact fun z => nomatch z
  · unfold L2.start
    simp [hv]
  · by_cases hi : i < as.length
    · rw [List.getElem?_append_left (by simpa using hi)] at e
      obtain ⟨v, g1, g2⟩ := args_slots h3 i x e
      unfold L2.start
      have hi' : i < (vs.map some).length := by simp [hv, hi]
      rw [List.getElem?_append_left hi', List.getElem?_map, g1]
      rcases g2 with ⟨d, rfl, g2⟩ | ⟨rfl, g2⟩
      · exact g2
      · exact g2
    · rw [List.getElem?_append_right (by simpa using Nat.le_of_not_lt hi), List.getElem?_replicate] at e
      split at e
      · cases e
        trivial
      · cases e
  · exfalso
    have none_own : ∀ (i : Nat) (a : List D), (as.map slotOf ++ List.replicate (N.length - as.length) Slot.un)[i]? ≠ some (.own a) := fun i a e => by
      by_cases hi : i < as.length
      · rw [List.getElem?_append_left (by simpa using hi), List.getElem?_map] at e
        cases z : as[i]? with
        | none =>
          rw [z] at e
          cases e
        | some y =>
          rw [z] at e
          cases y <;> cases e
      · rw [List.getElem?_append_right (by simpa using Nat.le_of_not_lt hi), List.getElem?_replicate] at e
        split at e <;> cases e
    exact none_own i a e1
  · cases z : b ⟨as.map slotOf ++ List.replicate (N.length - as.length) .un, s⟩ with
    | none =>
      rw [z] at h7
      cases h7
    | some r =>
      obtain ⟨o, S'⟩ := r
      rw [z] at h7
      refine ⟨o, S', rfl, fun F' H' σ' g1 g2 => ?_⟩
      cases o with
      | nx =>
        cases h7
        exact q F' H' .non g1 g2.fh g2.fr g2.kp g2.sr .non
      | rt d' =>
        cases h7
        exact fun v hd => q F' H' v g1 g2.fh g2.fr g2.kp g2.sr hd
      | bk => cases h7
      | ct => cases h7
end
section
variable {P : Program} {w : World} {K : PySem.W.Frag} {mg : Str → Option Value} {base : Heap} {x qual : Str} {params : Arguments} {body : List Stmt} {scope : Scope} {dvs : List V} {kws : List (Str × V)} {f : Addr} {fd : FuncData}
/-- THE RULE for a def: its body as a function of its slots -/
theorem def_ok {N ps : List Str} {k : Nat} {b : MS} (F : FunD K x qual params body scope dvs kws f fd) (S : FnScope N ps scope) (hN : ps.length ≤ N.length)
    (h : ∀ (X : Cx) (c : Fr) (cdv : Value) (A : Around) (outer : List Env) (s : Shared) (H : Hp) (E : XK), X = (cxOf CX0 P w K mg base N qual scope f cdv A outer s H E).nox → Room k X.A → DSs X c body b) : FnOk P w K mg base CX0 (k + 1) f fd ps (spD ps.length (defM N.length b) K) := by
  refine F.ok S (fun vs H Q E q => spD_len q) fun cdv A outer s H vs Q E hr q => ?_
  obtain ⟨c, z⟩ := t_def hN q
  exact ⟨tS K c b, PSs.nox (h _ c cdv A outer s H E rfl hr), z⟩
end
end DL

-- part DL7
set_option Elab.async false
set_option linter.all false
set_option maxRecDepth 100000
set_option maxHeartbeats 1000000
/-! DL7: calls of defs by name, more built-ins, lists read while one's own. -/
namespace DL
open PySem PySem.Spec PyProof.Rows L2 RZ
section
variable {P : Program} {w : World} {K : PySem.W.Frag} {mg : Str → Option Value} {base : Heap} {x qual : Str} {params : Arguments} {body : List Stmt} {scope : Scope} {f : Addr} {fd : FuncData}
abbrev XX (P : Program) (w : World) (K : PySem.W.Frag) (mg : Str → Option Value) (base : Heap) (N : List Str) (qual : Str) (scope : Scope) (f : Addr) (cdv : Value) (A : Around) (outer : List Env) (s : Shared) (H : Hp) (E : XK) : Cx :=
  (cxOf CX0 P w K mg base N qual scope f cdv A outer s H E).nox
/-- the def named x, n arguments, does m; it needs the room k -/
structure Cal (P : Program) (w : World) (K : PySem.W.Frag) (mg : Str → Option Value) (base : Heap) (x : Str) (n k : Nat) (m : DF) : Prop where
  ex : ∃ (f : Addr) (fd : FuncData) (ps : List Str), FnOk P w K mg base CX0 k f fd ps (spD n m K) ∧ mg x = some (.ref f) ∧ PySem.W.keepIn K (.ref f) = true ∧ Binds K fd ps []
theorem Cal.as {n k : Nat} {m m' : DF} (h : Cal P w K mg base x n k m) (e : m = m') : Cal P w K mg base x n k m' := e ▸ h
theorem def_in {N ps : List Str} {k : Nat} {b : MS} {x' : Str} (F : FunD K x' qual params body scope [] [] f fd) (S : FnScope N ps scope) (hN : ps.length ≤ N.length) (hm : mg x = some (.ref f))
    (hb : ∀ (kV doc pm : Value) (an : Option Addr) (cdv ct : Value) (us : List Value), us.length = ps.length → bindArgs (PySem.W.fnOf x' qual params body scope .none kV doc pm an cdv ct) ⟨us, []⟩ = pure (ps.zip us))
    (h : ∀ (c : Fr) (cdv : Value) (A : Around) (outer : List Env) (s : Shared) (H : Hp) (E : XK), Room k (XX P w K mg base N qual scope f cdv A outer s H E).A → DSs (XX P w K mg base N qual scope f cdv A outer s H E) c body b) :
    Cal P w K mg base x ps.length (k + 1) (defM N.length b) :=
  ⟨⟨f, fd, ps, def_ok F S hN (fun X c cdv A outer s H E e r => by subst e; exact h c cdv A outer s H E r), hm, F.kp, F.bindsN hb⟩⟩
end
section
variable {X : Cx} {c : Fr} {e : Expr} {es : List Expr} {m : MV D} {pos : Pos} {l : MV (List Arg)}
theorem de_c {n k j : Nat} {f : DF} {x : Str} {p : Pos} (C : Cal X.prog X.w X.K X.mg X.base x n k f) (hr : Room j X.A) (hk : k ≤ j) (hg : Gl X x)
    (ha : DA X c (e :: es) l) (hn : ∀ S as S', l S = some (as, S') → as.length = n) (hdb : (x == ("__debug__" : Str)) = false := by decide) (he : starEach (e :: es) X.env = (false, eval e X.env) :: starEach es X.env := by rfl) (hpl : (backTo pos (starEach es X.env)).any (·.1) = false := by rfl) :
    DE X c (.Call (.Name x p) (e :: es) [] pos) (callD f l) := by
  obtain ⟨ff, fd, ps, G, hm, hkp, hb⟩ := C.ex
  exact de_call (E := E0) G (hr.mono hk) hg hm hkp hb ha hn hdb he hpl
end

/-! ### tuples of ints walked -/
section
variable {prog : Program} {w : World} {A : Around} {E : Value → Shared → Prop} {s : Shared} {t : Addr}
theorem iter_tup {items : Array Value} {Q : Value → Shared → Prop} (ht : s.heap.IsTuple t items)
    (h : ∀ s2 : Shared, s2 = { s with heap := s.heap.push { cls := .type "tuple_iterator", data := .fields #[.ref t, .int 0 0] } } → (s2.heap.IsTupleIter s.heap.objs.size t 0 ∧ s2.heap.IsTuple t items) → (∀ b ∈ [s.heap.objs.size, t], b < s2.heap.objs.size) → t ≠ s.heap.objs.size → Q (.ref s.heap.objs.size) s2) :
    wpAny (model prog w) A (pyIter (.ref t)) Q E s := by
  have hlt : t < s.heap.objs.size := by
    obtain ⟨_, e, _⟩ := ht
    exact Heap.lt_size e
  refine wpAny_pyIter_tuple ht (h _ rfl ⟨⟨_, Heap.get?_push_size _ rfl, rfl, rfl⟩, ?_⟩ (fun b hb => ?_) (Nat.ne_of_lt hlt))
  · obtain ⟨o, e, r⟩ := ht
    exact ⟨o, Heap.get?_push_of_some _ e, r⟩
  · show b < (s.heap.push _).objs.size
    rw [Heap.size_push]
    have hb' : b = s.heap.objs.size ∨ b = t := by simpa using hb
    rcases hb' with z | z
    · rw [z]
      exact Nat.lt_succ_self _
    · rw [z]
      exact Nat.lt_succ_of_lt hlt
theorem kept_of {o1 : Obj} {h' : Heap} (hk : ∀ b o, b ∉ [s.heap.objs.size] → (s.heap.push o1).get? b = some o → h'.get? b = some o) : ∀ b o, s.heap.get? b = some o → h'.get? b = some o := fun b o e =>
  hk b o (by
    have := Heap.lt_size e
    simp only [List.mem_singleton]
    exact Nat.ne_of_lt this) (Heap.get?_push_of_some _ e)
theorem max_tup {its : List Value} {ns : List Int} {Q : Value → Shared → Prop} (hh : A.handled = none) (hl : s.heap.IsTuple t its.toArray) (hi : IntsAre its ns) (hne : 0 < ns.length)
    (h : ∀ h' tk M t', (∀ b o, s.heap.get? b = some o → h'.get? b = some o) → M ∈ ns → (∀ a, a ∈ ns → a ≤ M) → Q (.int M t') { s with heap := h', toks := tk }) : wpAny (model prog w) A (call (.builtin "max") [.ref t]) Q E s := by
  obtain ⟨xs, e⟩ := hi.allInts.items
  have hn : numsOf (intItems xs).toList = ns := by rw [← e]; exact hi.numsOf
  rw [nums_intItems] at hn
  subst hn
  rw [e] at hl
  have hsz : 0 < xs.size := by simpa using hne
  refine call_max_walk (iter_tup hl fun s2 e2 st hfp hne2 => ?_)
  subst e2
  refine ⟨_, _, _, _, _, _, _, rfl, Walks.tuple (A := A.in1) hh _ t hne2 (intItems xs), st, hfp, by simpa [intItems] using hne, CmpOf.ints_gt (numAt xs) (fun _ _ => intItems_at), fun v h' tk hP hk => ?_⟩
  have hv : (intItems xs)[argBest (fun i j => decide (numAt xs i > numAt xs j)) (xs.size - 1)]? = some v := by simpa [intItems] using hP
  obtain ⟨tt, rfl⟩ := intItems_at hv
  obtain ⟨h1, h2⟩ := argBest_gt (numAt xs) (xs.size - 1)
  refine h h' tk _ tt (kept_of hk) ?_ fun a ha => ?_
  · rw [numAt_eq]
    exact PySem.getD_mem (by rw [List.length_map, Array.length_toList]; omega)
  · obtain ⟨j, hj, rfl⟩ := mem_getD ha
    rw [List.length_map, Array.length_toList] at hj
    rw [← numAt_eq]
    exact h2 j (by omega)
theorem min_tup {its : List Value} {ns : List Int} {Q : Value → Shared → Prop} (hh : A.handled = none) (hl : s.heap.IsTuple t its.toArray) (hi : IntsAre its ns) (hne : 0 < ns.length)
    (h : ∀ h' tk M t', (∀ b o, s.heap.get? b = some o → h'.get? b = some o) → M ∈ ns → (∀ a, a ∈ ns → M ≤ a) → Q (.int M t') { s with heap := h', toks := tk }) : wpAny (model prog w) A (call (.builtin "min") [.ref t]) Q E s := by
  obtain ⟨xs, e⟩ := hi.allInts.items
  have hn : numsOf (intItems xs).toList = ns := by rw [← e]; exact hi.numsOf
  rw [nums_intItems] at hn
  subst hn
  rw [e] at hl
  have hsz : 0 < xs.size := by simpa using hne
  refine call_min_walk (iter_tup hl fun s2 e2 st hfp hne2 => ?_)
  subst e2
  refine ⟨_, _, _, _, _, _, _, rfl, Walks.tuple (A := A.in1) hh _ t hne2 (intItems xs), st, hfp, by simpa [intItems] using hne, CmpOf.ints_lt (numAt xs) (fun _ _ => intItems_at), fun v h' tk hP hk => ?_⟩
  have hv : (intItems xs)[argBest (fun i j => decide (numAt xs i < numAt xs j)) (xs.size - 1)]? = some v := by simpa [intItems] using hP
  obtain ⟨tt, rfl⟩ := intItems_at hv
  obtain ⟨h1, h2⟩ := argBest_lt (numAt xs) (xs.size - 1)
  refine h h' tk _ tt (kept_of hk) ?_ fun a ha => ?_
  · rw [numAt_eq]
    exact PySem.getD_mem (by rw [List.length_map, Array.length_toList]; omega)
  · obtain ⟨j, hj, rfl⟩ := mem_getD ha
    rw [List.length_map, Array.length_toList] at hj
    rw [← numAt_eq]
    exact h2 j (by omega)
theorem sum_tup {its : List Value} {ns : List Int} {Q : Value → Shared → Prop} (hh : A.handled = none) (hl : s.heap.IsTuple t its.toArray) (hi : IntsAre its ns)
    (h : ∀ h' tk t', (∀ b o, s.heap.get? b = some o → h'.get? b = some o) → Q (.int ns.sum t') { s with heap := h', toks := tk }) : wpAny (model prog w) A (call (.builtin "sum") [.ref t]) Q E s := by
  obtain ⟨xs, e⟩ := hi.allInts.items
  have hn : numsOf (intItems xs).toList = ns := by rw [← e]; exact hi.numsOf
  rw [nums_intItems] at hn
  rw [e] at hl
  refine call_sum_walkG (iter_tup hl fun s2 e2 st hfp hne2 => ?_)
  subst e2
  refine ⟨_, _, _, _, _, _, numAt xs, rfl, Walks.tuple (A := A.in1) hh _ t hne2 (intItems xs), st, hfp, (fun _ _ => intItems_at), fun h' tk t' hk => ?_⟩
  have := h h' tk t' (kept_of hk)
  have e3 : preSum (numAt xs) (intItems xs).size = ns.sum := by
    rw [preSum_eq, List.take_of_length_le (by simp [intItems]), hn]
  rw [e3]
  exact this
end
section
variable {X : Cx} {c : Fr} {e : Expr} {es : List Expr} {m : MV D} {n : MV (List D)} {pos : Pos}
def rTup (R : List Int → (Int → Prop) → Prop) (K : PySem.W.Frag) : List V → Hp → VK → Prop := fun vs H Q => ∃ (a : Addr) (ns : List Int), vs = [V.ref a] ∧ SqT K H a (ns.map V.int) ∧ R ns (fun i => Q (.int i) H)
theorem cr_maxT (hc : X.calm = true) : CallR X (.builtin "max") (rTup (fun ns Q => 0 < ns.length ∧ ∀ m, m ∈ ns → (∀ y, y ∈ ns → y ≤ m) → Q m) X.K) := by
  intro pins s σ H vs us Q I r h
  obtain ⟨a, ns, rfl, hs, hne, q⟩ := h
  obtain ⟨its, rv, hl, _⟩ := I.tuple hs
  rw [Vals.ref1 r]
  exact max_tup (I.ok.hd hc) hl rv.ints hne fun h' tk m t' hk h1 h2 => ⟨.int _, H, I.kept hk, ⟨_, rfl⟩, q m h1 h2⟩
theorem cr_minT (hc : X.calm = true) : CallR X (.builtin "min") (rTup (fun ns Q => 0 < ns.length ∧ ∀ m, m ∈ ns → (∀ y, y ∈ ns → m ≤ y) → Q m) X.K) := by
  intro pins s σ H vs us Q I r h
  obtain ⟨a, ns, rfl, hs, hne, q⟩ := h
  obtain ⟨its, rv, hl, _⟩ := I.tuple hs
  rw [Vals.ref1 r]
  exact min_tup (I.ok.hd hc) hl rv.ints hne fun h' tk m t' hk h1 h2 => ⟨.int _, H, I.kept hk, ⟨_, rfl⟩, q m h1 h2⟩
theorem cr_sumT (hc : X.calm = true) : CallR X (.builtin "sum") (rTup (fun ns Q => Q ns.sum) X.K) := by
  intro pins s σ H vs us Q I r h
  obtain ⟨a, ns, rfl, hs, q⟩ := h
  obtain ⟨its, rv, hl, _⟩ := I.tuple hs
  rw [Vals.ref1 r]
  exact sum_tup (I.ok.hd hc) hl rv.ints fun h' tk t' hk => ⟨.int _, H, I.kept hk, ⟨_, rfl⟩, q⟩
def maxI (ns : List Int) : Option D := ns.max?.map PyData.int
def minI (ns : List Int) : Option D := ns.min?.map PyData.int
theorem maxI_some {ns : List Int} {d : D} (h : maxI ns = some d) : 0 < ns.length ∧ ∃ m, d = .int m ∧ ∀ m', m' ∈ ns → (∀ y, y ∈ ns → y ≤ m') → m' = m := by
  unfold maxI at h
  cases z : ns.max? with
  | none =>
    rw [z] at h
    cases h
  | some m =>
    rw [z] at h
    cases h
    have hm := List.max?_eq_some_iff.mp z
    refine ⟨List.length_pos_of_mem hm.1, m, rfl, fun m' h1 h2 => ?_⟩
    have a := h2 m hm.1
    have b := hm.2 m' h1
    omega
theorem minI_some {ns : List Int} {d : D} (h : minI ns = some d) : 0 < ns.length ∧ ∃ m, d = .int m ∧ ∀ m', m' ∈ ns → (∀ y, y ∈ ns → m' ≤ y) → m' = m := by
  unfold minI at h
  cases z : ns.min? with
  | none =>
    rw [z] at h
    cases h
  | some m =>
    rw [z] at h
    cases h
    have hm := List.min?_eq_some_iff.mp z
    refine ⟨List.length_pos_of_mem hm.1, m, rfl, fun m' h1 h2 => ?_⟩
    have a := h2 m hm.1
    have b := hm.2 m' h1
    omega
def max1D : List D → Option D
  | [.list xs] => (intsOf xs).bind maxI
  | [.tuple xs] => (intsOf xs).bind maxI
  | _ => none
def min1D : List D → Option D
  | [.list xs] => (intsOf xs).bind minI
  | [.tuple xs] => (intsOf xs).bind minI
  | _ => none
def sumTD : List D → Option D
  | [.tuple xs] => (intsOf xs).map fun ns => .int ns.sum
  | _ => none
theorem ints_lst {K : PySem.W.Frag} {F : Hp} {vs : List V} {xs : List D} {d : D} {g : List Int → Option D} (ha : DpAll K F vs [.list xs]) (hf : (intsOf xs).bind g = some d) :
    ∃ p ns, vs = [.ref p] ∧ SqL K F p (ns.map V.int) ∧ g ns = some d := by
  obtain ⟨v, rfl, hv⟩ := DpAll.one ha
  cases z : intsOf xs with
  | none =>
    rw [z] at hf
    cases hf
  | some ns =>
    rw [z] at hf
    have zz := intsOf_some z
    subst zz
    cases hv with
    | @lst p ys _ h1 h2 =>
      have := DpAll.ints h2
      subst this
      exact ⟨p, ns, rfl, h1, hf⟩
theorem ints_tup {K : PySem.W.Frag} {F : Hp} {vs : List V} {xs : List D} {d : D} {g : List Int → Option D} (ha : DpAll K F vs [.tuple xs]) (hf : (intsOf xs).bind g = some d) :
    ∃ p ns, vs = [.ref p] ∧ SqT K F p (ns.map V.int) ∧ g ns = some d := by
  obtain ⟨v, rfl, hv⟩ := DpAll.one ha
  cases z : intsOf xs with
  | none =>
    rw [z] at hf
    cases hf
  | some ns =>
    rw [z] at hf
    have zz := intsOf_some z
    subst zz
    cases hv with
    | @tup p ys _ h1 h2 =>
      have := DpAll.ints h2
      subst this
      exact ⟨p, ns, rfl, h1, hf⟩
def max1L : List D → Option D
  | [.list xs] => (intsOf xs).bind maxI
  | _ => none
def max1T : List D → Option D
  | [.tuple xs] => (intsOf xs).bind maxI
  | _ => none
def min1L : List D → Option D
  | [.list xs] => (intsOf xs).bind minI
  | _ => none
def min1T : List D → Option D
  | [.tuple xs] => (intsOf xs).bind minI
  | _ => none
theorem callr_max1L (hc : X.calm = true) : CallR X (.builtin "max") (rnD X.K max1L) := callr_imp (cr_max hc) fun vs H Q ⟨F, xs, d, e, ha, hf, q⟩ => by
  match xs, hf with
  | [.list xs], hf =>
    obtain ⟨p, ns, rfl, h1, h2⟩ := ints_lst ha hf
    obtain ⟨h3, m, rfl, h4⟩ := maxI_some h2
    exact ⟨p, ns, rfl, sqL_up e h1, h3, fun m' a b => by rw [h4 m' a b]; exact q.1 _ (.int _)⟩
theorem callr_min1L (hc : X.calm = true) : CallR X (.builtin "min") (rnD X.K min1L) := callr_imp (cr_min hc) fun vs H Q ⟨F, xs, d, e, ha, hf, q⟩ => by
  match xs, hf with
  | [.list xs], hf =>
    obtain ⟨p, ns, rfl, h1, h2⟩ := ints_lst ha hf
    obtain ⟨h3, m, rfl, h4⟩ := minI_some h2
    exact ⟨p, ns, rfl, sqL_up e h1, h3, fun m' a b => by rw [h4 m' a b]; exact q.1 _ (.int _)⟩
theorem callr_max1T (hc : X.calm = true) : CallR X (.builtin "max") (rnD X.K max1T) := callr_imp (cr_maxT hc) fun vs H Q ⟨F, xs, d, e, ha, hf, q⟩ => by
  match xs, hf with
  | [.tuple xs], hf =>
    obtain ⟨p, ns, rfl, h1, h2⟩ := ints_tup ha hf
    obtain ⟨h3, m, rfl, h4⟩ := maxI_some h2
    exact ⟨p, ns, rfl, sqT_up e h1, h3, fun m' a b => by rw [h4 m' a b]; exact q.1 _ (.int _)⟩
theorem callr_min1T (hc : X.calm = true) : CallR X (.builtin "min") (rnD X.K min1T) := callr_imp (cr_minT hc) fun vs H Q ⟨F, xs, d, e, ha, hf, q⟩ => by
  match xs, hf with
  | [.tuple xs], hf =>
    obtain ⟨p, ns, rfl, h1, h2⟩ := ints_tup ha hf
    obtain ⟨h3, m, rfl, h4⟩ := minI_some h2
    exact ⟨p, ns, rfl, sqT_up e h1, h3, fun m' a b => by rw [h4 m' a b]; exact q.1 _ (.int _)⟩
theorem callr_sumT (hc : X.calm = true) : CallR X (.builtin "sum") (rnD X.K sumTD) := callr_imp (cr_sumT hc) fun vs H Q ⟨F, xs, d, e, ha, hf, q⟩ => by
  match xs, hf with
  | [.tuple xs], hf =>
    have hf' : (intsOf xs).bind (fun ns => some (PyData.int ns.sum)) = some d := by
      have z : (intsOf xs).map (fun ns => PyData.int ns.sum) = some d := hf
      rw [Option.map_eq_bind] at z
      exact z
    obtain ⟨p, ns, rfl, h1, h2⟩ := ints_tup ha hf'
    cases h2
    exact ⟨p, ns, rfl, sqT_up e h1, q.1 _ (.int _)⟩
theorem callr_max1 (hc : X.calm = true) : CallR X (.builtin "max") (rnD X.K (altN max1L max1T)) := callr_alt (callr_max1L hc) (callr_max1T hc)
theorem callr_min1 (hc : X.calm = true) : CallR X (.builtin "min") (rnD X.K (altN min1L min1T)) := callr_alt (callr_min1L hc) (callr_min1T hc)
theorem callr_sum1 (hc : X.calm = true) : CallR X (.builtin "sum") (rnD X.K (altN sumD sumTD)) := callr_alt (callr_sum hc) (callr_sumT hc)

/-! ### isinstance -/
def tyS : D → Option String
  | .none => some "NoneType"
  | .bool _ => some "bool"
  | .int _ => some "int"
  | .str _ => some "str"
  | .list _ => some "list"
  | .tuple _ => some "tuple"
  | _ => none
def isiD (T : String) (d : D) : Option D := (tyS d).bind fun t => (kitB t T).map PyData.bool
theorem dp_ty {K : PySem.W.Frag} {F H : Hp} {v : V} {d : D} {t : String} (s : Same F H) (h : Dp K F v d) (e : tyS d = some t) : TyX K H v (.type t) := by
  cases h with
  | non => cases e; exact .base .non
  | bl b => cases e; exact .base (.bl b)
  | int i => cases e; exact .base (.int i)
  | str x => cases e; exact .base (.str x)
  | lst h1 h2 =>
    cases e
    rcases sqL_up s h1 with (z | ⟨o, z⟩) | ⟨o, its, n, z, zc, _⟩
    · exact .base (.lst z)
    · exact .base (.frz z)
    · exact .kList z zc
  | tup h1 h2 =>
    cases e
    rcases sqT_up s h1 with (z | ⟨o, z⟩) | ⟨o, its, n, z, zc, _⟩
    · exact .base (.tup z)
    · exact .fTuple z
    · exact .kTuple z zc
theorem de_isi {T : String} {x y : Str} {p p2 : Pos} (h : DE X c e m) (hg : Gl X x) (hm : X.mg x = none) (hv : bootBuiltins x = some (.builtin "isinstance")) (hg2 : Gl X y) (hm2 : X.mg y = none) (hv2 : bootBuiltins y = some (.type T))
    (hn : x ≠ "__name__" := by decide) (hdb : (x == ("__debug__" : Str)) = false := by decide) (hn2 : y ≠ "__name__" := by decide) (hdb2 : (y == ("__debug__" : Str)) = false := by decide)
    (hs : starEach (e :: [.Name y p2]) X.env = (false, eval e X.env) :: starEach [.Name y p2] X.env := by rfl) (hpl : (backTo pos (starEach [.Name y p2] X.env)).any (·.1) = false := by rfl) :
    DE X c (.Call (.Name x p) [e, .Name y p2] [] pos) (op1 (isiD T) m) :=
  pe_imp (pe_callB call_isi hg hm hv (pa_cons h (pa_cons (pe_bltn (v := .ty T) hg2 hm2 hv2 rfl hn2 hdb2) pa_nil) hs) hn hdb hs hpl) fun σ H Q ⟨F, S, r, g⟩ => by
    obtain ⟨y, S1, e, q⟩ := g
    obtain ⟨x, S2, e1, e2⟩ := bnd_some e
    obtain ⟨e3, e4⟩ := opt_some e2
    subst e4
    refine ⟨F, S, r, x, _, e1, fun F' H' v s r' d' => ?_⟩
    unfold isiD at e3
    cases z : tyS x with
    | none =>
      rw [z] at e3
      cases e3
    | some t =>
      rw [z] at e3
      have e3' : (kitB t T).map PyData.bool = some y := e3
      cases z2 : kitB t T with
      | none =>
        rw [z2] at e3'
        cases e3'
      | some b =>
        rw [z2] at e3'
        cases e3'
        exact ⟨v, .ty T, .type t, .type T, b, rfl, .ty T, dp_ty r'.fh d' z, kit_ty z2, q F' H' (.bl b) s r' (.bl b)⟩

/-! ### list(range(..)), tuple(range(..)) -/
def RgB (a b : Int) : Prop := (-(2 ^ 62) ≤ a ∧ a < 2 ^ 62) ∧ (-(2 ^ 62) ≤ b ∧ b < 2 ^ 62) ∧ (b - a).toNat ≤ 2 ^ 24
instance {a b : Int} : Decidable (RgB a b) := by
  unfold RgB
  infer_instance
theorem RgB.ok {a b : Int} (h : RgB a b) : RgOk a b := ⟨h.1.1, h.1.2, h.2.1.1, h.2.1.2, h.2.2⟩
def upToV (a b : Int) : List D := upTo a b
theorem dp_rg {K : PySem.W.Frag} {F : Hp} (f : Nat → Int) : ∀ ks : List Nat, DpAll K F (ks.map fun i => V.int (f i)) (ks.map fun i => PyData.int (f i))
  | [] => .nil
  | k :: ks => .cons (.int _) (dp_rg f ks)
def rgM1 (m : MV D) : MV (Int × Int) := bnd m fun x => match x with
  | .int j => ret (0, j)
  | _ => fun _ => none
def rgM2 (m n : MV D) : MV (Int × Int) := bnd m fun x => bnd n fun y => match x, y with
  | .int i, .int j => ret (i, j)
  | _, _ => fun _ => none
def GoR (K : PySem.W.Frag) (c : Fr) (r : Option ((Int × Int) × Sta)) (F : Hp) (σ : L2.St) (Q : Int → Int → Hp → Prop) : Prop :=
  ∃ a b S', r = some ((a, b), S') ∧ ∀ F' H', Same F F' → Rel K c F' S' σ H' → Q a b H'
def DR (X : Cx) (c : Fr) (e : Expr) (m : MV (Int × Int)) : Prop := PRg X e fun σ H Q => ∃ F S, Rel X.K c F S σ H ∧ GoR X.K c (m S) F σ Q
theorem prg_imp {t t' : L2.St → Hp → (Int → Int → Hp → Prop) → Prop} (h : PRg X e t) (i : ∀ σ H Q, t' σ H Q → t σ H Q) : PRg X e t' := fun pins s σ H R I q => h pins s σ H R I (i _ _ _ q)
theorem dr_1 {a : Expr} {p : Pos} (hg : Gl X "range") (hm : X.mg "range" = none) (ha : DE X c a m) (na : starEach [a] X.env = (false, eval a X.env) :: starEach [] X.env := by rfl) : DR X c (.Call (.Name "range" p) [a] [] pos) (rgM1 m) :=
  prg_imp (prg_1 hg hm ha na) fun σ H Q ⟨F, S, r, a, b, S', e, q⟩ => by
    obtain ⟨x, S1, e1, e2⟩ := bnd_some e
    refine ⟨F, S, r, x, S1, e1, fun F1 H1 v s1 r1 d1 => ?_⟩
    cases d1 with
    | int j =>
      cases e2
      exact ⟨_, rfl, q F1 H1 s1 r1⟩
    | _ => cases e2
theorem dr_2 {a b : Expr} {m2 : MV D} {p : Pos} (hg : Gl X "range") (hm : X.mg "range" = none) (ha : DE X c a m) (hb : DE X c b m2) (na : starEach [a, b] X.env = (false, eval a X.env) :: starEach [b] X.env := by rfl) (nb : starEach [b] X.env = (false, eval b X.env) :: starEach [] X.env := by rfl)
    (hp : (backTo pos (starEach [b] X.env)).any (·.1) = false := by rfl) : DR X c (.Call (.Name "range" p) [a, b] [] pos) (rgM2 m m2) :=
  prg_imp (prg_2 hg hm ha hb na nb hp) fun σ H Q ⟨F, S, r, a, b, S', e, q⟩ => by
    obtain ⟨x, S1, e1, e2⟩ := bnd_some e
    obtain ⟨y, S2, e3, e4⟩ := bnd_some e2
    refine ⟨F, S, r, x, S1, e1, fun F1 H1 v s1 r1 d1 => ⟨F1, S1, r1, y, S2, e3, fun F2 H2 v2 s2 r2 d2 => ?_⟩⟩
    cases d1 with
    | int i =>
      cases d2 with
      | int j =>
        cases e4
        exact ⟨_, _, rfl, rfl, q F2 H2 (s1.trans s2) r2⟩
      | _ => cases e4
    | _ => cases e4
def rngD (f : List D → D) (m : MV (Int × Int)) : MV D := bnd m fun x => if RgB x.1 x.2 then ret (f (upTo x.1 x.2)) else fun _ => none
theorem rngD_some {f : List D → D} {m : MV (Int × Int)} {S S' : Sta} {d : D} (e : rngD f m S = some (d, S')) : ∃ a b, m S = some ((a, b), S') ∧ RgB a b ∧ d = f (upTo a b) := by
  obtain ⟨⟨a, b⟩, S1, e1, e2⟩ := bnd_some e
  have e3 : (if RgB a b then ret (f (upTo a b)) else fun _ => none) S1 = some (d, S') := e2
  by_cases z : RgB a b
  · rw [if_pos z] at e3
    cases e3
    exact ⟨a, b, e1, z, rfl⟩
  · rw [if_neg z] at e3
    cases e3
theorem de_listRg {p : Pos} {m : MV (Int × Int)} (hc : X.calm = true) (hg : Gl X "list") (hm : X.mg "list" = none) (he : DR X c e m) (na : starEach [e] X.env = (false, eval e X.env) :: starEach [] X.env := by rfl) : DE X c (.Call (.Name "list" p) [e] [] pos) (rngD .list m) :=
  pe_imp (pe_listRg hc hg hm he na) fun σ H Q ⟨F, S, r, d, S', e, q⟩ => by
    obtain ⟨a, b, e1, rb, rfl⟩ := rngD_some e
    refine ⟨F, S, r, a, b, _, e1, fun F1 H1 s1 r1 => ⟨rb.ok, fun p hp => ?_⟩⟩
    have fp := r1.fh.free hp
    exact q _ _ _ (s1.trans (upd_up fp)) (r1.alloc hp) (.lst (.inl (.inl upd_same)) (dp_rg _ _))
theorem de_tupRg {p : Pos} {m : MV (Int × Int)} (hc : X.calm = true) (hg : Gl X "tuple") (hm : X.mg "tuple" = none) (he : DR X c e m) (na : starEach [e] X.env = (false, eval e X.env) :: starEach [] X.env := by rfl) : DE X c (.Call (.Name "tuple" p) [e] [] pos) (rngD .tuple m) :=
  pe_imp (pe_tupRg hc hg hm he na) fun σ H Q ⟨F, S, r, d, S', e, q⟩ => by
    obtain ⟨a, b, e1, rb, rfl⟩ := rngD_some e
    refine ⟨F, S, r, a, b, _, e1, fun F1 H1 s1 r1 => ⟨rb.ok, fun p hp => ?_⟩⟩
    have fp := r1.fh.free hp
    exact q _ _ _ (s1.trans (upd_up fp)) (r1.alloc hp) (.tup (.inl (.inl upd_same)) (dp_rg _ _))
/-- list(range(..)), a new list -/
theorem dn_listRg {p : Pos} {m : MV (Int × Int)} (hc : X.calm = true) (hg : Gl X "list") (hm : X.mg "list" = none) (he : DR X c e m) (na : starEach [e] X.env = (false, eval e X.env) :: starEach [] X.env := by rfl) : DN X c (.Call (.Name "list" p) [e] [] pos) (rngD .list m) :=
  pe_imp (pe_listRg hc hg hm he na) fun σ H Q ⟨F, S, r, ys, S', e, q⟩ => by
    obtain ⟨a, b, e1, rb, e2⟩ := rngD_some e
    cases e2
    refine ⟨F, S, r, a, b, _, e1, fun F1 H1 s1 r1 => ⟨rb.ok, fun p hp => ?_⟩⟩
    obtain ⟨g1, g2, g3, g4⟩ := r1.fresh0 hp
    exact q F1 _ p _ s1 (r1.junk hp) g2 g1 g4 upd_same (dp_rg _ _)

end
end DL

-- part DL8
set_option Elab.async false
set_option linter.all false
set_option maxRecDepth 100000
set_option maxHeartbeats 1000000
/-! DL8: lists read while one's own; l.index. -/
namespace DL
open PySem PySem.Spec PyProof.Rows L2 RZ
section
variable {K : PySem.W.Frag} {c : Fr} {F H : Hp} {S : Sta} {σ : L2.St}
theorem Rel.freeze2 {i : Nat} {ds : List D} (r : Rel K c F S σ H) (e : S.env[i]? = some (.own ds)) :
    ∃ p vs, σ[i]? = some (some (.ref p)) ∧ DpAll K F vs ds ∧ F p = none ∧ c.H0 p = none ∧ Same F (upd F p (.lst vs)) ∧ Rel K c (upd F p (.lst vs)) { S with env := S.env.set i (.fz (.list ds)) } σ H := by
  obtain ⟨p, vs, h1, h2, h3, h4, h5⟩ := r.own_at e
  have hl : i < S.env.length := (List.getElem?_eq_some_iff.mp e).1
  have nps : p ≠ c.ps := fun z => r.hs (z ▸ h5)
  have npc : p ≠ c.pc := fun z => r.hc (z ▸ h5)
  have up := upd_up (o := .lst vs) h4
  have hd : Dp K (upd F p (.lst vs)) (.ref p) (.list ds) := .lst (.inl (.inl upd_same)) (DpAll.up up ds vs h3)
  refine ⟨p, vs, h1, h3, h4, h5, up, r.f0.trans up, fun b x z => ?_, fun a x z => ?_, r.kp, r.hs, r.hc, r.sr, ?_, ?_, by simp [r.len], fun j x z => ?_, fun j k a b n e1 e2 => ?_⟩
  · by_cases hb : b = p
    · subst hb
      rw [upd_same] at z
      cases z
      exact h2
    · rw [upd_ne hb] at z
      exact r.fh b x z
  · by_cases hb : a = p
    · subst hb
      exact .inr h5
    · rw [upd_ne hb] at z
      exact r.fr a x z
  · rw [upd_ne (Ne.symm nps)]
    exact r.fs
  · rw [upd_ne (Ne.symm npc)]
    exact r.fc
  · by_cases hj : i = j
    · subst hj
      rw [List.getElem?_set_self hl] at z
      cases z
      rw [h1]
      exact hd
    · rw [List.getElem?_set_ne hj] at z
      cases x with
      | own b =>
        obtain ⟨q, us, g1, g2, g3, g4, g5⟩ := r.own_at z
        have nq : q ≠ p := fun w => by
          refine r.sep i j ds b hj e z ?_
          rw [h1, g1, w]
        rw [g1]
        exact ⟨q, us, rfl, g2, DpAll.up up b us g3, by rw [upd_ne nq]; exact g4, g5⟩
      | un => trivial
      | fz d =>
        obtain ⟨v, g1, g2⟩ := r.fz_at z
        rw [g1]
        exact Dp.up up d v g2
      | src =>
        rw [r.src_at z]
        rfl
  · by_cases hi : i = j
    · subst hi
      rw [List.getElem?_set_self hl] at e1
      cases e1
    · by_cases hk : i = k
      · subst hk
        rw [List.getElem?_set_self hl] at e2
        cases e2
      · rw [List.getElem?_set_ne hi] at e1
        rw [List.getElem?_set_ne hk] at e2
        exact r.sep j k a b n e1 e2
/-- and back: the list was only looked at -/
theorem Rel.thaw {i : Nat} {ds : List D} {p : Addr} {vs : List V} {F2 H2 : Hp} {s : Src} (r : Rel K c F S σ H) (e : S.env[i]? = some (.own ds)) (h1 : σ[i]? = some (some (.ref p))) (h3 : DpAll K F vs ds) (h4 : F p = none) (h5 : c.H0 p = none)
    (ho : ∀ (j : Nat) (b : List D), j ≠ i → S.env[j]? ≠ some (.own b)) (s2 : Same (upd F p (.lst vs)) F2) (r2 : Rel K c F2 { env := S.env.set i (.fz (.list ds)), src := s } σ H2) : Rel K c F { env := S.env, src := s } σ H2 := by
  have up := upd_up (o := .lst vs) h4
  refine ⟨r.f0, (up.trans s2).trans r2.fh, r.fr, r2.kp, r2.hs, r2.hc, r2.sr, r.fs, r.fc, r.len, fun j x z => ?_, r.sep⟩
  cases x with
  | un => trivial
  | fz d =>
    obtain ⟨v, g1, g2⟩ := r.fz_at z
    rw [g1]
    exact g2
  | own b =>
    by_cases hj : j = i
    · subst hj
      rw [e] at z
      cases z
      rw [h1]
      exact ⟨p, vs, rfl, r2.fh p _ (s2 p _ upd_same), h3, h4, h5⟩
    · exact absurd z (ho j b hj)
  | src =>
    rw [r.src_at z]
    rfl
/-- what holds no thing of the heap -/
def flatD : D → Bool
  | .none => true
  | .bool _ => true
  | .int _ => true
  | .str _ => true
  | _ => false
theorem dp_flat {G : Hp} {v : V} {d : D} (h : Dp K G v d) (f : flatD d = true) : Dp K F v d := by
  cases h with
  | non => exact .non
  | bl b => exact .bl b
  | int i => exact .int i
  | str x => exact .str x
  | lst _ _ => cases f
  | tup _ _ => cases f
def loneE (env : List Slot) (i : Nat) : Bool := (env.set i .un).all fun x => !x.isOwn
theorem lone_of {env : List Slot} {i : Nat} (h : loneE env i = true) (j : Nat) (b : List D) (n : j ≠ i) : env[j]? ≠ some (.own b) := fun e => by
  unfold loneE at h
  have hj : (env.set i .un)[j]? = some (.own b) := by rw [List.getElem?_set_ne (Ne.symm n)]; exact e
  have := List.all_eq_true.mp h _ (List.mem_of_getElem? hj)
  cases this
end
open Classical in
/-- the list at i, one's own, looked at by m -/
noncomputable def peekD (i : Nat) (m : MV D) : MV D := fun S => match S.env[i]? with
  | some (.own ds) => match m { S with env := S.env.set i (.fz (.list ds)) } with
    | some (d, S') => if flatD d = true ∧ loneE S.env i = true ∧ S'.env = S.env.set i (.fz (.list ds)) then some (d, { S with src := S'.src }) else none
    | none => none
  | _ => none
open Classical in
noncomputable def peekT (i : Nat) (m : MV Bool) : MV Bool := fun S => match S.env[i]? with
  | some (.own ds) => match m { S with env := S.env.set i (.fz (.list ds)) } with
    | some (d, S') => if loneE S.env i = true ∧ S'.env = S.env.set i (.fz (.list ds)) then some (d, { S with src := S'.src }) else none
    | none => none
  | _ => none
open Classical in
theorem peekD_eq {i : Nat} {m : MV D} {S : Sta} {ds : List D} {d : D} {s : Src} (e : S.env[i]? = some (.own ds)) (h : m { S with env := S.env.set i (.fz (.list ds)) } = some (d, { env := S.env.set i (.fz (.list ds)), src := s })) (f : flatD d = true) (l : loneE S.env i = true) :
    peekD i m S = some (d, { S with src := s }) := by
  unfold peekD
  rw [e]
  show (match m { S with env := S.env.set i (.fz (.list ds)) } with | some (d, S') => _ | none => none) = _
  rw [h]
  exact if_pos ⟨f, l, rfl⟩
open Classical in
theorem peekT_eq {i : Nat} {m : MV Bool} {S : Sta} {ds : List D} {d : Bool} {s : Src} (e : S.env[i]? = some (.own ds)) (h : m { S with env := S.env.set i (.fz (.list ds)) } = some (d, { env := S.env.set i (.fz (.list ds)), src := s })) (l : loneE S.env i = true) :
    peekT i m S = some (d, { S with src := s }) := by
  unfold peekT
  rw [e]
  show (match m { S with env := S.env.set i (.fz (.list ds)) } with | some (d, S') => _ | none => none) = _
  rw [h]
  exact if_pos ⟨l, rfl⟩
section
variable {X : Cx} {c : Fr} {e : Expr} {m : MV D} {t : MV Bool} {pos : Pos}
theorem de_peek (i : Nat) (h : DE X c e m) : DE X c e (peekD i m) := pe_imp h fun σ H Q ⟨F, S, r, d, S', e, q⟩ => by
  unfold peekD at e
  split at e
  · rename_i ds e0
    split at e
    · rename_i d1 S1 e1
      split at e
      · rename_i hz
        obtain ⟨z1, z2, z3⟩ := hz
        cases e
        obtain ⟨p, vs, h1, h3, h4, h5, up, r1⟩ := r.freeze2 e0
        refine ⟨_, _, r1, d, S1, e1, fun F2 H2 v s2 r2 d2 => ?_⟩
        obtain ⟨env1, src1⟩ := S1
        cases z3
        exact q F H2 v (Same.refl F) (r.thaw e0 h1 h3 h4 h5 (lone_of z2) s2 r2) (dp_flat d2 z1)
      · cases e
    · cases e
  · cases e
theorem dt_peek (i : Nat) (h : DT X c e t) : DT X c e (peekT i t) := pt_imp h fun σ H Q ⟨F, S, r, d, S', e, q⟩ => by
  unfold peekT at e
  split at e
  · rename_i ds e0
    split at e
    · rename_i d1 S1 e1
      split at e
      · rename_i hz
        obtain ⟨z2, z3⟩ := hz
        cases e
        obtain ⟨p, vs, h1, h3, h4, h5, up, r1⟩ := r.freeze2 e0
        refine ⟨_, _, r1, d, S1, e1, fun F2 H2 s2 r2 => ?_⟩
        obtain ⟨env1, src1⟩ := S1
        cases z3
        exact q F H2 (Same.refl F) (r.thaw e0 h1 h3 h4 h5 (lone_of z2) s2 r2)
      · cases e
    · cases e
  · cases e
/-- tuple(name), the name's list one's own -/
def tupO (i : Nat) : MV D := fun S => match S.env[i]? with
  | some (.own ds) => some (.tuple ds, S)
  | _ => none
theorem de_tupO (i : Nat) {x : Str} {p p2 : Pos} (hg : Gl X "tuple") (hm : X.mg "tuple" = none) (hv : bootBuiltins "tuple" = some (.type "tuple")) (h : PE X (.Name x p2) (tVar i)) (he : starEach [.Name x p2] X.env = (false, eval (.Name x p2) X.env) :: starEach [] X.env := by rfl) (hpl : (backTo pos (starEach [] X.env)).any (·.1) = false := by rfl) :
    DE X c (.Call (.Name "tuple" p) [.Name x p2] [] pos) (tupO i) :=
  pe_imp (pe_callTy call_tuple_of hg hm hv (pa_cons h pa_nil) (by decide) (by decide) he hpl) fun σ H Q ⟨F, S, r, d, S', e, q⟩ => by
    unfold tupO at e
    split at e
    · rename_i ds e0
      cases e
      obtain ⟨p, vs, h1, h2, h3, h4, h5⟩ := r.own_at e0
      refine ⟨.ref p, h1, p, vs, rfl, .inl ⟨.inl (.inl h2), fun l hl => ?_⟩⟩
      have fl := r.fh.free hl
      exact q _ _ _ (upd_up fl) (r.alloc hl) (.tup (.inl (.inl upd_same)) (DpAll.up (upd_up fl) ds vs h3))
    · cases e
def ixOfD (x d : D) : Option D := match x with
  | .list ds => if okD d = true ∧ okD (.list ds) = true then (ds.findIdx? fun z => PyData.eqv z d).map fun j => PyData.int (j : Nat) else none
  | _ => none
theorem de_index {o : Expr} {m2 : MV D} {apos : Pos} (hu : X.A.units + 65 < cLine) (ho : DE X c o m) (ha : DE X c e m2) (hbase : attributeBase o "index" X.env (eval o X.env) = eval o X.env := by rfl)
    (hfew : ((backTo pos (starEach [e] X.env)).all (fun x => !x.1) && (backToKw pos (keywordEach [] X.env)).all (fun x => x.1.isSome)
      && decide ([e].length + ([] : List Keyword).length + (if ([] : List Keyword).isEmpty then 0 else 1) < 30)) = true := by rfl)
    (hline : (apos.endLine == pos.line) = true := by rfl) (hs : starEach [e] X.env = (false, eval e X.env) :: starEach [] X.env := by rfl) (hplain : (backTo pos (starEach [] X.env)).any (·.1) = false := by rfl) :
    DE X c (.Call (.Attribute o "index" apos) [e] [] pos) (op2 ixOfD m m2) :=
  pe_imp (pe_bm PySem.F.plainAttrs_list PySem.F.slot_list_index PySem.F.type_list_index (mt_indexD hu) ho (pa_cons ha pa_nil hs) hbase hfew hline hs hplain) fun σ H Q ⟨F, S, r, g⟩ => by
    obtain ⟨d, S', e, q⟩ := g
    obtain ⟨x, S1, e1, e2⟩ := bnd_some e
    obtain ⟨y, S2, e3, e4⟩ := bnd_some e2
    obtain ⟨e5, e6⟩ := opt_some e4
    subst e6
    refine ⟨F, S, r, x, S1, e1, fun F1 H1 v s1 r1 d1 => ?_⟩
    cases x with
    | list ds =>
      have e7 : (if okD y = true ∧ okD (.list ds) = true then (ds.findIdx? fun z => PyData.eqv z y).map fun j => PyData.int (j : Nat) else none) = some d := e5
      by_cases z : okD y = true ∧ okD (.list ds) = true
      · rw [if_pos z] at e7
        cases zf : ds.findIdx? fun z => PyData.eqv z y with
        | none =>
          rw [zf] at e7
          cases e7
        | some j =>
          rw [zf] at e7
          cases e7
          have d1' := d1
          cases d1 with
          | @lst p vs _ h1 h2 =>
            refine ⟨.inl ⟨rfl, _, sqL_up r1.fh h1⟩, F1, S1, r1, y, _, e3, fun F2 H2 w s2 r2 d2 => ?_⟩
            obtain ⟨hj, hj2, hj3⟩ := List.findIdx?_eq_some_iff_getElem.mp zf
            refine ⟨p, w, y, ds, j, ds[j], rfl, rfl, Dp.up (s2.trans r2.fh) _ _ d1', Dp.up r2.fh _ _ d2, z.2, z.1, List.getElem?_eq_getElem hj, hj2, fun k z' hk hz => ?_, q F2 H2 (.int (j : Nat)) (s1.trans s2) r2 (.int _)⟩
            have hk2 := hj3 k hk
            have hkl : k < ds.length := by omega
            rw [List.getElem?_eq_getElem hkl] at hz
            rw [← Option.some.inj hz]
            simpa using hk2
      · rw [if_neg z] at e7
        cases e7
    | _ => cases e5
end
end DL

-- part DL9
set_option Elab.async false
set_option linter.all false
set_option maxRecDepth 100000
set_option maxHeartbeats 1000000
/-! DL9: l.remove(k), [*range(..), ..], enumerate of tuples, small words for the generator. -/
namespace DL
open PySem PySem.Spec PyProof.Rows L2 RZ

/-! ### l.remove(k), ints -/
def rRemI : V → List V → Hp → VK → Prop := fun x vs H Q => ∃ (l : Addr) (ns : List Int) (k : Int) (j : Nat), x = .ref l ∧ vs = [.int k] ∧ H l = some (.lst (ns.map V.int)) ∧ ns[j]? = some k ∧ (∀ m, m < j → ns[m]? ≠ some k) ∧ Q .non (upd H l (.lst ((ns.eraseIdx j).map V.int)))
theorem map_eraseIx {α β : Type} (f : α → β) : ∀ (l : List α) (j : Nat), (l.map f).eraseIdx j = (l.eraseIdx j).map f
  | [], _ => rfl
  | _ :: _, 0 => rfl
  | a :: l, j + 1 => by
    show f a :: (l.map f).eraseIdx j = f a :: (l.eraseIdx j).map f
    rw [map_eraseIx f l j]
section
variable {X : Cx}
theorem mt_removeI : MtM X "list.remove" rRemI := by
  intro pins s σ H x vs v us Q I rx rv h
  obtain ⟨l, ns, k, j, rfl, rfl, hH, hj, hno, q⟩ := h
  cases rx
  obtain ⟨u, rfl, ru⟩ := rv.one
  obtain ⟨t, rfl⟩ := ru
  obtain ⟨z, its, n, r, hl, e⟩ := I.lstM hH
  have hlen : ns.length = its.length := by simpa using hl
  have at_ : ∀ (m : Nat) (i : Int), ns[m]? = some i → ∃ t', its[m]? = some (.int i t') := fun m i hm => by
    obtain ⟨w, hw, rw'⟩ := r.get (i := m) (x := .int i) (by rw [List.getElem?_map, hm]; rfl)
    obtain ⟨t', rfl⟩ := rw'
    exact ⟨t', hw⟩
  have ev : Value → Bool := fun y => match y with
    | .int a _ => a == k
    | _ => false
  have hjl : j < its.length := by
    have := (List.getElem?_eq_some_iff.mp hj).1
    omega
  refine call_meets PySem.F.slot_list_remove ⟨_, e, rfl⟩ PySem.F.entry_list_remove (PySem.F.args_list_remove_2 _ _)
    (MeetsSeq.list_remove l its.toArray n (.int k t) (fun y => match y with | .int a _ => a == k | _ => false) (fun y hy => ?_) j (by simpa using hjl) ?_ (fun m hm hmj => ?_) (by rw [List.size_toArray]; omega)) ⟨e, ?_⟩
  · have hy' : y ∈ its := by simpa using hy
    obtain ⟨m, hm⟩ := List.getElem?_of_mem hy'
    have hml : m < ns.length := by
      have := (List.getElem?_eq_some_iff.mp hm).1
      omega
    obtain ⟨t', ht⟩ := at_ m ns[m] (List.getElem?_eq_getElem hml)
    rw [hm] at ht
    cases ht
    exact MeetsSeq.EqGives.int _ _ _ _
  · obtain ⟨t', ht⟩ := at_ j k hj
    have e1 : its.toArray[j] = .int k t' := by
      have := (List.getElem?_eq_some_iff.mp ht).2
      simpa using this
    rw [e1]
    simp
  · have hml : m < ns.length := by
      have : m < its.length := by simpa using hm
      omega
    obtain ⟨t', ht⟩ := at_ m ns[m] (List.getElem?_eq_getElem hml)
    have e1 : its.toArray[m] = .int ns[m] t' := by
      have := (List.getElem?_eq_some_iff.mp ht).2
      simpa using this
    rw [e1]
    have := hno m hmj
    rw [List.getElem?_eq_getElem hml] at this
    simpa using this
  · refine ⟨.non, _, I.lset (its' := its.eraseIdx j) hH e ?_ ?_ ?_, rfl, q⟩
    · show its.toArray.eraseIdxIfInBounds j = (its.eraseIdx j).toArray
      rw [List.eraseIdxIfInBounds_toArray]
    · have := Vals.eraseIdx j r
      rw [map_eraseIx] at this
      exact this
    · have h1 := len_erase ns j
      rw [List.length_map]
      rw [List.length_map] at z
      omega
end
/-- name.remove(e), the name's list one's own, of ints -/
def remS (i : Nat) (m : MV D) : MS := fun S0 => match S0.env[i]? with
  | some (.own _) => bnd m (fun d => fun S => match S.env[i]?, d with
    | some (.own ds), .int k => match intsOf ds with
      | some ns => match ns.findIdx? (fun a => a == k) with
        | some j => some (.nx, { S with env := S.env.set i (.own ((ns.eraseIdx j).map PyData.int)) })
        | none => none
      | none => none
    | _, _ => none) S0
  | _ => none
section
variable {X : Cx} {c : Fr} {m : MV D} {pos : Pos} {K : PySem.W.Frag} {F : Hp}
theorem dp_ints {F : Hp} : ∀ ns : List Int, DpAll K F (ns.map V.int) (ns.map PyData.int)
  | [] => .nil
  | k :: ks => .cons (.int _) (dp_ints ks)
theorem ds_remove {cl : Expr} {i : Nat} (h : PE X cl (tBM X.K "list" rRemI (tVar i) (tCons (tD X.K c m) tNil))) (hs : swapsWith cl none pos.line X.env = pure false := by rfl) : DS X c (.Expr cl pos) (remS i m) :=
  ps_imp (ps_expr h hs) fun D' σ H ⟨F, S, r, o, S', e, q⟩ => by
    unfold remS at e
    split at e
    · rename_i ds0 e0
      obtain ⟨x, S1, e1, e2⟩ := bnd_some e
      split at e2
      · rename_i ds k ez
        split at e2
        · rename_i ns en
          split at e2
          · rename_i j ej
            cases e2
            obtain ⟨p0, us, k1, k2, _⟩ := r.own_at e0
            refine ⟨.ref p0, k1, tyV_list k2, F, S, r, .int k, S1, e1, fun F1 H1 v s1 r1 d1 => ?_⟩
            obtain ⟨p, vs, g1, g2, g3, _⟩ := r1.own_at ez
            have ep : p0 = p := by
              rw [k1] at g1
              exact V.ref.inj (Option.some.inj (Option.some.inj g1))
            subst ep
            cases d1
            have zz := intsOf_some en
            subst zz
            have := DpAll.ints g3
            subst this
            obtain ⟨hj, hj2, hj3⟩ := List.findIdx?_eq_some_iff_getElem.mp ej
            refine ⟨p0, ns, k, j, rfl, rfl, g2, ?_, fun m hm hn => ?_, ?_⟩
            · rw [List.getElem?_eq_getElem hj]
              simpa using hj2
            · have h3 := hj3 m hm
              have hml : m < ns.length := by omega
              rw [List.getElem?_eq_getElem hml] at hn
              have := Option.some.inj hn
              simp [this] at h3
            · exact q F1 _ σ s1 (r1.put_own ez g1 (dp_ints _))
          · cases e2
        · cases e2
      · cases e2
    · cases e
end

/-! ### *range(..) in a display -/
section
variable {X : Cx} {c : Fr} {pins : List (Addr × Obj)} {σ : L2.St} {H : Hp} {s : Shared}
def tStarR (te : L2.St → Hp → (Int → Int → Hp → Prop) → Prop) (t : TA) : TA := fun σ H Q => te σ H fun a b H1 => RgOk a b ∧ t σ H1 fun ys H2 => Q (rgV a b ++ ys) H2
theorem range_iter_slot : typeLookup (.type "range") "__iter__" = pure (some (.builtin "range.__iter__")) := by rw [typeLookup_type, builtinLookup_eq_fast]; kernel_rfl
theorem pa_starRg {e : Expr} {es : List Expr} {p : Pos} {te : L2.St → Hp → (Int → Int → Hp → Prop) → Prop} {t : TA} (hc : X.calm = true) (he : PRg X e te) (hr : PA X es t) (hs : starEach (.Starred e p :: es) X.env = (true, eval e X.env) :: starEach es X.env := by rfl) : PA X (.Starred e p :: es) (tStarR te t) := by
  refine ⟨fun pos pins s σ H Q I h => ?_⟩
  refine PySem.W.items_star (thn (he pins s σ H _ I h) fun v s1 ⟨r, a, b, t, u, w', H1, ex, hrg, I1, ok, q⟩ => ?_) hs
  subst ex
  obtain ⟨b1, b2, b3, b4, b5⟩ := ok
  have hT : s1.TypeIs (.ref r) "range" := ⟨_, hrg, rfl⟩
  unfold PySem.W.StarOf notIterableAtAll
  refine wpAny_bind (wpAny_specialOf hT range_iter_slot (wpAny_pure ⟨rfl, ?_⟩))
  refine collect_range (n := (b - a).toNat) (I1.ok.hd hc) hrg (small_one b1 b2 b3 b4) (rangeSize_nat a b) b5 fun h' tk acc hk hi => ?_
  have I2 : Inv X pins σ H1 { s1 with heap := h', toks := tk } := I1.kept hk
  exact thn (hr.run pos pins _ σ H1 _ I2 q) fun ws s3 ⟨vs, H3, I3, r3, q3⟩ => ⟨rgV a b ++ vs, H3, I3, (vals_rg hi).append r3, q3⟩
def starRL (m : MV (Int × Int)) (n : MV (List D)) : MV (List D) := bnd m fun x => if RgB x.1 x.2 then bnd n fun ys => ret (upTo x.1 x.2 ++ ys) else fun _ => none
theorem dl_starRg {e : Expr} {es : List Expr} {p : Pos} {m : MV (Int × Int)} {n : MV (List D)} (hc : X.calm = true) (he : DR X c e m) (hr : DL X c es n) (hs : starEach (.Starred e p :: es) X.env = (true, eval e X.env) :: starEach es X.env := by rfl) : DL X c (.Starred e p :: es) (starRL m n) :=
  pa_imp (pa_starRg hc he hr hs) fun σ H Q ⟨F, S, r, ds, S', e, q⟩ => by
    obtain ⟨⟨a, b⟩, S1, e1, e2⟩ := bnd_some e
    have e3 : (if RgB a b then bnd n fun ys => ret (upTo a b ++ ys) else fun _ => none) S1 = some (ds, S') := e2
    by_cases z : RgB a b
    · rw [if_pos z] at e3
      obtain ⟨ys, S2, e4, e5⟩ := bnd_some e3
      cases e5
      refine ⟨F, S, r, a, b, S1, e1, fun F1 H1 s1 r1 => ⟨z.ok, F1, S1, r1, ys, _, e4, fun F2 H2 vs s2 r2 d2 => ?_⟩⟩
      exact q F2 H2 _ (s1.trans s2) r2 (DpAll.append (dp_rg _ _) d2)
    · rw [if_neg z] at e3
      cases e3
end
end DL

-- part DL10
set_option Elab.async false
set_option linter.all false
set_option maxRecDepth 100000
set_option maxHeartbeats 1000000
/-! DL10: zip whose pairs are kept: list(zip(..)), enumerate(zip(..)). -/
namespace DL
open PySem PySem.Spec PyProof.Rows L2 RZ
abbrev ZObj (v0 : Value) (b : Bool) (TI TO : Addr) : Obj := { cls := .type "zip", dict := none, data := .fields #[v0, .bool b, .bool false, .ref TI, .ref TO], slots := #[] }
/-- a zip, whether its own tuple is out or not -/
def ZO (h : Heap) (z TI TO : Addr) : Prop := ∃ v0 b, h.get? z = some (ZObj v0 b TI TO) ∧ (v0 = .none ∨ ∃ T : Nat, v0 = rawInt T)
section
variable {prog : Program} {w : World} {A : Around} {E : Value → Shared → Prop} {s : Shared} {z TI TO i1 i2 : Addr} {fp1 fp2 : List Addr} {n1 n2 i : Nat} {P1 P2 : Nat → Value → Prop} {St1 St2 : Nat → Heap → Prop}
theorem own_free {v0 : Value} {b : Bool} {Q : Bool → Shared → Prop} (hz : s.heap.get? z = some (ZObj v0 b TI TO)) (hv : v0 = .none ∨ ∃ T : Nat, v0 = rawInt T) (h1 : Q true s)
    (h2 : ∀ h' b', h'.get? z = some (ZObj v0 b' TI TO) → Heap.SameBut z s.heap h' → Q false { s with heap := h' }) : wpAny (model prog w) A (Builtin.SmallTypes.ownedTupleIsFree (.ref z)) Q E s := by
  unfold Builtin.SmallTypes.ownedTupleIsFree
  rcases hv with rfl | ⟨T, rfl⟩
  · exact wpAny_bind (wpAny_field hz rfl (x := .none) rfl (wpAny_pure h1))
  · refine wpAny_bind (wpAny_field hz rfl (x := rawInt T) rfl ?_)
    show wpAny _ _ (loadIfAlive ((T : Int).toNat) >>= _) _ _ _
    rw [Int.toNat_natCast]
    have look : ∀ Q2 : Option Obj → Shared → Prop, Q2 (s.heap.get? T) s → wpAny (model prog w) A (loadIfAlive T) Q2 E s := fun Q2 h _ _ _ => h
    refine wpAny_bind (look _ ?_)
    cases ht : s.heap.get? T with
    | none =>
      simp only [Option.isNone_none, if_true]
      exact wpAny_pure h1
    | some o =>
      simp only [Option.isNone_some, Bool.false_eq_true, if_false]
      refine wpAny_bind (wpAny_field hz rfl (x := .bool b) rfl ?_)
      cases b with
      | true =>
        rw [if_neg (show ¬ ((Value.bool true != Value.bool true) = true) from Bool.false_ne_true)]
        exact wpAny_pure (h2 s.heap true hz (Heap.SameBut.refl _ _))
      | false =>
        rw [if_pos (show (Value.bool false != Value.bool true) = true from rfl)]
        exact wpAny_bind (wpAny_setField_rec hz (by simp) fun g hg sg => wpAny_pure (h2 g true hg sg))
/-- the zip's state: i pairs were drawn -/
structure ZSt (z TI TO i1 i2 : Addr) (St1 St2 : Nat → Heap → Prop) (i : Nat) (h : Heap) : Prop where
  zo : ZO h z TI TO
  ti : IsTupOf2 h TI (.ref i1) (.ref i2)
  tO : ∃ a1 a2, IsTupOf2 h TO a1 a2
  s1 : St1 i h
  s2 : St2 i h
theorem ZSt.keep (D1 : Draws prog w A i1 fp1 n1 P1 St1) (D2 : Draws prog w A i2 fp2 n2 P2 St2) {h h' : Heap} (st : ZSt z TI TO i1 i2 St1 St2 i h)
    (k : ∀ b ∈ z :: TI :: TO :: (fp1 ++ fp2), ∀ o, h.get? b = some o → h'.get? b = some o) : ZSt z TI TO i1 i2 St1 St2 i h' := by
  obtain ⟨⟨v0, b, hz, hv⟩, ti, ⟨a1, a2, tO⟩, s1, s2⟩ := st
  exact ⟨⟨v0, b, k z (by simp) _ hz, hv⟩, k TI (by simp) _ ti, ⟨a1, a2, k TO (by simp) _ tO⟩, D1.frame _ _ _ s1 fun c hc => k c (by simp [hc]), D2.frame _ _ _ s2 fun c hc => k c (by simp [hc])⟩
theorem zg_item {Q : Value → Shared → Prop} (S : ZipSep2 z TI TO i1 i2 fp1 fp2) (D1 : Draws prog w A i1 fp1 n1 P1 St1) (D2 : Draws prog w A i2 fp2 n2 P2 St2)
    (st : ZSt z TI TO i1 i2 St1 St2 i s.heap) (l1 : i < n1) (l2 : i < n2)
    (hQ : ∀ x1 x2 h' tk, P1 i x1 → P2 i x2 → ZSt z TI TO i1 i2 St1 St2 (i + 1) h' → IsTupOf2 h' s.heap.objs.size x1 x2 → h'.objs.size = s.heap.objs.size + 1 →
      (∀ c o, c ≠ z → c ≠ TO → c ≠ i1 → c ≠ i2 → s.heap.get? c = some o → h'.get? c = some o) → Q (.ref s.heap.objs.size) { s with heap := h', toks := tk }) :
    wpAny (model prog w) A (Builtin.«zip.__next__» ⟨[.ref z], []⟩) (fun fin s' => ∃ v, fin = .done (.ret v) ∧ Q v s') E s := by
  obtain ⟨hp, g, d, tk0, os⟩ := s
  obtain ⟨⟨v0, b, hz, hv⟩, hTI, ⟨a1, a2, hTO⟩, st1, st2⟩ := st
  show wpAny _ _ (field (.ref z) 2 >>= _) _ _ _
  refine wpAny_bind (wpAny_field hz rfl (x := .bool false) rfl ?_)
  show wpAny _ _ (field (.ref z) 3 >>= _) _ _ _
  refine wpAny_bind (wpAny_field hz rfl (x := .ref TI) rfl ?_)
  refine wpAny_bind (wpAny_seqItems hTI rfl ?_)
  show wpAny _ _ (Builtin.SmallTypes.ownedTupleIsFree (.ref z) >>= _) _ _ _
  refine wpAny_bind (own_free hz hv ?_ fun g0 b' hz0 k0 => ?_)
  · simp only [if_true]
    refine wpAny_bind (wpAny_rule ?_)
    refine wpAny_bind (wpAny_field hz rfl (x := .ref TO) rfl ?_)
    refine wpAny_bind (wpAny_setField_rec hz (by simp) fun g0 hz0 k0 => ?_)
    replace hz0 : g0.get? z = some (ZObj .ellipsis b TI TO) := hz0
    replace k0 : Heap.SameBut z hp g0 := k0
    refine wpAny_bind ?_
    simp only [List.zipIdx_cons, List.zipIdx_nil, List.forIn_cons, List.forIn_nil]
    refine wpAny_bind (wpAny_bind (wpAny_onRaise ?_))
    show wpAny _ _ (Builtin.SmallTypes.nextOf (.ref i1) >>= _) _ _ ⟨g0, g, d, tk0, os⟩
    refine wpAny_bind (D1.item i _ _ _ l1 (D1.over st1 k0 S.zf1) fun x1 g1 tk1 p1 sn1 k1 => wpAny_pure ?_)
    replace k1 : Heap.SameBut i1 g0 g1 := k1
    have u1 : IsTupOf2 g1 TO a1 a2 := k1.extBut _ _ S.Ti1 (k0.extBut _ _ S.TOz hTO)
    refine wpAny_bind (wpAny_seqItems (s := ⟨g1, g, d, tk1, os⟩) u1 rfl ?_)
    refine wpAny_bind (updateSeq_IsTupOf2 (s := ⟨g1, g, d, tk1, os⟩) u1 fun g2 u2 k2 => ?_)
    replace u2 : IsTupOf2 g2 TO x1 a2 := u2
    replace k2 : Heap.SameBut TO g1 g2 := k2
    refine wpAny_bind (wpAny_letGo (wpAny_pure ?_))
    refine wpAny_bind (wpAny_bind (wpAny_onRaise ?_))
    show wpAny _ _ (Builtin.SmallTypes.nextOf (.ref i2) >>= _) _ _ ⟨g2, g, d, tk1, os⟩
    refine wpAny_bind (D2.item i _ _ _ l2 (D2.over (D2.over (D2.over st2 k0 S.zf2) k1 S.sep1_2) k2 S.Tf2) fun x2 g3 tk2 p2 sn2 k3 => wpAny_pure ?_)
    replace k3 : Heap.SameBut i2 g2 g3 := k3
    have u3 : IsTupOf2 g3 TO x1 a2 := k3.extBut _ _ S.Ti2 u2
    refine wpAny_bind (wpAny_seqItems (s := ⟨g3, g, d, tk2, os⟩) u3 rfl ?_)
    refine wpAny_bind (updateSeq_IsTupOf2 (s := ⟨g3, g, d, tk2, os⟩) u3 fun g4 u4 k4 => ?_)
    replace u4 : IsTupOf2 g4 TO x1 x2 := u4
    replace k4 : Heap.SameBut TO g3 g4 := k4
    refine wpAny_bind (wpAny_letGo (wpAny_pure (wpAny_pure ?_)))
    refine wpAny_bind (wpAny_seqItems (s := ⟨g4, g, d, tk2, os⟩) u4 rfl ?_)
    refine wpAny_bind (wpAny_newTuple ?_)
    have hsz : g4.objs.size = hp.objs.size := by rw [k4.1, k3.1, k2.1, k1.1, k0.1]
    have hz4 : g4.get? z = some (ZObj .ellipsis b TI TO) := k4.extBut _ _ S.TOz.symm (k3.extBut _ _ S.zi2 (k2.extBut _ _ S.TOz.symm (k1.extBut _ _ S.zi1 hz0)))
    have up4 : ∀ c o, c ≠ z → c ≠ TO → c ≠ i1 → c ≠ i2 → hp.get? c = some o → g4.get? c = some o := fun c o cz cT c1 c2 e =>
      k4.extBut _ _ cT (k3.extBut _ _ c2 (k2.extBut _ _ cT (k1.extBut _ _ c1 (k0.extBut _ _ cz e))))
    have t1 : St1 (i + 1) g4 := D1.over (D1.over (D1.over sn1 k2 S.Tf1) k3 S.sep2_1) k4 S.Tf1
    have t2 : St2 (i + 1) g4 := D2.over sn2 k4 S.Tf2
    have hzl : z < g4.objs.size := Heap.lt_size hz4
    show wpAny _ _ (Builtin.SmallTypes.ownedTupleHandOut (.ref z) (.ref g4.objs.size) >>= _) _ _ ⟨g4.push { cls := .type "tuple", data := .seq #[x1, x2] }, g, d, tk2, os⟩
    refine wpAny_bind ?_
    unfold Builtin.SmallTypes.ownedTupleHandOut
    have hz5 : (g4.push { cls := .type "tuple", data := .seq #[x1, x2] }).get? z = some (ZObj .ellipsis b TI TO) := Heap.get?_push_of_some _ hz4
    refine wpAny_bind (wpAny_setField_rec hz5 (by simp) fun g6 hz6 k6 => ?_)
    replace hz6 : g6.get? z = some (ZObj (rawInt g4.objs.size) b TI TO) := hz6
    refine wpAny_setField_rec hz6 (by simp) fun g7 hz7 k7 => ?_
    replace hz7 : g7.get? z = some (ZObj (rawInt g4.objs.size) false TI TO) := hz7
    replace k6 : Heap.SameBut z (g4.push { cls := .type "tuple", data := .seq #[x1, x2] }) g6 := k6
    replace k7 : Heap.SameBut z g6 g7 := k7
    have up7 : ∀ c o, c ≠ z → g4.get? c = some o → g7.get? c = some o := fun c o c1 e => k7.extBut _ _ c1 (k6.extBut _ _ c1 (Heap.get?_push_of_some _ e))
    have hT7 : IsTupOf2 g7 g4.objs.size x1 x2 := k7.extBut _ _ (Nat.ne_of_gt hzl) (k6.extBut _ _ (Nat.ne_of_gt hzl) (Heap.get?_push_size _ rfl))
    have hs7 : g7.objs.size = g4.objs.size + 1 := by rw [k7.1, k6.1, Heap.size_push]
    refine wpAny_pure ⟨_, rfl, ?_⟩
    show Q (.ref g4.objs.size) ⟨g7, g, d, tk2, os⟩
    have hz7' : ZO g7 z TI TO := ⟨_, _, hz7, .inr ⟨_, rfl⟩⟩
    rw [hsz] at hT7 hs7 ⊢
    refine hQ x1 x2 g7 tk2 p1 p2 ⟨hz7', up7 _ _ S.TIz (up4 _ _ S.TIz S.TITO S.TIi1 S.TIi2 hTI), ⟨_, _, up7 _ _ S.TOz u4⟩, D1.frame _ _ _ t1 fun b hb o e => up7 b o (fun q => S.zf1 (q ▸ hb)) e, D2.frame _ _ _ t2 fun b hb o e => up7 b o (fun q => S.zf2 (q ▸ hb)) e⟩ hT7 hs7
      fun c o cz cT c1 c2 e => up7 c o cz (up4 c o cz cT c1 c2 e)
  · replace k0 : Heap.SameBut z hp g0 := k0
    simp only [Bool.false_eq_true, if_false]
    refine wpAny_bind ?_
    rw [← Array.forIn_toList]
    simp only [List.forIn_cons, List.forIn_nil]
    refine wpAny_bind (wpAny_bind (wpAny_holding ?_))
    show wpAny _ _ (Builtin.SmallTypes.nextOf (.ref i1) >>= _) _ _ ⟨g0, g, d, tk0, os⟩
    refine wpAny_bind (D1.item i _ _ _ l1 (D1.over st1 k0 S.zf1) fun x1 g1 tk1 p1 sn1 k1 => wpAny_pure ?_)
    replace k1 : Heap.SameBut i1 g0 g1 := k1
    refine wpAny_pure ?_
    refine wpAny_bind (wpAny_bind (wpAny_holding ?_))
    show wpAny _ _ (Builtin.SmallTypes.nextOf (.ref i2) >>= _) _ _ ⟨g1, g, d, tk1, os⟩
    refine wpAny_bind (D2.item i _ _ _ l2 (D2.over (D2.over st2 k0 S.zf2) k1 S.sep1_2) fun x2 g2 tk2 p2 sn2 k2 => wpAny_pure ?_)
    replace k2 : Heap.SameBut i2 g1 g2 := k2
    refine wpAny_pure (wpAny_pure ?_)
    show wpAny _ _ (newTuple [x1, x2] >>= _) _ _ ⟨g2, g, d, tk2, os⟩
    refine wpAny_bind (wpAny_newTuple ?_)
    have hsz : g2.objs.size = hp.objs.size := by rw [k2.1, k1.1, k0.1]
    have hz2 : g2.get? z = some (ZObj v0 b' TI TO) := k2.extBut _ _ S.zi2 (k1.extBut _ _ S.zi1 hz0)
    have up2 : ∀ c o, c ≠ z → c ≠ i1 → c ≠ i2 → hp.get? c = some o → g2.get? c = some o := fun c o cz c1 c2 e => k2.extBut _ _ c2 (k1.extBut _ _ c1 (k0.extBut _ _ cz e))
    have t1 : St1 (i + 1) g2 := D1.over sn1 k2 S.sep2_1
    have psh : ∀ c o, g2.get? c = some o → (g2.push { cls := .type "tuple", data := .seq #[x1, x2] }).get? c = some o := fun c o e => Heap.get?_push_of_some _ e
    refine wpAny_pure ⟨_, rfl, ?_⟩
    show Q (.ref g2.objs.size) ⟨g2.push { cls := .type "tuple", data := .seq #[x1, x2] }, g, d, tk2, os⟩
    have hT2 : IsTupOf2 (g2.push { cls := .type "tuple", data := .seq #[x1, x2] }) g2.objs.size x1 x2 := Heap.get?_push_size _ rfl
    have hs2 : (g2.push { cls := .type "tuple", data := .seq #[x1, x2] }).objs.size = g2.objs.size + 1 := Heap.size_push ..
    rw [hsz] at hT2 hs2 ⊢
    exact hQ x1 x2 _ tk2 p1 p2 ⟨⟨_, _, psh _ _ hz2, hv⟩, psh _ _ (up2 _ _ S.TIz S.TIi1 S.TIi2 hTI), ⟨_, _, psh _ _ (up2 _ _ S.TOz S.Ti1 S.Ti2 hTO)⟩, D1.frame _ _ _ t1 fun b _ o e => psh b o e, D2.frame _ _ _ sn2 fun b _ o e => psh b o e⟩ hT2 hs2
      fun c o cz cT c1 c2 e => psh c o (up2 c o cz c1 c2 e)
theorem zg_end {Q : Fin → Shared → Prop} (S : ZipSep2 z TI TO i1 i2 fp1 fp2) (D1 : Draws prog w A i1 fp1 n1 P1 St1) (D2 : Draws prog w A i2 fp2 n2 P2 St2)
    (st : ZSt z TI TO i1 i2 St1 St2 i s.heap) (l1 : i ≤ n1) (l2 : i ≤ n2) (hend : i = n1 ∨ i = n2)
    (hE : ∀ h' tk e, (∀ c o, c ≠ z → c ≠ TO → c ≠ i1 → c ≠ i2 → s.heap.get? c = some o → h'.get? c = some o) → (∃ o, h'.get? e = some o ∧ o.cls = .type "StopIteration") → E (.ref e) { s with heap := h', toks := tk }) :
    wpAny (model prog w) A (Builtin.«zip.__next__» ⟨[.ref z], []⟩) Q E s := by
  obtain ⟨hp, g, d, tk0, os⟩ := s
  obtain ⟨⟨v0, b, hz, hv⟩, hTI, ⟨a1, a2, hTO⟩, st1, st2⟩ := st
  show wpAny _ _ (field (.ref z) 2 >>= _) _ _ _
  refine wpAny_bind (wpAny_field hz rfl (x := .bool false) rfl ?_)
  show wpAny _ _ (field (.ref z) 3 >>= _) _ _ _
  refine wpAny_bind (wpAny_field hz rfl (x := .ref TI) rfl ?_)
  refine wpAny_bind (wpAny_seqItems hTI rfl ?_)
  show wpAny _ _ (Builtin.SmallTypes.ownedTupleIsFree (.ref z) >>= _) _ _ _
  refine wpAny_bind (own_free hz hv ?_ fun g0 b' hz0 k0 => ?_)
  · simp only [if_true]
    refine wpAny_bind (wpAny_rule ?_)
    refine wpAny_bind (wpAny_field hz rfl (x := .ref TO) rfl ?_)
    refine wpAny_bind (wpAny_setField_rec hz (by simp) fun g0 hz0 k0 => ?_)
    replace hz0 : g0.get? z = some (ZObj .ellipsis b TI TO) := hz0
    replace k0 : Heap.SameBut z hp g0 := k0
    refine wpAny_bind ?_
    simp only [List.zipIdx_cons, List.zipIdx_nil, List.forIn_cons, List.forIn_nil]
    refine wpAny_bind (wpAny_bind (wpAny_onRaise ?_))
    show wpAny _ _ (Builtin.SmallTypes.nextOf (.ref i1) >>= _) _ _ ⟨g0, g, d, tk0, os⟩
    by_cases hl : i < n1
    · refine wpAny_bind (D1.item i _ _ _ hl (D1.over st1 k0 S.zf1) fun x1 g1 tk1 p1 sn1 k1 => wpAny_pure ?_)
      replace k1 : Heap.SameBut i1 g0 g1 := k1
      have u1 : IsTupOf2 g1 TO a1 a2 := k1.extBut _ _ S.Ti1 (k0.extBut _ _ S.TOz hTO)
      refine wpAny_bind (wpAny_seqItems (s := ⟨g1, g, d, tk1, os⟩) u1 rfl ?_)
      refine wpAny_bind (updateSeq_IsTupOf2 (s := ⟨g1, g, d, tk1, os⟩) u1 fun g2 u2 k2 => ?_)
      replace k2 : Heap.SameBut TO g1 g2 := k2
      refine wpAny_bind (wpAny_letGo (wpAny_pure ?_))
      have hi2 : i = n2 := by omega
      refine wpAny_bind (wpAny_bind (wpAny_onRaise ?_))
      show wpAny _ _ (Builtin.SmallTypes.nextOf (.ref i2) >>= _) _ _ ⟨g2, g, d, tk1, os⟩
      refine wpAny_bind (D2.done ⟨g2, g, d, tk1, os⟩ _ _ (by rw [← hi2]; exact (D2.over (D2.over (D2.over st2 k0 S.zf2) k1 S.sep1_2) k2 S.Tf2)) fun q e hq he => ?_)
      replace hq : Heap.ExtBut i2 g2 q := hq
      obtain ⟨oe, hoe, hce⟩ := he
      replace hoe : q.get? e = some oe := hoe
      have hzq : q.get? z = some (ZObj .ellipsis b TI TO) := hq _ _ S.zi2 (k2.extBut _ _ S.TOz.symm (k1.extBut _ _ S.zi1 hz0))
      have hez : e ≠ z := fun x => by
        subst x
        rw [hzq] at hoe
        cases hoe
        simp at hce
      refine wpAny_setField_rec (s := ⟨q, g, d, tk1, os⟩) hzq (by simp) fun q' _ hq' => ?_
      replace hq' : Heap.SameBut z q q' := hq'
      exact hE q' tk1 e (fun c o cz cT c1 c2 x => hq'.extBut _ _ cz (hq _ _ c2 (k2.extBut _ _ cT (k1.extBut _ _ c1 (k0.extBut _ _ cz x))))) ⟨oe, hq'.extBut _ _ hez hoe, hce⟩
    · have hi1 : i = n1 := by omega
      refine wpAny_bind (D1.done ⟨g0, g, d, tk0, os⟩ _ _ (by rw [← hi1]; exact (D1.over st1 k0 S.zf1)) fun q e hq he => ?_)
      replace hq : Heap.ExtBut i1 g0 q := hq
      obtain ⟨oe, hoe, hce⟩ := he
      replace hoe : q.get? e = some oe := hoe
      have hzq : q.get? z = some (ZObj .ellipsis b TI TO) := hq _ _ S.zi1 hz0
      have hez : e ≠ z := fun x => by
        subst x
        rw [hzq] at hoe
        cases hoe
        simp at hce
      refine wpAny_setField_rec (s := ⟨q, g, d, tk0, os⟩) hzq (by simp) fun q' _ hq' => ?_
      replace hq' : Heap.SameBut z q q' := hq'
      exact hE q' tk0 e (fun c o cz cT c1 c2 x => hq'.extBut _ _ cz (hq _ _ c1 (k0.extBut _ _ cz x))) ⟨oe, hq'.extBut _ _ hez hoe, hce⟩
  · replace k0 : Heap.SameBut z hp g0 := k0
    simp only [Bool.false_eq_true, if_false]
    refine wpAny_bind ?_
    rw [← Array.forIn_toList]
    simp only [List.forIn_cons, List.forIn_nil]
    refine wpAny_bind (wpAny_bind (wpAny_holding ?_))
    show wpAny _ _ (Builtin.SmallTypes.nextOf (.ref i1) >>= _) _ _ ⟨g0, g, d, tk0, os⟩
    by_cases hl : i < n1
    · refine wpAny_bind (D1.item i _ _ _ hl (D1.over st1 k0 S.zf1) fun x1 g1 tk1 p1 sn1 k1 => wpAny_pure ?_)
      replace k1 : Heap.SameBut i1 g0 g1 := k1
      refine wpAny_pure ?_
      have hi2 : i = n2 := by omega
      refine wpAny_bind (wpAny_bind (wpAny_holding ?_))
      show wpAny _ _ (Builtin.SmallTypes.nextOf (.ref i2) >>= _) _ _ ⟨g1, g, d, tk1, os⟩
      refine wpAny_bind (D2.done ⟨g1, g, d, tk1, os⟩ _ _ (by rw [← hi2]; exact (D2.over (D2.over st2 k0 S.zf2) k1 S.sep1_2)) fun q e hq he => ?_)
      replace hq : Heap.ExtBut i2 g1 q := hq
      exact hE q tk1 e (fun c o cz cT c1 c2 x => hq _ _ c2 (k1.extBut _ _ c1 (k0.extBut _ _ cz x))) he
    · have hi1 : i = n1 := by omega
      refine wpAny_bind (D1.done ⟨g0, g, d, tk0, os⟩ _ _ (by rw [← hi1]; exact (D1.over st1 k0 S.zf1)) fun q e hq he => ?_)
      replace hq : Heap.ExtBut i1 g0 q := hq
      exact hE q tk0 e (fun c o cz cT c1 c2 x => hq _ _ c1 (k0.extBut _ _ cz x)) he
end
end DL

-- part DL11
set_option Elab.async false
set_option linter.all false
set_option maxRecDepth 100000
set_option maxHeartbeats 1000000
/-! DL11: list(zip(..)). -/
namespace DL
open PySem PySem.Spec PyProof.Rows L2 RZ
/-! ### lists and tuples, walked alike -/
def sOb (l : Bool) (a : Addr) : Obj := if l then { cls := .type "list_iterator", data := .fields #[.ref a, .int 0 0] } else { cls := .type "tuple_iterator", data := .fields #[.ref a, .int 0 0] }
def sHp (l : Bool) (a : Addr) (items : Array Value) (h : Heap) : Prop := if l then h.IsList a items else h.IsTuple a items
def sIt (l : Bool) (it a : Addr) (i : Nat) (h : Heap) : Prop := if l then h.IsListIter it a i else h.IsTupleIter it a i
def SqX (l : Bool) (K : PySem.W.Frag) (H : Hp) (a : Addr) (xs : List V) : Prop := if l then SqL K H a xs else SqT K H a xs
theorem sHp_keep {l : Bool} {a : Addr} {items : Array Value} {h h' : Heap} (x : sHp l a items h) (k : ∀ o, h.get? a = some o → h'.get? a = some o) : sHp l a items h' := by
  cases l with
  | true => exact x.at k
  | false =>
    obtain ⟨o, e, r⟩ := x
    exact ⟨o, k _ e, r⟩
theorem sIt_keep {l : Bool} {it a : Addr} {i : Nat} {h h' : Heap} (x : sIt l it a i h) (k : ∀ o, h.get? it = some o → h'.get? it = some o) : sIt l it a i h' := by
  cases l with
  | true => exact x.at k
  | false => exact x.at k
theorem sIt_new {l : Bool} {it a : Addr} {h : Heap} (e : h.get? it = some (sOb l a)) : sIt l it a 0 h := by
  cases l with
  | true => exact ⟨_, e, rfl, rfl⟩
  | false => exact ⟨_, e, rfl, rfl⟩
theorem sHp_lt {l : Bool} {a : Addr} {items : Array Value} {h : Heap} (x : sHp l a items h) : a < h.objs.size := by
  cases l with
  | true =>
    obtain ⟨_, e, _⟩ := x
    exact Heap.lt_size e
  | false =>
    obtain ⟨_, e, _⟩ := x
    exact Heap.lt_size e
theorem s_begins (l : Bool) (a : Addr) (items : Array Value) : Begins (.ref a) (sOb l a) (sHp l a items) := by
  cases l with
  | true => exact begins_list a items
  | false => exact begins_tuple a items
theorem s_draws {prog : Program} {w : World} {A : Around} (l : Bool) (hh : A.handled = none) (it a : Addr) (hne : a ≠ it) (items : Array Value) :
    Draws prog w A it [it, a] items.size (fun i v => items[i]? = some v) (fun i h => sIt l it a i h ∧ sHp l a items h) := by
  cases l with
  | true => exact Draws.list hh it a hne items
  | false => exact Draws.tuple hh it a hne items
theorem sqX_up {l : Bool} {K : PySem.W.Frag} {F H : Hp} {a : Addr} {xs : List V} (s : Same F H) (h : SqX l K F a xs) : SqX l K H a xs := by
  cases l with
  | true => exact sqL_up s h
  | false => exact sqT_up s h
theorem inv_side {X : Cx} {pins : List (Addr × Obj)} {σ : L2.St} {H : Hp} {s : Shared} {l : Bool} {a : Addr} {xs : List V} (I : Inv X pins σ H s) (h : SqX l X.K H a xs) : ∃ its : List Value, Vals xs its ∧ sHp l a its.toArray s.heap := by
  cases l with
  | true =>
    obtain ⟨its, r, p, _⟩ := I.list h
    exact ⟨its, r, p.isList⟩
  | false =>
    obtain ⟨its, r, p, _⟩ := I.tuple h
    exact ⟨its, r, p⟩
theorem dp_side {K : PySem.W.Frag} {F : Hp} {v : V} {d : D} {xs : List D} (h : Dp K F v d) (e : items d = some xs) : ∃ l a vs, v = .ref a ∧ SqX l K F a vs ∧ DpAll K F vs xs := by
  cases h with
  | lst h1 h2 =>
    cases e
    exact ⟨true, _, _, rfl, h1, h2⟩
  | tup h1 h2 =>
    cases e
    exact ⟨false, _, _, rfl, h1, h2⟩
  | _ => cases e

/-! ### the loop that fills a list -/
abbrev LObj (acc : Array Value) (c : Nat) : Obj := { cls := .type "list", dict := none, data := .seq acc c, slots := #[] }
section
variable {prog : Program} {w : World} {A : Around} {R : Result → Shared → Prop}
theorem fill_loop {S I : Addr} {n : Nat} {res : Value} (hn : n ≤ sizeLine) (Ψ : Nat → Array Value → Shared → Prop)
    (turn : ∀ i acc (s : Shared) c (E : Value → Shared → Prop), i < n → Ψ i acc s → s.heap.get? S = some (LObj acc c) →
      wpAny (model prog w) A.in1 (pyNext (.ref I)) (fun r s' => ∃ v, r = some v ∧ (∃ c', s'.heap.get? S = some (LObj acc c')) ∧ Ψ (i + 1) (acc.push v) { s' with heap := s'.heap.update S (Obj.mapSeq (·.push v)) }) E s)
    (fin : ∀ acc (s : Shared) c (E : Value → Shared → Prop), Ψ n acc s → s.heap.get? S = some (LObj acc c) → wpAny (model prog w) A.in1 (pyNext (.ref I)) (fun r s' => r = none ∧ R (.ok (.ret res)) s') E s) :
    ∀ (k i : Nat) (s : Shared) (acc : Array Value) (c : Nat), n - i = k → i ≤ n → Ψ i acc s → acc.size = i → s.heap.get? S = some (LObj acc c) → codeAny (model prog w) A (.builtin "list.extend.loop" ⟨[.ref S, .ref I, res], []⟩) R s := by
  intro k
  induction k with
  | zero =>
    intro i s acc c hk hi hp hz hS
    obtain rfl : i = n := by omega
    refine codeAny_builtin F.entry_extend_loop ?_
    rw [Around.under_plainId F.plain_extend_loop _]
    refine wpAny_bind (thn (fin acc s c _ hp hS) fun r s1 h => ?_)
    obtain ⟨rfl, h⟩ := h
    exact wpAny_pure h
  | succ k ih =>
    intro i s acc c hk hi hp hz hS
    have hlt : i < n := by omega
    refine codeAny_builtin F.entry_extend_loop ?_
    rw [Around.under_plainId F.plain_extend_loop _]
    refine wpAny_bind (thn (turn i acc s c _ hlt hp hS) fun r s1 h => ?_)
    obtain ⟨v, rfl, ⟨c', hS1⟩, hp1⟩ := h
    show wpAny _ _ (updateSeq S (·.push v) >>= _) _ _ _
    refine wpAny_bind (wpAny_updateSeq hS1 rfl (wpAny_pure ⟨plainId_quiet F.plain_extend_loop _, ?_⟩) (by rw [hz]; omega) (by show (acc.push v).size ≤ sizeLine + 1; rw [Array.size_push, hz]; omega))
    exact ih (i + 1) _ (acc.push v) _ (by omega) hlt hp1 (by rw [Array.size_push, hz]) (Heap.get?_update_self _ hS1 rfl)
end
theorem zip_nolen : typeLookup (.type "zip") "__len__" = pure none := by rw [typeLookup_type, builtinLookup_eq_fast]; kernel_rfl
theorem zip_nohint : typeLookup (.type "zip") "__length_hint__" = pure none := by rw [typeLookup_type, builtinLookup_eq_fast]; kernel_rfl
section
variable {prog : Program} {w : World} {A : Around} {E : Value → Shared → Prop} {s : Shared} {z TI TO i1 i2 : Addr} {fp1 fp2 : List Addr} {n1 n2 i : Nat} {P1 P2 : Nat → Value → Prop} {St1 St2 : Nat → Heap → Prop}
theorem zo_type (h : ZO s.heap z TI TO) : s.TypeIs (.ref z) "zip" := by
  obtain ⟨v0, b, hz, _⟩ := h
  exact ⟨_, hz, rfl⟩
theorem zg_nextOf {Q : Value → Shared → Prop} (S : ZipSep2 z TI TO i1 i2 fp1 fp2) (D1 : Draws prog w A.in1 i1 fp1 n1 P1 St1) (D2 : Draws prog w A.in1 i2 fp2 n2 P2 St2)
    (st : ZSt z TI TO i1 i2 St1 St2 i s.heap) (l1 : i < n1) (l2 : i < n2)
    (hQ : ∀ x1 x2 h' tk, P1 i x1 → P2 i x2 → ZSt z TI TO i1 i2 St1 St2 (i + 1) h' → IsTupOf2 h' s.heap.objs.size x1 x2 → h'.objs.size = s.heap.objs.size + 1 →
      (∀ c o, c ≠ z → c ≠ TO → c ≠ i1 → c ≠ i2 → s.heap.get? c = some o → h'.get? c = some o) → Q (.ref s.heap.objs.size) { s with heap := h', toks := tk }) :
    wpAny (model prog w) A (Builtin.SmallTypes.nextOf (.ref z)) Q E s := by
  have hT := zo_type (s := s) st.zo
  unfold Builtin.SmallTypes.nextOf
  exact wpAny_bind (wpAny_callSpecial?_slot (name := Str.ofString "__next__") hT F.slot_zip_next
    (wpAny_call_entry F.slot_zip_next hT F.entry_zip_next (zg_item S D1 D2 st l1 l2 fun a b c d e f g h k m => wpAny_pure (hQ a b c d e f g h k m)) (F.args_zip_next_1 _)))
theorem zg_pyNext {Q : Option Value → Shared → Prop} (S : ZipSep2 z TI TO i1 i2 fp1 fp2) (D1 : Draws prog w A.in1 i1 fp1 n1 P1 St1) (D2 : Draws prog w A.in1 i2 fp2 n2 P2 St2)
    (st : ZSt z TI TO i1 i2 St1 St2 i s.heap) (l1 : i < n1) (l2 : i < n2)
    (hQ : ∀ x1 x2 h' tk, P1 i x1 → P2 i x2 → ZSt z TI TO i1 i2 St1 St2 (i + 1) h' → IsTupOf2 h' s.heap.objs.size x1 x2 → h'.objs.size = s.heap.objs.size + 1 →
      (∀ c o, c ≠ z → c ≠ TO → c ≠ i1 → c ≠ i2 → s.heap.get? c = some o → h'.get? c = some o) → Q (some (.ref s.heap.objs.size)) { s with heap := h', toks := tk }) :
    wpAny (model prog w) A (pyNext (.ref z)) Q E s := by
  have hT := zo_type (s := s) st.zo
  unfold pyNext
  exact wpAny_bind (wpAny_attempt (wpAny_callSpecial?_slot (name := Str.ofString "__next__") hT F.slot_zip_next
    (wpAny_call_entry F.slot_zip_next hT F.entry_zip_next (zg_item S D1 D2 st l1 l2 fun a b c d e f g h k m => wpAny_pure (hQ a b c d e f g h k m)) (F.args_zip_next_1 _))))
theorem zg_pyEnd {Q : Option Value → Shared → Prop} (S : ZipSep2 z TI TO i1 i2 fp1 fp2) (D1 : Draws prog w A.in1 i1 fp1 n1 P1 St1) (D2 : Draws prog w A.in1 i2 fp2 n2 P2 St2)
    (st : ZSt z TI TO i1 i2 St1 St2 i s.heap) (l1 : i ≤ n1) (l2 : i ≤ n2) (hend : i = n1 ∨ i = n2)
    (hQ : ∀ h' tk, (∀ c o, c ≠ z → c ≠ TO → c ≠ i1 → c ≠ i2 → s.heap.get? c = some o → h'.get? c = some o) → Q none { s with heap := h', toks := tk }) : wpAny (model prog w) A (pyNext (.ref z)) Q E s := by
  have hT := zo_type (s := s) st.zo
  unfold pyNext
  refine wpAny_bind (wpAny_attempt (wpAny_callSpecial?_slot (name := Str.ofString "__next__") hT F.slot_zip_next
    (wpAny_call_entry F.slot_zip_next hT F.entry_zip_next (zg_end S D1 D2 st l1 l2 hend fun h' tk e hk he => ?_) (F.args_zip_next_1 _))))
  obtain ⟨o, ho, hc⟩ := he
  exact wpAny_bind (wpAny_isInstance (T := "StopIteration") (b := true) ⟨o, ho, hc⟩ isSubtype_stop (wpAny_pure (hQ _ _ hk)))
theorem zo_iter {Q : Value → Shared → Prop} (h : ZO s.heap z TI TO) (q : Q (.ref z) s) : wpAny (model prog w) A (pyIter (.ref z)) Q E s := by
  have hT := zo_type (s := s) h
  refine wpAny_pyIter_slot hT F.slot_zip_iter (wpAny_call_entry F.slot_zip_iter hT F.entry_zip_iter ?_ (F.args_zip_iter_1 _))
  show wpAny _ _ (PySem.ret (.ref z)) _ _ s
  exact wpAny_pure ⟨_, rfl, "zip", _, hT, F.slot_zip_next.lookup, q⟩
/-- list(z), z a zip: the loop begins -/
theorem list_zip_begin {Q : Value → Shared → Prop} (hz : ZO s.heap z TI TO)
    (h : ∀ h' c, h'.get? s.heap.objs.size = some (LObj #[] c) → (∀ b o, s.heap.get? b = some o → h'.get? b = some o) →
      codeAny (model prog w) A.in1 (.builtin "list.extend.loop" ⟨[.ref s.heap.objs.size, .ref z, .none], []⟩) (fun r s2 => wants (fun r s₂ => r = .none ∧ Q (.ref s.heap.objs.size) s₂) E r s2) { s with heap := h' }) :
    wpAny (model prog w) A (call (.type "list") [.ref z]) Q E s := by
  have hzl : z < s.heap.objs.size := by
    obtain ⟨v0, b, e, _⟩ := hz
    exact Heap.lt_size e
  refine callType_codes (Q₁ := fun obj s1 => obj = .ref s.heap.objs.size ∧ s1 = { s with heap := s.heap.push { cls := .type "list", data := .seq #[] } }) F.called_list (F.typeCall_list_1 _) F.entry_list_init
    (code_list_new _ ⟨rfl, rfl⟩) fun obj s1 h1 => ?_
  obtain ⟨rfl, rfl⟩ := h1
  have e0 : (s.heap.push { cls := .type "list", data := .seq #[] }).get? s.heap.objs.size = some { cls := .type "list", data := .seq #[] } := Heap.get?_push_size _ rfl
  refine ⟨⟨_, e0, rfl⟩, F.args_list_init_2 _ _, ?_⟩
  show wpAny _ A.in1.in1 (do let old ← Builtin.List.listItems (.ref s.heap.objs.size); Builtin.List.listUpdate (.ref s.heap.objs.size) (fun _ => #[]); letGo old.toList.reverse; Builtin.List.listExtendWith (.ref s.heap.objs.size) (.ref z) .none) _ _ _
  refine wpAny_bind ?_
  unfold Builtin.List.listItems
  refine wpAny_bind (wpAny_seqItems e0 rfl (wpAny_pure ?_))
  show wpAny _ _ (updateSeq s.heap.objs.size (fun _ => #[]) >>= fun _ => letGo (#[] : Array Value).toList.reverse >>= fun _ => Builtin.List.listExtendWith (.ref s.heap.objs.size) (.ref z) .none) _ _ _
  refine wpAny_bind (wpAny_updateSeq e0 rfl ?_)
  have e1 := Heap.get?_update_self (Obj.mapSeq (fun _ => (#[] : Array Value))) e0 rfl
  have zne : s.heap.objs.size ≠ z := Nat.ne_of_gt hzl
  have old : ∀ b o, s.heap.get? b = some o → ((s.heap.push { cls := .type "list", data := .seq #[] }).update s.heap.objs.size (Obj.mapSeq (fun _ => (#[] : Array Value)))).get? b = some o :=
    fun b o e => (Heap.get?_update_other _ _ (Nat.ne_of_gt (Heap.lt_size e))).trans (Heap.get?_push_of_some _ e)
  have hz1 : ZO ((s.heap.push { cls := .type "list", data := .seq #[] }).update s.heap.objs.size (Obj.mapSeq (fun _ => (#[] : Array Value)))) z TI TO := by
    obtain ⟨v0, b, e, r⟩ := hz
    exact ⟨v0, b, old _ _ e, r⟩
  refine wpAny_bind (wpAny_letGo ?_)
  generalize hh1 : (s.heap.push { cls := .type "list", data := .seq #[] }).update s.heap.objs.size (Obj.mapSeq (fun _ => (#[] : Array Value))) = g1 at *
  have hT : ({ s with heap := g1 } : Shared).TypeIs (.ref z) "zip" := zo_type (s := { s with heap := g1 }) hz1
  unfold Builtin.List.listExtendWith
  refine wpAny_bind (wpAny_typeOf hT ?_)
  have q1 : Builtin.List.listSameRef (.ref s.heap.objs.size) (.ref z) = false := by simp [Builtin.List.listSameRef, zne]
  have q2 : (Value.type "zip" == Value.type "list") = false := by decide
  have q3 : (Value.type "zip" == Value.type "tuple") = false := by decide
  simp only [q1, q2, q3, Bool.or_false, Bool.false_eq_true, if_false]
  refine wpAny_bind (zo_iter (s := { s with heap := g1 }) hz1 ?_)
  refine wpAny_bind (wpAny_holding ?_)
  unfold Builtin.List.listLengthHint
  refine wpAny_bind (wpAny_specialOf hT zip_nolen ?_)
  show wpAny _ _ (specialOf (Value.ref z) (Str.ofString "__length_hint__") >>= _) _ _ _
  refine wpAny_bind (wpAny_specialOf hT zip_nohint ?_)
  refine wpAny_pure ?_
  show wpAny _ _ (rule "list.extend.makes-room" >>= fun _ => Builtin.List.listTouch (.ref s.heap.objs.size) >>= fun _ => again (.builtin "list.extend.loop" ⟨[.ref s.heap.objs.size, .ref z, .none], []⟩)) _ _ _
  refine wpAny_bind (wpAny_rule ?_)
  refine wpAny_bind ?_
  show wpAny _ _ (updateSeq s.heap.objs.size (·.push .none) >>= fun _ => updateSeq s.heap.objs.size (·.pop)) _ _ _
  refine wpAny_bind (wpAny_updateSeq e1 rfl ?_)
  have e2 := Heap.get?_update_self (Obj.mapSeq (·.push Value.none)) e1 rfl
  refine wpAny_updateSeq (hz := by seq_fits) e2 rfl ?_
  have e3 := Heap.get?_update_self (Obj.mapSeq (·.pop)) e2 rfl
  refine wpAny_pure ⟨plainId_quiet F.plain_extend_loop _, ?_⟩
  refine h _ _ e3 fun b o e => ?_
  have nb : s.heap.objs.size ≠ b := Nat.ne_of_gt (Heap.lt_size e)
  exact (Heap.get?_update_other _ _ nb).trans ((Heap.get?_update_other _ _ nb).trans (old b o e))
end
end DL

-- part DL12
set_option Elab.async false
set_option linter.all false
set_option maxRecDepth 100000
set_option maxHeartbeats 1000000
/-! DL12: list(zip(..)) as a rule. -/
namespace DL
open PySem PySem.Spec PyProof.Rows L2 RZ
/-- zip of lists and tuples -/
def zipG (n : MV (List D)) : MV (List D) := bnd n fun xs => match xs with
  | [x, y] => match items x, items y with
    | some a, some b => ret (zipL a b)
    | _, _ => fun _ => none
  | _ => fun _ => none
theorem zipG_some {n : MV (List D)} {S S' : Sta} {ds : List D} (h : zipG n S = some (ds, S')) : ∃ x y a b, n S = some ([x, y], S') ∧ items x = some a ∧ items y = some b ∧ ds = zipL a b := by
  obtain ⟨xs, S1, e1, e2⟩ := bnd_some h
  match xs, e2 with
  | [x, y], e2 =>
    cases hx : items x with
    | none =>
      simp only [hx] at e2
      cases e2
    | some a =>
      cases hy : items y with
      | none =>
        simp only [hx, hy] at e2
        cases e2
      | some b =>
        simp only [hx, hy] at e2
        cases e2
        exact ⟨x, y, a, b, e1, hx, hy, rfl⟩
abbrev ZS (la : Bool) (it a : Addr) (its : List Value) (i : Nat) (h : Heap) : Prop := sIt la it a i h ∧ sHp la a its.toArray h
/-- a zip has been made -/
structure ZipV (X : Cx) (c : Fr) (pins : List (Addr × Obj)) (σ : L2.St) (F0 : Hp) (S1 : Sta) (xs ys : List D) (z TI TO i1 i2 a b : Addr) (la lb : Bool) (ia ib : List Value) (va vb : List V) (F1 H1 : Hp) (s' : Shared) : Prop where
  inv : Inv X pins σ H1 s'
  up : Same F0 F1
  rel : Rel X.K c F1 S1 σ H1
  qa : SqX la X.K F1 a va
  qb : SqX lb X.K F1 b vb
  da : DpAll X.K F1 va xs
  db : DpAll X.K F1 vb ys
  ra : Vals va ia
  rb : Vals vb ib
  sep : ZipSep2 z TI TO i1 i2 [i1, a] [i2, b]
  na : a ≠ i1
  nb : b ≠ i2
  st : ZSt z TI TO i1 i2 (ZS la i1 a ia) (ZS lb i2 b ib) 0 s'.heap
  fp : ∀ d ∈ [z, TI, TO, i1, i2], FpOk X pins H1 d
  pre : ∃ s0 h0, s' = { s0 with heap := h0 } ∧ Inv X pins σ H1 s0 ∧ (∀ b o, s0.heap.get? b = some o → h0.get? b = some o) ∧ (∀ d ∈ [z, TI, TO, i1, i2], s0.heap.objs.size ≤ d) ∧ a < s0.heap.objs.size ∧ b < s0.heap.objs.size
  obz : s'.heap.get? z = some (ZObj .none false TI TO)
  obt : IsTupOf2 s'.heap TO .none .none
  ob1 : s'.heap.get? i1 = some (sOb la a)
  ob2 : s'.heap.get? i2 = some (sOb lb b)
  nd : [z, TI, TO, i1, i2].Nodup
section
variable {X : Cx} {c : Fr} {e e2 : Expr} {n : MV (List D)} {pos p p2 pos2 : Pos}
theorem zip_eval {pins : List (Addr × Obj)} {σ : L2.St} {H F : Hp} {S S' : Sta} {s : Shared} {ds : List D} {Q : Value → Shared → Prop} (I : Inv X pins σ H s) (r : Rel X.K c F S σ H) (hz : zipG n S = some (ds, S')) (hg : Gl X "zip") (hm : X.mg "zip" = none) (ha : DL X c [e, e2] n)
    (hs : starEach [e, e2] X.env = (false, eval e X.env) :: starEach [e2] X.env) (hpl : (backTo pos (starEach [e2] X.env)).any (·.1) = false)
    (hQ : ∀ xs ys z TI TO i1 i2 a b la lb ia ib va vb F1 H1 s', ds = zipL xs ys → ZipV X c pins σ F S' xs ys z TI TO i1 i2 a b la lb ia ib va vb F1 H1 s' → Q (.ref z) s') :
    wpAny (model X.prog X.w) X.A (eval (.Call (.Name "zip" p) [e, e2] [] pos) X.env) Q X.xe s := by
  obtain ⟨x, y, xs, ys, e1, hx, hy, rfl⟩ := zipG_some hz
  refine Call_ (ld_blt I hg hm PyProof.Rows.boot_zip (PyProof.Rows.callWith_type1 (thn (ha.run pos pins s σ H (fun vs H1 => ∃ F1, Same F F1 ∧ Rel X.K c F1 S' σ H1 ∧ DpAll X.K F1 vs [x, y]) I ⟨F, S, r, [x, y], S', e1, fun F1 H1 vs s1 r1 d1 => ⟨F1, s1, r1, d1⟩⟩) fun us s1 ⟨vs, H1, I1, r1, F1, s1', r1', d1⟩ => ?_) hs hpl))
  obtain ⟨v, w, rfl, hv, hw⟩ := DpAll.two d1
  obtain ⟨la, a, va, rfl, qa, da⟩ := dp_side hv hx
  obtain ⟨lb, b, vb, rfl, qb, db⟩ := dp_side hw hy
  cases r1 with
  | cons r r' =>
    cases r' with
    | cons r2 r' =>
      cases r'
      cases r
      cases r2
      obtain ⟨ia, ra, ha'⟩ := inv_side I1 (sqX_up r1'.fh qa)
      obtain ⟨ib, rb, hb'⟩ := inv_side I1 (sqX_up r1'.fh qb)
      have hal := sHp_lt ha'
      have hbl := sHp_lt hb'
      refine zip_begins2 (s_begins la a ia.toArray) (s_begins lb b ib.toArray) ha' hb' fun h' hz' hTI hTO g1 g2 hsz hk => ?_
      have fresh5 : ∀ d, d ∈ [s1.heap.objs.size + 4, s1.heap.objs.size + 2, s1.heap.objs.size + 3, s1.heap.objs.size, s1.heap.objs.size + 1] → FpOk X pins H1 d := fun d hd => by
        have hle : s1.heap.objs.size ≤ d := by
          simp only [List.mem_cons, List.mem_nil_iff, or_false] at hd
          rcases hd with z | z | z | z | z <;> rw [z]
          · exact Nat.le_add_right _ _
          · exact Nat.le_add_right _ _
          · exact Nat.le_add_right _ _
          · exact Nat.le_refl _
          · exact Nat.le_add_right _ _
        exact I1.fpOk hle (I1.hok.fresh hle)
      have ne1 : a ≠ s1.heap.objs.size := Nat.ne_of_lt hal
      have ne2 : b ≠ s1.heap.objs.size + 1 := Nat.ne_of_lt (Nat.lt_succ_of_lt hbl)
      refine hQ xs ys _ _ _ _ _ a b la lb ia ib va vb F1 H1 { s1 with heap := h' } rfl ⟨I1.kept (t' := s1.toks) hk, s1', r1', qa, qb, da, db, ra, rb, zip_sep2 (N := s1.heap.objs.size) (fp1 := [a]) (fp2 := [b]) (fun d hd => ?_) (fun d hd => ?_), ne1, ne2, ⟨⟨_, _, hz', .inl rfl⟩, hTI, ⟨_, _, hTO⟩, ⟨sIt_new g1, sHp_keep ha' fun o e => hk _ _ e⟩, ⟨sIt_new g2, sHp_keep hb' fun o e => hk _ _ e⟩⟩, fresh5, ⟨s1, h', rfl, I1, hk, fun d hd => ?_, hal, hbl⟩, hz', hTO, g1, g2, ?_⟩
      · rw [List.mem_singleton.mp hd]
        exact hal
      · rw [List.mem_singleton.mp hd]
        exact hbl
      · simp only [List.mem_cons, List.mem_nil_iff, or_false] at hd
        rcases hd with z | z | z | z | z <;> rw [z]
        · exact Nat.le_add_right _ _
        · exact Nat.le_add_right _ _
        · exact Nat.le_add_right _ _
        · exact Nat.le_refl _
        · exact Nat.le_add_right _ _
      · have big : ∀ N : Nat, [N + 4, N + 2, N + 3, N, N + 1].Nodup := fun N => by simp
        exact big _
theorem zipL_at {xs ys : List D} {i : Nat} {d e : D} (h1 : xs[i]? = some d) (h2 : ys[i]? = some e) : (zipL xs ys)[i]? = some (.tuple [d, e]) := by
  unfold zipL
  rw [List.getElem?_zipWith, h1, h2]
/-- what the turn i of a zip gives -/
theorem zip_at {va : List V} {ia : List Value} {xs : List D} {K : PySem.W.Frag} {F : Hp} {i : Nat} {u : Value} (ra : Vals va ia) (da : DpAll K F va xs) (h : ia.toArray[i]? = some u) : ∃ v d, va[i]? = some v ∧ RelV v u ∧ xs[i]? = some d ∧ Dp K F v d := by
  have h' : ia[i]? = some u := by simpa using h
  have hi : i < va.length := by
    have := (List.getElem?_eq_some_iff.mp h').1
    rw [ra.length]
    exact this
  have hv : va[i]? = some va[i] := List.getElem?_eq_getElem hi
  obtain ⟨w, hw, rw'⟩ := ra.get hv
  rw [h'] at hw
  obtain ⟨d, hd, hdp⟩ := da.getV hv
  exact ⟨_, d, hv, Option.some.inj hw ▸ rw', hd, hdp⟩
def lstOf (m : MV (List D)) : MV D := bnd m fun xs => if xs.length ≤ 1000000 then ret (.list xs) else fun _ => none
theorem lstOf_some {m : MV (List D)} {S S' : Sta} {d : D} (h : lstOf m S = some (d, S')) : ∃ xs, m S = some (xs, S') ∧ d = .list xs ∧ xs.length ≤ 1000000 := by
  obtain ⟨xs, S1, e1, e2⟩ := bnd_some h
  by_cases z : xs.length ≤ 1000000
  · rw [if_pos z] at e2
    cases e2
    exact ⟨xs, e1, rfl, z⟩
  · rw [if_neg z] at e2
    cases e2
theorem dn_listZip (hc : X.calm = true) (hg : Gl X "list") (hm : X.mg "list" = none) (hg2 : Gl X "zip") (hm2 : X.mg "zip" = none) (ha : DL X c [e, e2] n)
    (hs : starEach [e, e2] X.env = (false, eval e X.env) :: starEach [e2] X.env := by rfl) (hpl : (backTo pos2 (starEach [e2] X.env)).any (·.1) = false := by rfl)
    (na : starEach [.Call (.Name "zip" p2) [e, e2] [] pos2] X.env = (false, eval (.Call (.Name "zip" p2) [e, e2] [] pos2) X.env) :: starEach [] X.env := by rfl) :
    DN X c (.Call (.Name "list" p) [.Call (.Name "zip" p2) [e, e2] [] pos2] [] pos) (lstOf (zipG n)) := by
  refine ⟨fun pins s σ H Q I h => ?_⟩
  obtain ⟨F, S, r, ys', S', e1, q⟩ := h
  obtain ⟨ds, e2', e3, hlen⟩ := lstOf_some e1
  cases e3
  refine Call_ (ld_blt I hg hm boot_list (PyProof.Rows.callWith_type1 (args_cons (zip_eval I r e2' hg2 hm2 ha hs hpl fun xs ys z TI TO i1 i2 a b la lb ia ib va vb F1 H1 s1 ed Z => args_nil ?_) na) na))
  subst ed
  have hh : X.A.handled = none := Z.inv.ok.hd hc
  have zl : z < s1.heap.objs.size := by
    obtain ⟨v0, b0, e0, _⟩ := Z.st.zo
    exact Heap.lt_size e0
  have lts : ∀ d ∈ z :: TI :: TO :: ([i1, a] ++ [i2, b]), d < s1.heap.objs.size := fun d hd => by
    obtain ⟨t1, t2⟩ := Z.st.s1
    obtain ⟨t3, t4⟩ := Z.st.s2
    obtain ⟨x1, x2, tO⟩ := Z.st.tO
    have D1 := s_draws (prog := X.prog) (w := X.w) (A := X.A) la hh i1 a Z.na ia.toArray
    have D2 := s_draws (prog := X.prog) (w := X.w) (A := X.A) lb hh i2 b Z.nb ib.toArray
    simp only [List.mem_cons, List.cons_append, List.nil_append, List.mem_nil_iff, or_false] at hd
    rcases hd with q | q | q | q | q | q | q <;> rw [q]
    · exact zl
    · exact Heap.lt_size Z.st.ti
    · exact Heap.lt_size tO
    · obtain ⟨_, e⟩ := D1.live _ _ Z.st.s1
      exact Heap.lt_size e
    · exact sHp_lt t2
    · obtain ⟨_, e⟩ := D2.live _ _ Z.st.s2
      exact Heap.lt_size e
    · exact sHp_lt t4
  refine list_zip_begin Z.st.zo fun h' c0 hS hk => ?_
  -- the list's address
  generalize hL : s1.heap.objs.size = L at *
  have hne : ∀ d ∈ z :: TI :: TO :: ([i1, a] ++ [i2, b]), d ≠ L := fun d hd => Nat.ne_of_lt (lts d hd)
  have hH1L : H1 L = none := Z.inv.hok.fresh (Nat.le_of_eq hL)
  have D1 := s_draws (prog := X.prog) (w := X.w) (A := X.A.in1.in1.in1) la hh i1 a Z.na ia.toArray
  have D2 := s_draws (prog := X.prog) (w := X.w) (A := X.A.in1.in1.in1) lb hh i2 b Z.nb ib.toArray
  have la_len : va.length = ia.length := Z.ra.length
  have lb_len : vb.length = ib.length := Z.rb.length
  have hla : xs.length = ia.length := by rw [← Z.da.len, la_len]
  have hlb : ys.length = ib.length := by rw [← Z.db.len, lb_len]
  have hzl : (zipL xs ys).length = min ia.toArray.size ib.toArray.size := by
    unfold zipL
    rw [List.length_zipWith, hla, hlb]
    simp
  have hsz := sizeLine_eq
  refine fill_loop (n := min ia.toArray.size ib.toArray.size) (by rw [← hzl]; omega)
    (fun i acc s => ∃ H' F' vs, Inv X pins σ (upd H' L (.lst vs)) s ∧ H' L = none ∧ Vals vs acc.toList ∧ Same F1 F' ∧ Rel X.K c F' S' σ H' ∧ DpAll X.K F' vs ((zipL xs ys).take i) ∧ ZSt z TI TO i1 i2 (ZS la i1 a ia) (ZS lb i2 b ib) i s.heap ∧ (∀ d ∈ [z, TI, TO, i1, i2], FpOk X pins (upd H' L (.lst vs)) d) ∧ vs.length = i)
    ?_ ?_ _ 0 _ #[] c0 rfl (Nat.zero_le _) ?_ rfl hS
  · rintro i acc s c1 E' hi ⟨H', F', vs, I', hHL, hv, sF, r', dv, st, hf, hvl⟩ hS'
    have ltL : L < s.heap.objs.size := Heap.lt_size hS'
    refine zg_pyNext Z.sep D1 D2 st (by omega) (by omega) fun x1 x2 h2 tk p1 p2 st2 tup sz fr => ⟨_, rfl, ⟨c1, ?_⟩, ?_⟩
    · exact fr L _ (Ne.symm (hne z (by simp))) (Ne.symm (hne TO (by simp))) (Ne.symm (hne i1 (by simp))) (Ne.symm (hne i2 (by simp))) hS'
    · obtain ⟨v1, d1, g1, g2, g3, g4⟩ := zip_at Z.ra Z.da p1
      obtain ⟨v2, d2, k1, k2, k3, k4⟩ := zip_at Z.rb Z.db p2
      generalize hT : s.heap.objs.size = T at *
      have TL : T ≠ L := Nat.ne_of_gt ltL
      have hfT : (upd H' L (.lst vs)) T = none := I'.hok.fresh (Nat.le_of_eq hT)
      have hHT : H' T = none := by
        rw [upd_ne TL] at hfT
        exact hfT
      have new : ObjOk X.prog X.w (upd (upd H' L (.lst vs)) T (.tup [v1, v2])) h2 T (.tup [v1, v2]) := ⟨by show 2 ≤ sizeLine; omega, [x1, x2], .cons g2 (.cons k2 .nil), ⟨_, tup, rfl, _, rfl⟩⟩
      have I2 : Inv X pins σ (upd (upd H' L (.lst vs)) T (.tup [v1, v2])) { s with heap := h2, toks := tk } :=
        I'.turnedNew (t' := tk) (ch := [z, TI, TO, i1, i2]) (fun d o hb w => fr d o (fun w' => hb (by simp [w'])) (fun w' => hb (by simp [w'])) (fun w' => hb (by simp [w'])) (fun w' => hb (by simp [w'])) w) hf (Nat.le_of_eq hT) new
      have eL : h2.get? L = some { cls := .type "list", data := .seq acc.toList.toArray c1 } := by
        have := fr L _ (Ne.symm (hne z (by simp))) (Ne.symm (hne TO (by simp))) (Ne.symm (hne i1 (by simp))) (Ne.symm (hne i2 (by simp))) hS'
        simpa using this
      have hHL2 : (upd (upd H' L (.lst vs)) T (.tup [v1, v2])) L = some (.lst vs) := by rw [upd_ne (Ne.symm TL), upd_same]
      have hzi : i < (zipL xs ys).length := by rw [hzl]; exact hi
      have I3 := I2.lset (t' := tk) (f := fun q => q.push (.ref T)) (its' := acc.toList ++ [.ref T]) (ys := vs ++ [.ref T]) hHL2 eL (by rw [Array.toArray_toList]; apply Array.ext'; simp) (hv.append (Paired.cons (show RelV (V.ref T) (Value.ref T) from rfl) Paired.nil)) (by rw [List.length_append, List.length_singleton]; omega)
      have eH : upd (upd (upd H' L (.lst vs)) T (.tup [v1, v2])) L (.lst (vs ++ [.ref T])) = upd (upd H' T (.tup [v1, v2])) L (.lst (vs ++ [.ref T])) := by
        funext d
        by_cases hd : d = L
        · rw [hd, upd_same, upd_same]
        · rw [upd_ne hd, upd_ne hd]
          by_cases hd2 : d = T
          · rw [hd2, upd_same, upd_same]
          · rw [upd_ne hd2, upd_ne hd2, upd_ne hd]
      rw [eH] at I3
      have fT := r'.fh.free hHT
      refine ⟨upd H' T (.tup [v1, v2]), upd F' T (.tup [v1, v2]), vs ++ [.ref T], I3, by rw [upd_ne (Ne.symm TL)]; exact hHL, ?_, sF.trans (upd_up fT), r'.alloc hHT, ?_, ?_, fun d hd => ⟨?_, (hf d hd).2⟩, by rw [List.length_append, hvl, List.length_singleton]⟩
      · have := hv.append (Paired.cons (show RelV (V.ref T) (Value.ref T) from rfl) Paired.nil)
        simpa using this
      · have et : (zipL xs ys).take (i + 1) = (zipL xs ys).take i ++ [.tuple [d1, d2]] := by
          rw [List.take_add_one, zipL_at g3 k3]
          rfl
        rw [et]
        have up := upd_up (o := .tup [v1, v2]) fT
        exact DpAll.append (DpAll.up up _ _ dv) (.cons (.tup (.inl (.inl upd_same)) (.cons (Dp.up (sF.trans up) _ _ g4) (.cons (Dp.up (sF.trans up) _ _ k4) .nil))) .nil)
      · exact st2.keep D1 D2 fun d hd o ed => (Heap.get?_update_other _ _ (Ne.symm (hne d hd))).trans ed
      · have hd5 := (hf d hd).1
        have hdL : d ≠ L := fun w => by
          rw [w, upd_same] at hd5
          cases hd5
        have hdT : d ≠ T := fun w => by
          have : d < L := lts d (by
            simp only [List.mem_cons, List.mem_nil_iff, or_false] at hd
            simp only [List.mem_cons, List.cons_append, List.nil_append, List.mem_nil_iff, or_false]
            rcases hd with q | q | q | q | q <;> simp [q])
          rw [w] at this
          exact absurd ltL (Nat.not_lt.mpr (Nat.le_of_lt this))
        rw [upd_ne hdL, upd_ne hdT]
        rw [upd_ne hdL] at hd5
        exact hd5
  · rintro acc s c1 E' ⟨H', F', vs, I', hHL, hv, sF, r', dv, st, hf, hvl⟩ hS'
    refine zg_pyEnd Z.sep D1 D2 st (by omega) (by omega) (by omega) fun h2 tk fr => ⟨rfl, ?_⟩
    have I2 : Inv X pins σ (upd H' L (.lst vs)) { s with heap := h2, toks := tk } := I'.turnedL (t' := tk) (ch := [z, TI, TO, i1, i2]) (fun d o hb w => fr d o (fun w' => hb (by simp [w'])) (fun w' => hb (by simp [w'])) (fun w' => hb (by simp [w'])) (fun w' => hb (by simp [w'])) w) hf
    obtain ⟨g1, g2, g3, g4⟩ := r'.fresh0 hHL
    rw [List.take_of_length_le (Nat.le_of_eq hzl)] at dv
    exact ⟨rfl, .ref L, _, I2, rfl, q F' _ L vs (Z.up.trans sF) (r'.junk hHL) g2 g1 g4 upd_same dv⟩
  · refine ⟨H1, F1, [], ?_, hH1L, .nil, Same.refl F1, Z.rel, .nil, Z.st.keep D1 D2 fun d _ o ed => hk d o ed, fun d hd => ⟨?_, (Z.fp d hd).2⟩, rfl⟩
    · exact Z.inv.laid (t' := s1.toks) hk (Nat.le_of_eq hL) ⟨by show 0 ≤ sizeLine; omega, [], c0, .nil, hS⟩
    · have hdL : d ≠ L := hne d (by
        simp only [List.mem_cons, List.mem_nil_iff, or_false] at hd
        simp only [List.mem_cons, List.cons_append, List.nil_append, List.mem_nil_iff, or_false]
        rcases hd with q | q | q | q | q <;> simp [q])
      rw [upd_ne hdL]
      exact (Z.fp d hd).1
theorem de_listZip (hc : X.calm = true) (hg : Gl X "list") (hm : X.mg "list" = none) (hg2 : Gl X "zip") (hm2 : X.mg "zip" = none) (ha : DL X c [e, e2] n)
    (hs : starEach [e, e2] X.env = (false, eval e X.env) :: starEach [e2] X.env := by rfl) (hpl : (backTo pos2 (starEach [e2] X.env)).any (·.1) = false := by rfl)
    (na : starEach [.Call (.Name "zip" p2) [e, e2] [] pos2] X.env = (false, eval (.Call (.Name "zip" p2) [e, e2] [] pos2) X.env) :: starEach [] X.env := by rfl) :
    DE X c (.Call (.Name "list" p) [.Call (.Name "zip" p2) [e, e2] [] pos2] [] pos) (lstOf (zipG n)) :=
  pe_imp (dn_listZip hc hg hm hg2 hm2 ha hs hpl na) fun σ H Q h => tN_tD (fun S d S' e => by
    obtain ⟨xs, _, h, _⟩ := lstOf_some e
    exact ⟨xs, h⟩) h
end
end DL

-- part DL13
set_option Elab.async false
set_option linter.all false
set_option maxRecDepth 100000
set_option maxHeartbeats 1000000
/-! DL13: enumerate over what draws in any way; a turn of enumerate(zip(..)), of enumerate(list or tuple). -/
namespace DL
open PySem PySem.Spec PyProof.Rows L2 RZ
section
variable {prog : Program} {w : World} {A : Around} {E : Value → Shared → Prop} {s : Shared} {e it : Addr}
theorem eg_item {k : Int} {old : Value} {R : Value → Heap → Nat → Prop} {Q : Value → Shared → Prop} (he : IsEnum s.heap e it k old)
    (draw : ∀ (Q1 : Value → Shared → Prop) (E1 : Value → Shared → Prop), (∀ x g1 tk, R x g1 tk → IsEnum g1 e it k old → Q1 x { s with heap := g1, toks := tk }) → wpAny (model prog w) A (Builtin.SmallTypes.nextOf (.ref it)) Q1 E1 s)
    (hQ : ∀ x g1 h' tk, R x g1 tk → IsEnumOut h' e it (k + 1) x g1.objs.size → h'.get? g1.objs.size = some { cls := .type "tuple", data := .seq #[.int k tk, x] } → h'.objs.size = g1.objs.size + 1 →
      (∀ b o, b ≠ e → g1.get? b = some o → h'.get? b = some o) → Q (.ref g1.objs.size) { s with heap := h', toks := tk + 1 }) :
    wpAny (model prog w) A (Builtin.«enumerate.__next__» ⟨[.ref e], []⟩) (fun fin s' => ∃ v, fin = .done (.ret v) ∧ Q v s') E s := by
  obtain ⟨hp, g, d, tk0, os⟩ := s
  show wpAny _ _ (field (.ref e) 2 >>= _) _ _ _
  refine wpAny_bind (wpAny_field he rfl (x := .ref it) rfl ?_)
  refine wpAny_bind (draw _ _ fun x g1 tk hR e1 => ?_)
  show wpAny _ _ (field (.ref e) 3 >>= _) _ _ ⟨g1, g, d, tk, os⟩
  refine wpAny_bind (wpAny_field e1 rfl (x := rawInt k) rfl ?_)
  show wpAny _ _ (field (.ref e) 4 >>= _) _ _ ⟨g1, g, d, tk, os⟩
  refine wpAny_bind (wpAny_field e1 rfl (x := .none) rfl ?_)
  show wpAny _ _ (mkInt k >>= _) _ _ ⟨g1, g, d, tk, os⟩
  refine wpAny_bind (wpAny_mkInt ?_)
  show wpAny _ _ (setField (.ref e) 3 (rawInt (k + 1)) >>= _) _ _ ⟨g1, g, d, tk + 1, os⟩
  refine wpAny_bind (wpAny_setField_rec e1 (by simp) fun g2 e2 k2 => ?_)
  replace k2 : Heap.SameBut e g1 g2 := k2
  replace e2 : IsEnum g2 e it (k + 1) old := e2
  show wpAny _ _ (setField (.ref e) 4 .none >>= _) _ _ ⟨g2, g, d, tk + 1, os⟩
  refine wpAny_bind (wpAny_setField_rec e2 (by simp) fun g3 e3 k3 => ?_)
  replace k3 : Heap.SameBut e g2 g3 := k3
  replace e3 : IsEnum g3 e it (k + 1) old := e3
  show wpAny _ _ (newTuple [.int k tk, x] >>= _) _ _ ⟨g3, g, d, tk + 1, os⟩
  refine wpAny_bind (wpAny_newTuple ?_)
  have e4 : IsEnum (g3.push { cls := .type "tuple", data := .seq #[.int k tk, x] }) e it (k + 1) old := Heap.get?_push_of_some _ e3
  have sz3 : g3.objs.size = g1.objs.size := by rw [k3.1, k2.1]
  have el : e < g1.objs.size := Heap.lt_size e1
  have t4 : (g3.push { cls := .type "tuple", data := .seq #[.int k tk, x] }).get? g1.objs.size = some { cls := .type "tuple", data := .seq #[.int k tk, x] } := by
    rw [← sz3]
    exact Heap.get?_push_size _ rfl
  have z4 : (g3.push { cls := .type "tuple", data := .seq #[.int k tk, x] }).objs.size = g1.objs.size + 1 := by rw [Heap.size_push, sz3]
  have up4 : ∀ b o, b ≠ e → g1.get? b = some o → (g3.push { cls := .type "tuple", data := .seq #[.int k tk, x] }).get? b = some o := fun b o nb hb => Heap.get?_push_of_some _ (k3.extBut b o nb (k2.extBut b o nb hb))
  generalize hg4 : g3.push { cls := .type "tuple", data := .seq #[.int k tk, x] } = g4 at e4 t4 z4 up4
  show wpAny _ _ (Builtin.SmallTypes.ownedTupleIsFree (.ref e) >>= _) _ _ ⟨g4, g, d, tk + 1, os⟩
  rw [sz3]
  refine wpAny_bind ?_
  unfold Builtin.SmallTypes.ownedTupleIsFree
  refine wpAny_bind (wpAny_field e4 rfl (x := .none) rfl (wpAny_pure ?_))
  simp only [if_true]
  refine wpAny_bind (wpAny_rule ?_)
  refine wpAny_bind (wpAny_field e4 rfl (x := old) rfl ?_)
  refine wpAny_bind (wpAny_setField_rec e4 (by simp) fun g5 e5 k5 => ?_)
  replace k5 : Heap.SameBut e g4 g5 := k5
  replace e5 : IsEnum g5 e it (k + 1) x := e5
  show wpAny _ _ (Builtin.SmallTypes.ownedTupleHandOut (.ref e) (.ref g1.objs.size) >>= _) _ _ ⟨g5, g, d, tk + 1, os⟩
  refine wpAny_bind ?_
  unfold Builtin.SmallTypes.ownedTupleHandOut
  refine wpAny_bind (wpAny_setField_rec e5 (by simp) fun g6 e6 k6 => ?_)
  replace k6 : Heap.SameBut e g5 g6 := k6
  replace e6 : IsEnumOut g6 e it (k + 1) x g1.objs.size := e6
  refine wpAny_setField_rec e6 (by simp) fun g7 e7 k7 => ?_
  replace k7 : Heap.SameBut e g6 g7 := k7
  replace e7 : IsEnumOut g7 e it (k + 1) x g1.objs.size := e7
  have ne : g1.objs.size ≠ e := Nat.ne_of_gt el
  refine wpAny_bind (wpAny_letGo (wpAny_pure ⟨_, rfl, hQ x g1 g7 tk hR e7 ?_ ?_ ?_⟩))
  · exact k7.extBut _ _ ne (k6.extBut _ _ ne (k5.extBut _ _ ne t4))
  · rw [k7.1, k6.1, k5.1, z4]
  · exact fun b o nb hb => k7.extBut b o nb (k6.extBut b o nb (k5.extBut b o nb (up4 b o nb hb)))
theorem eg_next {k : Int} {old : Value} {R : Value → Heap → Nat → Prop} {Q : Option Value → Shared → Prop} (he : IsEnum s.heap e it k old)
    (draw : ∀ (Q1 : Value → Shared → Prop) (E1 : Value → Shared → Prop), (∀ x g1 tk, R x g1 tk → IsEnum g1 e it k old → Q1 x { s with heap := g1, toks := tk }) → wpAny (model prog w) A.in1 (Builtin.SmallTypes.nextOf (.ref it)) Q1 E1 s)
    (hQ : ∀ x g1 h' tk, R x g1 tk → IsEnumOut h' e it (k + 1) x g1.objs.size → h'.get? g1.objs.size = some { cls := .type "tuple", data := .seq #[.int k tk, x] } → h'.objs.size = g1.objs.size + 1 →
      (∀ b o, b ≠ e → g1.get? b = some o → h'.get? b = some o) → Q (some (.ref g1.objs.size)) { s with heap := h', toks := tk + 1 }) :
    wpAny (model prog w) A (pyNext (.ref e)) Q E s := by
  have hT : s.TypeIs (.ref e) "enumerate" := ⟨_, he, rfl⟩
  unfold pyNext
  exact wpAny_bind (wpAny_attempt (wpAny_callSpecial?_slot (name := Str.ofString "__next__") hT F.slot_enumerate_next
    (wpAny_call_entry F.slot_enumerate_next hT F.entry_enumerate_next (eg_item he draw fun a b c d f g h i j => wpAny_pure (hQ a b c d f g h i j)) (F.args_enumerate_next_1 _))))
theorem eg_end {k : Int} {old : Value} {Q : Option Value → Shared → Prop} (he : IsEnum s.heap e it k old)
    (stop : ∀ (Q1 : Value → Shared → Prop) (E1 : Value → Shared → Prop), (∀ h' tk x, (∃ o, h'.get? x = some o ∧ o.cls = .type "StopIteration") → Q none { s with heap := h', toks := tk } → E1 (.ref x) { s with heap := h', toks := tk }) → wpAny (model prog w) A.in1 (Builtin.SmallTypes.nextOf (.ref it)) Q1 E1 s) :
    wpAny (model prog w) A (pyNext (.ref e)) Q E s := by
  have hT : s.TypeIs (.ref e) "enumerate" := ⟨_, he, rfl⟩
  unfold pyNext
  refine wpAny_bind (wpAny_attempt (wpAny_callSpecial?_slot (name := Str.ofString "__next__") hT F.slot_enumerate_next
    (wpAny_call_entry F.slot_enumerate_next hT F.entry_enumerate_next ?_ (F.args_enumerate_next_1 _))))
  show wpAny _ _ (field (.ref e) 2 >>= _) _ _ _
  refine wpAny_bind (wpAny_field he rfl (x := .ref it) rfl ?_)
  refine wpAny_bind (stop _ _ fun h' tk x hx hq => ?_)
  obtain ⟨o, ho, hc⟩ := hx
  exact wpAny_bind (wpAny_isInstance (T := "StopIteration") (b := true) ⟨o, ho, hc⟩ isSubtype_stop (wpAny_pure hq))
theorem zg_nextEnd {z TI TO i1 i2 : Addr} {fp1 fp2 : List Addr} {n1 n2 i : Nat} {P1 P2 : Nat → Value → Prop} {St1 St2 : Nat → Heap → Prop} {Q : Value → Shared → Prop} (S : ZipSep2 z TI TO i1 i2 fp1 fp2) (D1 : Draws prog w A.in1 i1 fp1 n1 P1 St1) (D2 : Draws prog w A.in1 i2 fp2 n2 P2 St2)
    (st : ZSt z TI TO i1 i2 St1 St2 i s.heap) (l1 : i ≤ n1) (l2 : i ≤ n2) (hend : i = n1 ∨ i = n2)
    (hE : ∀ h' tk e, (∀ c o, c ≠ z → c ≠ TO → c ≠ i1 → c ≠ i2 → s.heap.get? c = some o → h'.get? c = some o) → (∃ o, h'.get? e = some o ∧ o.cls = .type "StopIteration") → E (.ref e) { s with heap := h', toks := tk }) :
    wpAny (model prog w) A (Builtin.SmallTypes.nextOf (.ref z)) Q E s := by
  have hT := zo_type (s := s) st.zo
  unfold Builtin.SmallTypes.nextOf
  exact wpAny_bind (wpAny_callSpecial?_slot (name := Str.ofString "__next__") hT F.slot_zip_next
    (wpAny_call_entry F.slot_zip_next hT F.entry_zip_next (zg_end S D1 D2 st l1 l2 hend hE) (F.args_zip_next_1 _)))
end
theorem sqX_inj {X : Cx} {pins : List (Addr × Obj)} {σ : L2.St} {H : Hp} {s : Shared} {l : Bool} {a : Addr} {xs ys : List V} (I : Inv X pins σ H s) (h : SqX l X.K H a xs) (h' : SqX l X.K H a ys) : xs = ys := by
  cases l with
  | true => exact I.list_inj h h'
  | false => exact I.tuple_inj h h'
theorem sIt_obj {l : Bool} {it a : Addr} {i : Nat} {h : Heap} (x : sIt l it a i h) : ∃ o, h.get? it = some o ∧ ∀ v, o.data ≠ .cell v := by
  cases l with
  | true =>
    obtain ⟨o, e, _, d⟩ := x
    exact ⟨o, e, fun v q => by rw [d] at q; cases q⟩
  | false =>
    obtain ⟨o, e, _, d⟩ := x
    exact ⟨o, e, fun v q => by rw [d] at q; cases q⟩
/-- enumerate(zip(a, b)): each turn a new pair in a new pair -/
def Itez (la lb : Bool) (K : PySem.W.Frag) (a b : Addr) : It :=
  ⟨fun i H => ∃ (xs ys : List V) (x y : V), SqX la K H a xs ∧ SqX lb K H b ys ∧ xs[i]? = some x ∧ ys[i]? = some y,
   fun i H v H' => ∃ (T T2 : Addr) (x y : V), v = .ref T ∧ H T = none ∧ H T2 = none ∧ T ≠ T2 ∧ H' = upd (upd H T2 (.tup [x, y])) T (.tup [.int (i : Nat), .ref T2]) ∧ (∀ xs, SqX la K H a xs → xs[i]? = some x) ∧ ∀ ys, SqX lb K H b ys → ys[i]? = some y,
   fun i H => ∃ xs ys : List V, SqX la K H a xs ∧ SqX lb K H b ys ∧ i ≤ xs.length ∧ i ≤ ys.length ∧ (i = xs.length ∨ i = ys.length)⟩
abbrev EZn (e z TI TO i1 i2 a b : Addr) (la lb : Bool) (i : Nat) (h : Heap) : Prop := (∃ old, IsEnum h e z ((i : Nat) : Int) old) ∧ ZSt z TI TO i1 i2 (fun i h => sIt la i1 a i h) (fun i h => sIt lb i2 b i h) i h
theorem turn_ez {P : Program} {w : World} {K : PySem.W.Frag} {elts : List Expr} {kk : Nat} {tpos : Pos} {e z TI TO i1 i2 a b : Addr} {la lb : Bool} (S : ZipSep2 z TI TO i1 i2 [i1, a] [i2, b]) (na : a ≠ i1) (nb : b ≠ i2) (ne : ∀ d ∈ [z, TI, TO, i1, i2, a, b], e ≠ d) :
    Turn P w K (.Tuple elts kk tpos) (Itez la lb K a b) [e, z, TI, TO, i1, i2] e (EZn e z TI TO i1 i2 a b la lb) where
  mem := by simp
  obj := fun i h st d hd => by
    obtain ⟨⟨old, he⟩, ⟨⟨v0, b0, hz, _⟩, ti, ⟨a1, a2, tO⟩, s1, s2⟩⟩ := st
    simp only [List.mem_cons, List.mem_nil_iff, or_false] at hd
    rcases hd with q | q | q | q | q | q <;> rw [q]
    · exact ⟨_, he, fun v q => nomatch q⟩
    · exact ⟨_, hz, fun v q => nomatch q⟩
    · exact ⟨_, ti, fun v q => nomatch q⟩
    · exact ⟨_, tO, fun v q => nomatch q⟩
    · exact sIt_obj s1
    · exact sIt_obj s2
  keep := fun i h h' st k => by
    obtain ⟨⟨old, he⟩, ⟨⟨v0, b0, hz, hv⟩, ti, ⟨a1, a2, tO⟩, s1, s2⟩⟩ := st
    exact ⟨⟨old, k e (by simp) _ he⟩, ⟨⟨v0, b0, k z (by simp) _ hz, hv⟩, k TI (by simp) _ ti, ⟨a1, a2, k TO (by simp) _ tO⟩, sIt_keep s1 (k i1 (by simp)), sIt_keep s2 (k i2 (by simp))⟩⟩
  item := by
    intro X hP hw hK hc i pins s σ H E I hf st hg
    subst hP hw hK
    obtain ⟨⟨old, he⟩, st⟩ := st
    obtain ⟨xs, ys, x, y, qx, qy, hx, hy⟩ := hg
    obtain ⟨ia, ra, pa⟩ := inv_side I qx
    obtain ⟨ib, rb, pb⟩ := inv_side I qy
    obtain ⟨u, hu, ru⟩ := ra.get hx
    obtain ⟨u2, hu2, ru2⟩ := rb.get hy
    have hh : X.A.handled = none := I.ok.hd hc
    have D1 := s_draws (prog := X.prog) (w := X.w) (A := X.A.in1.in1) la hh i1 a na ia.toArray
    have D2 := s_draws (prog := X.prog) (w := X.w) (A := X.A.in1.in1) lb hh i2 b nb ib.toArray
    have st' : ZSt z TI TO i1 i2 (ZS la i1 a ia) (ZS lb i2 b ib) i s.heap := ⟨st.zo, st.ti, st.tO, ⟨st.s1, pa⟩, ⟨st.s2, pb⟩⟩
    have ltF : ∀ d ∈ [e, z, TI, TO, i1, i2], d < s.heap.objs.size := fun d hd => by
      obtain ⟨⟨v0, b0, hz, _⟩, ti, ⟨a1, a2, tO⟩, s1, s2⟩ := st
      obtain ⟨_, g1, _⟩ := sIt_obj s1
      obtain ⟨_, g2, _⟩ := sIt_obj s2
      simp only [List.mem_cons, List.mem_nil_iff, or_false] at hd
      rcases hd with q | q | q | q | q | q <;> rw [q]
      · exact Heap.lt_size he
      · exact Heap.lt_size hz
      · exact Heap.lt_size ti
      · exact Heap.lt_size tO
      · exact Heap.lt_size g1
      · exact Heap.lt_size g2
    have li : i < ia.toArray.size := by
      have := (List.getElem?_eq_some_iff.mp hu).1
      simpa using this
    have li2 : i < ib.toArray.size := by
      have := (List.getElem?_eq_some_iff.mp hu2).1
      simpa using this
    refine eg_next (R := fun v g1 tk => v = .ref s.heap.objs.size ∧ ZSt z TI TO i1 i2 (ZS la i1 a ia) (ZS lb i2 b ib) (i + 1) g1 ∧ IsTupOf2 g1 s.heap.objs.size u u2 ∧ g1.objs.size = s.heap.objs.size + 1 ∧ (∀ c o, c ≠ z → c ≠ TO → c ≠ i1 → c ≠ i2 → s.heap.get? c = some o → g1.get? c = some o)) he (fun Q1 E1 hq => ?_) fun v g1 h' tk hR eo tup sz fr => ?_
    · refine zg_nextOf S D1 D2 st' li li2 fun x1 x2 g1 tk p1 p2 st2 tp sz fr => ?_
      have e1 : x1 = u := by
        have p1' : ia[i]? = some x1 := by simpa using p1
        rw [hu] at p1'
        exact (Option.some.inj p1').symm
      have e2 : x2 = u2 := by
        have p2' : ib[i]? = some x2 := by simpa using p2
        rw [hu2] at p2'
        exact (Option.some.inj p2').symm
      subst e1 e2
      exact hq _ g1 tk ⟨rfl, st2, tp, sz, fr⟩ (fr e _ (ne z (by simp)) (ne TO (by simp)) (ne i1 (by simp)) (ne i2 (by simp)) he)
    · obtain ⟨rfl, st2, tp, sz1, fr1⟩ := hR
      refine ⟨_, rfl, wpAny_letOwnedTupleGo_enum (s := { s with heap := h', toks := tk + 1 }) eo fun h'' he' sb => ?_⟩
      have el : e < s.heap.objs.size := Heap.lt_size he
      have T1ne : g1.objs.size ≠ e := by
        rw [sz1]
        exact Nat.ne_of_gt (Nat.lt_succ_of_lt el)
      have T2ne : s.heap.objs.size ≠ e := Nat.ne_of_gt el
      generalize hT2 : s.heap.objs.size = T2 at *
      generalize hT1 : g1.objs.size = T at *
      have TT : T ≠ T2 := by
        rw [sz1]
        exact Nat.succ_ne_self _
      have tupT : h''.get? T = some { cls := .type "tuple", data := .seq #[.int (i : Int) tk, .ref T2] } := (sb.2 _ T1ne).trans tup
      have tupT2 : h''.get? T2 = some { cls := .type "tuple", data := .seq #[u, u2] } := (sb.2 _ T2ne).trans (fr _ _ T2ne tp)
      have f2 : H T2 = none := I.hok.fresh (Nat.le_of_eq hT2)
      have f1 : H T = none := I.hok.fresh (by rw [hT2, sz1]; exact Nat.le_succ _)
      have keep1 : ∀ d o, d ∉ [e, z, TI, TO, i1, i2] → s.heap.get? d = some o → g1.get? d = some o := fun d o nd ed =>
        fr1 d o (fun q => nd (by simp [q])) (fun q => nd (by simp [q])) (fun q => nd (by simp [q])) (fun q => nd (by simp [q])) ed
      have new2 : ObjOk X.prog X.w (upd H T2 (.tup [x, y])) g1 T2 (.tup [x, y]) := ⟨by show 2 ≤ sizeLine; decide, [u, u2], .cons ru (.cons ru2 .nil), ⟨_, tp, rfl, _, rfl⟩⟩
      have I1 : Inv X pins σ (upd H T2 (.tup [x, y])) { s with heap := g1, toks := tk } := I.turnedNew (t' := tk) (ch := [e, z, TI, TO, i1, i2]) keep1 hf (Nat.le_of_eq hT2) new2
      have hf1 : ∀ d ∈ [e, z, TI, TO, i1, i2], FpOk X pins (upd H T2 (.tup [x, y])) d := fun d hd => by
        refine ⟨?_, (hf d hd).2⟩
        rw [upd_ne (Nat.ne_of_lt (ltF d hd))]
        exact (hf d hd).1
      have keep2 : ∀ d o, d ∉ [e, z, TI, TO, i1, i2] → g1.get? d = some o → h''.get? d = some o := fun d o nd ed => by
        have n1 : d ≠ e := fun q => nd (by simp [q])
        exact (sb.2 _ n1).trans (fr _ _ n1 ed)
      have new1 : ObjOk X.prog X.w (upd (upd H T2 (.tup [x, y])) T (.tup [.int (i : Nat), .ref T2])) h'' T (.tup [.int (i : Nat), .ref T2]) :=
        ⟨by show 2 ≤ sizeLine; decide, [.int (i : Int) tk, .ref T2], .cons ⟨_, rfl⟩ (.cons (show RelV (V.ref T2) (Value.ref T2) from rfl) .nil), ⟨_, tupT, rfl, _, rfl⟩⟩
      refine ⟨.ref T, upd (upd H T2 (.tup [x, y])) T (.tup [.int (i : Nat), .ref T2]), ?_, rfl, ⟨T, T2, x, y, rfl, f1, f2, TT, rfl, fun l hl => by rw [sqX_inj I hl qx]; exact hx, fun l hl => by rw [sqX_inj I hl qy]; exact hy⟩, ⟨⟨.ref T2, ?_⟩, ?_⟩, fun d hd => ?_⟩
      · exact I1.turnedNew (t' := tk + 1) (ch := [e, z, TI, TO, i1, i2]) keep2 hf1 (Nat.le_of_eq hT1) new1
      · have e1 : ((i + 1 : Nat) : Int) = (i : Int) + 1 := by omega
        rw [e1]
        exact he'
      · have q2 : ZSt z TI TO i1 i2 (fun i h => sIt la i1 a i h) (fun i h => sIt lb i2 b i h) (i + 1) g1 := ⟨st2.zo, st2.ti, st2.tO, st2.s1.1, st2.s2.1⟩
        obtain ⟨⟨v0, b0, hz, hv⟩, ti, ⟨a1, a2, tO⟩, s1, s2⟩ := q2
        have k : ∀ d ∈ [z, TI, TO, i1, i2], ∀ o, g1.get? d = some o → h''.get? d = some o := fun d hd o ed => by
          have n1 : d ≠ e := Ne.symm (ne d (by
            simp only [List.mem_cons, List.mem_nil_iff, or_false] at hd ⊢
            rcases hd with q | q | q | q | q <;> simp [q]))
          exact (sb.2 _ n1).trans (fr _ _ n1 ed)
        exact ⟨⟨v0, b0, k z (by simp) _ hz, hv⟩, k TI (by simp) _ ti, ⟨a1, a2, k TO (by simp) _ tO⟩, sIt_keep s1 (k i1 (by simp)), sIt_keep s2 (k i2 (by simp))⟩
      · have hlt := ltF d hd
        have n1 : d ≠ T := Nat.ne_of_lt (by
          rw [sz1]
          exact Nat.lt_succ_of_lt hlt)
        rw [upd_ne n1]
        exact (hf1 d hd).1
  done := by
    intro X hP hw hK hc i pins s σ H E I hf st hg
    subst hP hw hK
    obtain ⟨⟨old, he⟩, st⟩ := st
    obtain ⟨xs, ys, qx, qy, hend⟩ := hg
    obtain ⟨ia, ra, pa⟩ := inv_side I qx
    obtain ⟨ib, rb, pb⟩ := inv_side I qy
    have hh : X.A.handled = none := I.ok.hd hc
    have st' : ZSt z TI TO i1 i2 (ZS la i1 a ia) (ZS lb i2 b ib) i s.heap := ⟨st.zo, st.ti, st.tO, ⟨st.s1, pa⟩, ⟨st.s2, pb⟩⟩
    have l1 : xs.length = ia.toArray.size := by simpa using ra.length
    have l2 : ys.length = ib.toArray.size := by simpa using rb.length
    obtain ⟨h1, h2, h3⟩ := hend
    have D1 := s_draws (prog := X.prog) (w := X.w) (A := X.A.in1.in1) la hh i1 a na ia.toArray
    have D2 := s_draws (prog := X.prog) (w := X.w) (A := X.A.in1.in1) lb hh i2 b nb ib.toArray
    refine eg_end he fun Q1 E1 hq => zg_nextEnd S D1 D2 st' (by omega) (by omega) (by omega) fun h' tk x fr hx => hq h' tk x hx ⟨rfl, ?_⟩
    exact I.turnedL (t' := tk) (ch := [e, z, TI, TO, i1, i2]) (fun d o nd ed => fr d o (fun q => nd (by simp [q])) (fun q => nd (by simp [q])) (fun q => nd (by simp [q])) (fun q => nd (by simp [q])) ed) hf
  self := fun A i s Q E st h => let ⟨⟨_, he⟩, _⟩ := st; wpAny_pyIter_enum he h
end DL

-- part DL14
set_option Elab.async false
set_option linter.all false
set_option maxRecDepth 100000
set_option maxHeartbeats 1000000
/-! DL14: pairs = enumerate(zip(..)); a comprehension over pairs. -/
namespace DL
open PySem PySem.Spec PyProof.Rows L2 RZ
/-! ### things tracked for a while as they stand -/
def extH (H : Hp) : List (Addr × Obj) → Hp
  | [] => H
  | p :: ps => upd (extH H ps) p.1 (.ext fun h => h.get? p.1 = some p.2)
theorem extH_out {H : Hp} {b : Addr} : ∀ {ps : List (Addr × Obj)}, b ∉ ps.map (·.1) → extH H ps b = H b
  | [], _ => rfl
  | p :: ps, h => by
    simp only [List.map_cons, List.mem_cons, not_or] at h
    show upd (extH H ps) p.1 _ b = H b
    rw [upd_ne h.1]
    exact extH_out h.2
theorem extH_in {H : Hp} {b : Addr} : ∀ {ps : List (Addr × Obj)}, b ∈ ps.map (·.1) → ∃ o, (b, o) ∈ ps ∧ extH H ps b = some (.ext fun h => h.get? b = some o)
  | p :: ps, h => by
    by_cases hb : b = p.1
    · subst hb
      exact ⟨p.2, by simp, upd_same⟩
    · simp only [List.map_cons, List.mem_cons] at h
      obtain ⟨o, h1, h2⟩ := extH_in (h.resolve_left hb)
      refine ⟨o, List.mem_cons_of_mem _ h1, ?_⟩
      show upd (extH H ps) p.1 _ b = _
      rw [upd_ne hb]
      exact h2
theorem extH_at {H : Hp} (q : Addr × Obj) : ∀ (ps : List (Addr × Obj)), (ps.map (·.1)).Nodup → q ∈ ps → extH H ps q.1 = some (.ext fun h => h.get? q.1 = some q.2)
  | [], _, hq => absurd hq List.not_mem_nil
  | p :: ps, nd, hq => by
    rw [List.map_cons, List.nodup_cons] at nd
    by_cases e : q = p
    · rw [e]
      exact upd_same
    · have hq' : q ∈ ps := (List.mem_cons.mp hq).resolve_left e
      have ne : q.1 ≠ p.1 := fun w => nd.1 (w ▸ List.mem_map_of_mem hq')
      have := extH_at (H := H) q ps nd.2 hq'
      show upd (extH H ps) p.1 _ q.1 = _
      rw [upd_ne ne]
      exact this
section
variable {X : Cx} {pins : List (Addr × Obj)} {σ : L2.St} {H : Hp} {s : Shared} {ps : List (Addr × Obj)} {h' : Heap}
theorem inv_track {t' : Nat} (I : Inv X pins σ H s) (k : ∀ b o, s.heap.get? b = some o → h'.get? b = some o) (hp : ∀ p ∈ ps, s.heap.objs.size ≤ p.1 ∧ h'.get? p.1 = some p.2) : Inv X pins σ (extH H ps) { s with heap := h', toks := t' } := by
  have out : ∀ b, b < s.heap.objs.size → extH H ps b = H b := fun b hb => extH_out fun hm => by
    obtain ⟨p, h1, h2⟩ := List.mem_map.mp hm
    have := (hp p h1).1
    rw [h2] at this
    exact absurd hb (Nat.not_lt.mpr this)
  have old : ∀ b u, H b = some u → b < s.heap.objs.size := fun b u e => by
    by_cases hb : b < s.heap.objs.size
    · exact hb
    · have := I.hok.fresh (Nat.le_of_not_lt hb)
      rw [e] at this
      cases this
  refine I.un (t' := t') ⟨fun b o e _ _ _ => k b o e, fun b o e _ _ _ => ⟨o.slots, k b o e⟩, fun b o e n _ => by rw [out b (Heap.lt_size e)]; exact n, fun b o e _ => ⟨o, k b o e⟩,
    fun b xs e => by rw [out b (old b _ e)]; exact e, fun b o u e => by rw [out b (old b _ e)]; exact e, fun b qs e => ⟨#[], by rw [out b (old b _ e), e]; simp⟩⟩ fun b u e => ?_
  by_cases hb : b ∈ ps.map (·.1)
  · obtain ⟨o, h1, h2⟩ := extH_in (H := H) hb
    rw [h2] at e
    cases e
    exact ⟨(hp _ h1).2, ⟨o, (hp _ h1).2⟩, fun h1 h2 q kk => kk _ q⟩
  · rw [extH_out hb] at e
    exact (I.hok b u e).stay (fun c v _ q => k c v q) (fun c q => by rw [out c (old c _ q)]; exact q) fun c xs q => by rw [out c (old c _ q)]; exact q
theorem inv_untrack (I : Inv X pins σ (extH H ps) s) (hn : ∀ p ∈ ps, H p.1 = none) : Inv X pins σ H s := by
  have eq_ : ∀ b, b ∉ ps.map (·.1) → H b = extH H ps b := fun b hb => (extH_out hb).symm
  have here : ∀ b u, H b = some u → b ∉ ps.map (·.1) := fun b u e hm => by
    obtain ⟨p, h1, h2⟩ := List.mem_map.mp hm
    have := hn p h1
    rw [h2, e] at this
    cases this
  have other : ∀ b u, extH H ps b = some u → (∀ φ, u ≠ .ext φ) → H b = some u := fun b u e n => by
    by_cases hb : b ∈ ps.map (·.1)
    · obtain ⟨o, _, h2⟩ := extH_in (H := H) hb
      rw [h2] at e
      exact absurd (Option.some.inj e).symm (n _)
    · rw [eq_ b hb]
      exact e
  refine I.un (t' := s.toks) ⟨fun b o e _ _ _ => e, fun b o e _ _ _ => ⟨o.slots, e⟩, fun b o _ z _ => ?_, fun b o e _ => ⟨o, e⟩, fun b xs e => other b _ e fun _ w => (nomatch w), fun b o u e => other b _ e fun _ w => (nomatch w),
    fun b qs e => ⟨#[], by rw [other b _ e fun _ w => (nomatch w)]; simp⟩⟩ fun b u e => ?_
  · by_cases hb : b ∈ ps.map (·.1)
    · obtain ⟨o, _, h2⟩ := extH_in (H := H) hb
      rw [h2] at z
      cases z
    · rw [eq_ b hb]
      exact z
  · have hb := here b u e
    have e' : extH H ps b = some u := by rw [← eq_ b hb]; exact e
    exact (I.hok b u e').stay (fun _ _ _ q => q) (fun c q => other c _ q fun _ w => (nomatch w)) fun c xs q => other c _ q fun _ w => (nomatch w)
theorem track_fp (I : Inv X pins σ (extH H ps) s) {b : Addr} (hb : b ∈ ps.map (·.1)) (hn : H b = none) (hz : X.s_0.heap.objs.size ≤ b) : FpOk X pins H b := by
  obtain ⟨o0, _, h⟩ := extH_in (H := H) hb
  refine ⟨hn, fun z => ?_, fun z => ?_, .inr hz, fun x c e z => ?_, fun p hp z => ?_⟩
  · rw [z, I.free] at h
    cases h
  · obtain ⟨_, o, ho, _⟩ := I.ok.funs.mem z
    exact absurd (Nat.lt_of_lt_of_le (Heap.lt_size ho) hz) (Nat.lt_irrefl _)
  · have q := I.freeC x c e
    rw [z, h] at q
    cases q
  · have q := (I.pin p hp).2.1
    rw [z, h] at q
    cases q
end

/-! ### enumerate(z), z a zip -/
theorem meets_enum_zip (z TI TO : Addr) : Meets (Builtin.«enumerate.__new__» ⟨[.type "enumerate", .ref z], []⟩) (fun _ R s => ZO s.heap z TI TO ∧
      R (.ok (.ret (.ref s.heap.objs.size))) { s with heap := s.heap.push { cls := .type "enumerate", data := .fields #[.none, .bool false, .ref z, rawInt 0, .none, .none] } }) :=
  .of_wp fun prog w A R s h => by
    obtain ⟨hp, g, d, tk, os⟩ := s
    obtain ⟨hz, h⟩ := h
    have hsub := sub_enumerate
    have q1 : ∀ {A' : Around} {E : Value → Shared → Prop} {Q : Value → Shared → Prop}, Q (.ref z) ⟨hp, g, d, tk, os⟩ → wpAny (model prog w) A' (pyIter (.ref z)) Q E ⟨hp, g, d, tk, os⟩ :=
      fun q => zo_iter (s := ⟨hp, g, d, tk, os⟩) hz q
    wp_walk using q1
    refine wpAny_stack_any fun st => wpAny_pure ?_
    split
    · rename_i c _ _ _ _ _
      cases (c == Value.type "enumerate")
      · wp_walk using q1
        exact ⟨_, rfl, h⟩
      · wp_walk using q1
        exact ⟨_, rfl, h⟩
    · wp_walk using q1
      exact ⟨_, rfl, h⟩
theorem call_enum_zip {prog : Program} {w : World} {A : Around} {E : Value → Shared → Prop} {s : Shared} {z TI TO : Addr} {Q : Value → Shared → Prop} (hz : ZO s.heap z TI TO)
    (h : ∀ h', IsEnum h' s.heap.objs.size z 0 .none → (∀ b o, s.heap.get? b = some o → h'.get? b = some o) → Q (.ref s.heap.objs.size) { s with heap := h' }) :
    wpAny (model prog w) A (call (.type "enumerate") [.ref z]) Q E s := by
  refine callType_new F.called_enumerate (by decide) (F.typeCall_enumerate_1 _) (F.newCall_enumerate_1 _) (fun obj => F.args_object_init_2 obj _) F.entry_enumerate_new (meets_enum_zip z TI TO) ⟨hz, ?_⟩
  have he : IsEnum (s.heap.push { cls := .type "enumerate", data := .fields #[.none, .bool false, .ref z, rawInt 0, .none, .none] }) s.heap.objs.size z 0 .none := Heap.get?_push_size _ rfl
  exact ⟨⟨_, he, rfl⟩, h _ he fun b o e => Heap.get?_push_of_some _ e⟩
end DL

-- part DL15
set_option Elab.async false
set_option linter.all false
set_option maxRecDepth 100000
set_option maxHeartbeats 1000000
/-! DL15: name = enumerate(zip(..)); return [.. for .. in name ..]. -/
namespace DL
open PySem PySem.Spec PyProof.Rows L2 RZ
abbrev EObj (z : Addr) : Obj := { cls := .type "enumerate", dict := none, data := .fields #[.none, .bool false, .ref z, rawInt 0, .none, .none], slots := #[] }
abbrev POf (u v : Value) : Obj := { cls := .type "tuple", data := .seq #[u, v] }
abbrev ezO (e z TI TO i1 i2 a b : Addr) (la lb : Bool) : List (Addr × Obj) := [(e, EObj z), (z, ZObj .none false TI TO), (TI, POf (.ref i1) (.ref i2)), (TO, POf .none .none), (i1, sOb la a), (i2, sOb lb b)]
structure EzOk (e z TI TO i1 i2 a b : Addr) (n0 : Nat) (H : Hp) : Prop where
  sep : ZipSep2 z TI TO i1 i2 [i1, a] [i2, b]
  na : a ≠ i1
  nb : b ≠ i2
  ne : ∀ d ∈ [z, TI, TO, i1, i2, a, b], e ≠ d
  nd : [e, z, TI, TO, i1, i2].Nodup
  yg : ∀ d ∈ [e, z, TI, TO, i1, i2], n0 ≤ d ∧ H d = none
def tEz (K : PySem.W.Frag) (c : Fr) (n0 : Nat) (n : MV (List D)) : TE := fun σ H Q => ∃ F S ds S', Rel K c F S σ H ∧ zipG n S = some (ds, S') ∧ ∀ xs ys F1 H1 e z TI TO i1 i2 a b la lb va vb, ds = zipL xs ys → Same F F1 → Rel K c F1 S' σ H1 →
  SqX la K F1 a va → SqX lb K F1 b vb → DpAll K F1 va xs → DpAll K F1 vb ys → EzOk e z TI TO i1 i2 a b n0 H1 → Q (.ref e) (extH H1 (ezO e z TI TO i1 i2 a b la lb))
section
variable {X : Cx} {c : Fr} {e e2 : Expr} {n : MV (List D)} {pos p p2 pos2 : Pos}
theorem pe_ez (hg : Gl X "enumerate") (hm : X.mg "enumerate" = none) (hg2 : Gl X "zip") (hm2 : X.mg "zip" = none) (ha : DL X c [e, e2] n)
    (hs : starEach [e, e2] X.env = (false, eval e X.env) :: starEach [e2] X.env := by rfl) (hpl : (backTo pos2 (starEach [e2] X.env)).any (·.1) = false := by rfl)
    (na : starEach [.Call (.Name "zip" p2) [e, e2] [] pos2] X.env = (false, eval (.Call (.Name "zip" p2) [e, e2] [] pos2) X.env) :: starEach [] X.env := by rfl) :
    PE X (.Call (.Name "enumerate" p) [.Call (.Name "zip" p2) [e, e2] [] pos2] [] pos) (tEz X.K c X.s_0.heap.objs.size n) := by
  refine ⟨fun pins s σ H Q I h => ?_⟩
  obtain ⟨F, S, ds, S', r, hz, q⟩ := h
  refine Call_ (ld_blt I hg hm boot_enumerate (PyProof.Rows.callWith_type1 (args_cons (zip_eval I r hz hg2 hm2 ha hs hpl fun xs ys z TI TO i1 i2 a b la lb ia ib va vb F1 H1 s1 ed Z => args_nil ?_) na) na))
  refine call_enum_zip Z.st.zo fun h2 he hk2 => ?_
  obtain ⟨s0, h0, rfl, I0, hk0, hge, hal, hbl⟩ := Z.pre
  have zl : z < h0.objs.size := Heap.lt_size Z.obz
  have lt5 : ∀ d ∈ [z, TI, TO, i1, i2], d < h0.objs.size := fun d hd => by
    simp only [List.mem_cons, List.mem_nil_iff, or_false] at hd
    rcases hd with w | w | w | w | w <;> rw [w]
    · exact zl
    · exact Heap.lt_size Z.st.ti
    · exact Heap.lt_size Z.obt
    · exact Heap.lt_size Z.ob1
    · exact Heap.lt_size Z.ob2
  have s0l : s0.heap.objs.size ≤ h0.objs.size := Nat.le_of_lt (Nat.lt_of_le_of_lt (hge z (by simp)) zl)
  have ok : EzOk h0.objs.size z TI TO i1 i2 a b X.s_0.heap.objs.size H1 := by
    refine ⟨Z.sep, Z.na, Z.nb, fun d hd w => ?_, ?_, fun d hd => ?_⟩
    · have : d < h0.objs.size := by
        simp only [List.mem_cons, List.mem_nil_iff, or_false] at hd
        rcases hd with q | q | q | q | q | q | q
        · exact lt5 d (by simp [q])
        · exact lt5 d (by simp [q])
        · exact lt5 d (by simp [q])
        · exact lt5 d (by simp [q])
        · exact lt5 d (by simp [q])
        · rw [q]
          exact Nat.lt_of_lt_of_le hal s0l
        · rw [q]
          exact Nat.lt_of_lt_of_le hbl s0l
      rw [← w] at this
      exact Nat.lt_irrefl _ this
    · rw [List.nodup_cons]
      exact ⟨fun hm => Nat.lt_irrefl _ (lt5 _ hm), Z.nd⟩
    · rcases List.mem_cons.mp hd with w | hd
      · rw [w]
        exact ⟨Nat.le_trans I0.sz s0l, I0.hok.fresh s0l⟩
      · exact ⟨Nat.le_trans I0.sz (hge d hd), (Z.fp d hd).1⟩
  have tr : Inv X pins σ (extH H1 (ezO h0.objs.size z TI TO i1 i2 a b la lb)) { s0 with heap := h2 } := inv_track (t' := s0.toks) I0 (fun b o w => hk2 b o (hk0 b o w)) fun pr hp => by
    simp only [List.mem_cons, List.mem_nil_iff, or_false] at hp
    rcases hp with w | w | w | w | w | w <;> rw [w]
    · exact ⟨s0l, he⟩
    · exact ⟨hge z (by simp), hk2 _ _ Z.obz⟩
    · exact ⟨hge TI (by simp), hk2 _ _ Z.st.ti⟩
    · exact ⟨hge TO (by simp), hk2 _ _ Z.obt⟩
    · exact ⟨hge i1 (by simp), hk2 _ _ Z.ob1⟩
    · exact ⟨hge i2 (by simp), hk2 _ _ Z.ob2⟩
  exact ⟨.ref h0.objs.size, _, tr, rfl, q xs ys F1 H1 _ _ _ _ _ _ _ _ la lb va vb ed Z.up Z.rel Z.qa Z.qb Z.da Z.db ok⟩
end
def iEz (K : PySem.W.Frag) (n0 : Nat) (j : Nat) : TI := fun σ H R => ∃ (e z TI TO i1 i2 a b : Addr) (la lb : Bool) (H0 : Hp), σ[j]? = some (some (.ref e)) ∧ H = extH H0 (ezO e z TI TO i1 i2 a b la lb) ∧ EzOk e z TI TO i1 i2 a b n0 H0 ∧ R (Itez la lb K a b) H0
section
variable {X : Cx} {elts : List Expr} {kk : Nat} {tpos : Pos} {j : Nat} {x : Str} {p : Pos}
theorem pi_ez (hN : X.N[j]? = some x) (hv : Vis X.env.scope x) (hd : (x == ("__debug__" : Str)) = false := by decide) (hcd : (x == ("__classdict__" : Str)) = false := by decide) : PI X (.Tuple elts kk tpos) (.Name x p) (iEz X.K X.s_0.heap.objs.size j) := by
  refine ⟨fun pins s σ H R I h => ?_⟩
  obtain ⟨e, z, TI, TO, i1, i2, a, b, la, lb, H0, hs, hH, ok, q⟩ := h
  subst hH
  refine thn ((pe_var (pos := p) (i := j) hN hv hd hcd).run pins s σ _ (fun v H1 => v = .ref e ∧ H1 = extH H0 (ezO e z TI TO i1 i2 a b la lb)) I ⟨.ref e, hs, rfl, rfl⟩) fun u s1 ⟨v, H1, I1, r1, ev, eH⟩ => ?_
  subst ev
  rw [eH] at I1
  cases r1
  have at_ : ∀ q ∈ ezO e z TI TO i1 i2 a b la lb, s1.heap.get? q.1 = some q.2 := fun q hq => (I1.hok q.1 _ (extH_at (H := H0) q _ ok.nd hq)).1
  have he : IsEnum s1.heap e z ((0 : Nat) : Int) .none := at_ (e, EObj z) (by simp)
  have keysMem : ∀ d ∈ [e, z, TI, TO, i1, i2], d ∈ (ezO e z TI TO i1 i2 a b la lb).map (·.1) := fun d hd => hd
  refine wpAny_pyIter_enum he ?_
  refine ⟨e, [e, z, TI, TO, i1, i2], _, _, H0, rfl, inv_untrack I1 fun pr hp => (ok.yg pr.1 (by
    have : pr.1 ∈ (ezO e z TI TO i1 i2 a b la lb).map (·.1) := List.mem_map_of_mem hp
    exact this)).2, turn_ez (la := la) (lb := lb) ok.sep ok.na ok.nb ok.ne, ⟨⟨_, he⟩, ⟨⟨_, _, at_ (z, ZObj .none false TI TO) (by simp), .inl rfl⟩, at_ (TI, POf (.ref i1) (.ref i2)) (by simp), ⟨_, _, at_ (TO, POf .none .none) (by simp)⟩, sIt_new (at_ (i1, sOb la a) (by simp)), sIt_new (at_ (i2, sOb lb b) (by simp))⟩⟩, fun d hd => ?_, q⟩
  exact track_fp I1 (keysMem d hd) (ok.yg d hd).2 (ok.yg d hd).1
end

/-! ### the two statements -/
theorem walk_ez {K : PySem.W.Frag} {la lb : Bool} {a b : Addr} {xs ys : List V} {n : Nat} (hn : n = min xs.length ys.length) : L2.Walk (Itez la lb K a b) n (fun H => SqX la K H a xs ∧ SqX lb K H b ys)
    (fun i H v H' => ∃ (T T2 : Addr) (x y : V), v = .ref T ∧ H T = none ∧ H T2 = none ∧ T ≠ T2 ∧ H' = upd (upd H T2 (.tup [x, y])) T (.tup [.int (i : Nat), .ref T2]) ∧ xs[i]? = some x ∧ ys[i]? = some y) := by
  subst hn
  refine ⟨fun i _ hi q => ?_, fun _ q => ⟨xs, ys, q.1, q.2, by omega, by omega, by omega⟩, fun i H v H' _ q y => ?_⟩
  · have h1 : i < xs.length := by omega
    have h2 : i < ys.length := by omega
    exact ⟨xs, ys, xs[i], ys[i], q.1, q.2, by simp [h1], by simp [h2]⟩
  · obtain ⟨T, T2, x, z, h1, h2, h3, h4, h5, h6, h7⟩ := y
    exact ⟨T, T2, x, z, h1, h2, h3, h4, h5, h6 xs q.1, h7 ys q.2⟩
theorem yEz_ok {K : PySem.W.Frag} {F : Hp} {va vb : List V} {xs ys : List D} (h1 : DpAll K F va xs) (h2 : DpAll K F vb ys) : YOk K (enumL (zipL xs ys)) F
    (fun i H v H' => ∃ (T T2 : Addr) (x y : V), v = .ref T ∧ H T = none ∧ H T2 = none ∧ T ≠ T2 ∧ H' = upd (upd H T2 (.tup [x, y])) T (.tup [.int (i : Nat), .ref T2]) ∧ va[i]? = some x ∧ vb[i]? = some y) := fun i c F1 S1 σ1 H1 v H2 s r y => by
  obtain ⟨T, T2, x, w, rfl, hT, hT2, ne, rfl, e1, e2⟩ := y
  obtain ⟨d, g1, g2⟩ := h1.getV e1
  obtain ⟨d2, g3, g4⟩ := h2.getV e2
  have f2 := r.fh.free hT2
  have f1 := r.fh.free hT
  have up2 := upd_up (o := .tup [x, w]) f2
  have f1' : (upd F1 T2 (.tup [x, w])) T = none := by rw [upd_ne ne]; exact f1
  have hT' : (upd H1 T2 (.tup [x, w])) T = none := by rw [upd_ne ne]; exact hT
  have up1 := upd_up (o := .tup [.int (i : Nat), .ref T2]) f1'
  refine ⟨upd (upd F1 T2 (.tup [x, w])) T (.tup [.int (i : Nat), .ref T2]), .tuple [.int i, .tuple [d, d2]], up2.trans up1, (r.alloc hT2).alloc hT', enumL_get (zipL_at g1 g3), .tup (.inl (.inl upd_same)) ?_⟩
  have in2 : (upd (upd F1 T2 (.tup [x, w])) T (.tup [.int (i : Nat), .ref T2])) T2 = some (.tup [x, w]) := by rw [upd_ne (Ne.symm ne), upd_same]
  have up := s.trans (up2.trans up1)
  exact .cons (.int _) (.cons (.tup (.inl (.inl in2)) (.cons (Dp.up up _ _ g2) (.cons (Dp.up up _ _ g4) .nil))) .nil)
/-- a frame that knows more -/
def Fr.know (c : Fr) (F : Hp) : Fr := { c with F0 := F }
theorem Rel.know {K : PySem.W.Frag} {c : Fr} {F : Hp} {S : Sta} {σ : L2.St} {H : Hp} (r : Rel K c F S σ H) : Rel K (c.know F) F S σ H :=
  ⟨Same.refl F, r.fh, fun a x e => .inl e, r.kp, r.hs, r.hc, r.sr, r.fs, r.fc, r.len, r.sl, r.sep⟩
theorem Rel.unknow {K : PySem.W.Frag} {c : Fr} {F F1 : Hp} {S S1 : Sta} {σ σ1 : L2.St} {H H1 : Hp} (r0 : Rel K c F S σ H) (r : Rel K (c.know F) F1 S1 σ1 H1) : Rel K c F1 S1 σ1 H1 :=
  ⟨r0.f0.trans r.f0, r.fh, fun a x e => (r.fr a x e).elim (fun w => r0.fr a x w) .inr, r.kp, r.hs, r.hc, r.sr, r.fs, r.fc, r.len, r.sl, r.sep⟩
/-- enumerate(zip(..)), the name at j forgotten -/
def enumZI (j : Nat) (n : MV (List D)) : MV (List D) := bnd (zipG n) fun ds => fun S => if j < S.env.length then some (enumL ds, { S with env := S.env.set j .un }) else none
open Classical in
noncomputable def onlyAtS (S0 : Sta) (r : List D × Sta) : MV (List D) := fun S => if S = S0 then some r else none
theorem dss_ez {X : Cx} {c : Fr} {e e2 : Expr} {n : MV (List D)} {pos p p2 pos2 p3 pos3 pos4 pos5 px : Pos} {x : Str} {elts : List Expr} {kk : Nat} {tpos : Pos} {elt : Expr} {ifs : List Expr} {scope : Scope} {own : List (Str × Nat)} {pt : Pat} {t : MV Bool} {m : MV D} (j : Nat)
    (hc : X.calm = true) (hN : X.N.Nodup) (hg : Gl X "enumerate") (hm : X.mg "enumerate" = none) (hg2 : Gl X "zip") (hm2 : X.mg "zip" = none) (ha : DL X c [e, e2] n)
    (ok : BlkOk X.N X.env.scope scope own) (hvs : ∀ j ∈ pt.vars, j ∈ own.map (·.2))
    (hgt : ∀ (s : Shared) (H : Hp) (C : Addr) (cl : List (Str × Addr)) (fp : List Addr), DG (X.blk s H scope (compEnvC scope cl C X.env) fp) (.Tuple elts kk tpos) pt) (ht : ∀ (s : Shared) (H : Hp) (C : Addr) (cl : List (Str × Addr)) (fp : List Addr), DTs (X.blk s H scope (compEnvC scope cl C X.env) fp) ifs t)
    (hm3 : ∀ (s : Shared) (H : Hp) (C : Addr) (cl : List (Str × Addr)) (fp : List Addr) (c' : Fr), DE (X.blk s H scope (compEnvC scope cl C X.env) fp) c' elt m)
    (hj : X.N[j]? = some x := by rfl) (hv : Vis X.env.scope x := by first | exact Or.inl rfl | exact Or.inr (Or.inl rfl) | exact Or.inr (Or.inr rfl)) (hl : X.env.scope.names.lookup x = some .local := by rfl)
    (hsw : swapsWith (.Call (.Name "enumerate" p) [.Call (.Name "zip" p2) [e, e2] [] pos2] [] pos) (some (.Name x px)) pos3.line X.env = pure false := by rfl) (hd : (x == ("__debug__" : Str)) = false := by decide) (hcd : (x == ("__classdict__" : Str)) = false := by decide)
    (hs : starEach [e, e2] X.env = (false, eval e X.env) :: starEach [e2] X.env := by rfl) (hpl : (backTo pos2 (starEach [e2] X.env)).any (·.1) = false := by rfl)
    (na : starEach [.Call (.Name "zip" p2) [e, e2] [] pos2] X.env = (false, eval (.Call (.Name "zip" p2) [e, e2] [] pos2) X.env) :: starEach [] X.env := by rfl) (hfs : ∀ y, foldedSetIterable (.Name x p3) X.env y = pure y := by intro _; rfl) :
    DSs X c [.Assign [.Name x px] (.Call (.Name "enumerate" p) [.Call (.Name "zip" p2) [e, e2] [] pos2] [] pos) pos3, .Return (some (.ListComp elt [⟨.Tuple elts kk tpos, .Name x p3, ifs, 0⟩] scope pos4)) pos5]
      (retS (compD (own.map (·.2)) (enumZI j n) pt t m)) := by
  refine pss_imp (pss_cons (ps_set (i := j) hN hj (.inl hl) (pe_ez hg hm hg2 hm2 ha hs hpl na) hsw (.inr hl)) (pss_one (ps_ret (pe_lc (g := gP X.K pt) (tt := tTx X.K t) (te := tDx X.K m) hc hN (pi_ez hj hv hd hcd) ok hgt ht (fun s H C cl fp => pe_ex (hm3 s H C cl fp)) hfs)))) fun D' σ H h => ?_
  obtain ⟨F, S, r, o, S', e1, q⟩ := h
  obtain ⟨d, S2, e2', e3⟩ := bnd_some e1
  cases e3
  obtain ⟨ds, S3, e4, e5⟩ := bnd_some e2'
  obtain ⟨zs, S4, e6, e7⟩ := bnd_some e4
  have hjl : j < S4.env.length ∧ some (enumL zs, ({ S4 with env := S4.env.set j .un } : Sta)) = some (ds, S3) := by
    have e7' : (if j < S4.env.length then some (enumL zs, ({ S4 with env := S4.env.set j .un } : Sta)) else none) = some (ds, S3) := e7
    by_cases w : j < S4.env.length
    · rw [if_pos w] at e7'
      exact ⟨w, e7'⟩
    · rw [if_neg w] at e7'
      cases e7'
  obtain ⟨hjl, e8⟩ := hjl
  cases e8
  refine ⟨F, S, zs, S4, r, e6, fun xs ys F1 H1 a0 z TI TO i1 i2 a b la lb va vb ez s1 r1 qa qb da db ok2 => ?_⟩
  subst ez
  have r1' : Rel X.K c F1 { S4 with env := S4.env.set j .un } (σ.set j (some (.ref a0))) H1 := r1.slots (by simp [r1.len]) fun i y hy => by
    by_cases hi : j = i
    · subst hi
      by_cases hl : j < S4.env.length
      · rw [List.getElem?_set_self hl] at hy
        exact .inl (Option.some.inj hy).symm
      · rw [List.getElem?_eq_none (by simp; omega)] at hy
        cases hy
    · rw [List.getElem?_set_ne hi] at hy ⊢
      exact .inr (.inl ⟨hy, rfl⟩)
  have hset : (σ.set j (some (.ref a0)))[j]? = some (some (.ref a0)) := List.getElem?_set_self (by rw [r1.len]; exact hjl)
  generalize hS0 : ({ S4 with env := S4.env.set j .un } : Sta) = S0 at *
  have en : tN X.K (c.know F1) (compD (own.map (·.2)) (onlyAtS S0 (enumL (zipL xs ys), S0)) pt t m) (σ.set j (some (.ref a0))) H1 D'.rt := by
    refine tN_tD (fun S d S' e => compD_list e) ⟨F1, S0, r1'.know, d, S', ?_, fun F' H' v s2 r2 d2 => ?_⟩
    · unfold compD
      rw [bnd_eq (show onlyAtS S0 (enumL (zipL xs ys), S0) S0 = some (enumL (zipL xs ys), S0) from if_pos rfl)]
      exact e5
    · exact q F' H' _ (s1.trans s2) (r1'.unknow r2) v d2
  obtain ⟨F5, S5, r5, ds5, S6, e9, q5⟩ := t_comp hvs en
  have e10 : S5 = S0 ∧ (enumL (zipL xs ys), S0) = (ds5, S6) := by
    unfold onlyAtS at e9
    by_cases w : S5 = S0
    · rw [if_pos w] at e9
      exact ⟨w, Option.some.inj e9⟩
    · rw [if_neg w] at e9
      cases e9
  obtain ⟨e11, e12⟩ := e10
  cases e12
  subst e11
  have s5 : Same F1 F5 := r5.f0
  have l1 := da.len
  have l2 := db.len
  refine ⟨a0, z, TI, TO, i1, i2, a, b, la, lb, H1, hset, rfl, ok2, ?_⟩
  refine q5 F5 H1 (Itez la lb X.K a b) (fun H => SqX la X.K H a va ∧ SqX lb X.K H b vb) _ (Same.refl F5) r5 (walk_ez ?_) (fun F6 H6 u1 u2 => ⟨sqX_up ((s5.trans u1).trans u2) qa, sqX_up ((s5.trans u1).trans u2) qb⟩) (yEz_ok (DpAll.up s5 _ _ da) (DpAll.up s5 _ _ db))
  rw [enumL_len]
  unfold zipL
  rw [List.length_zipWith, l1, l2]
end DL

-- part DL16
set_option Elab.async false
set_option linter.all false
set_option maxRecDepth 100000
set_option maxHeartbeats 1000000
/-! DL16: small words; the source of a law: _law_pick, _law_open_cells as functions. -/
namespace DL
open PySem PySem.Spec PyProof.Rows L2 RZ
theorem hu66 {k : Nat} {A : Around} (r : Room k A) : A.units + 66 < cLine := by have := r.un; omega
theorem hu64 {k : Nat} {A : Around} (r : Room k A) : A.units + 64 < cLine := by have := r.un; omega
theorem hu65 {k : Nat} {A : Around} (r : Room k A) : A.units + 65 < cLine := by have := r.un; omega
theorem hu1 {k : Nat} {A : Around} (r : Room k A) : A.units + 1 < cLine := by have := r.un; omega
theorem b_len : bootBuiltins "len" = some (.builtin "len") := by decide +kernel
theorem b_abs : bootBuiltins "abs" = some (.builtin "abs") := by decide +kernel
theorem b_all : bootBuiltins "all" = some (.builtin "all") := by decide +kernel
theorem b_any : bootBuiltins "any" = some (.builtin "any") := by decide +kernel
theorem b_sorted : bootBuiltins "sorted" = some (.builtin "sorted") := by decide +kernel
theorem b_sum : bootBuiltins "sum" = some (.builtin "sum") := by decide +kernel
theorem b_max : bootBuiltins "max" = some (.builtin "max") := by decide +kernel
theorem b_min : bootBuiltins "min" = some (.builtin "min") := by decide +kernel
theorem b_isinstance : bootBuiltins "isinstance" = some (.builtin "isinstance") := by decide +kernel
theorem b_int : bootBuiltins "int" = some (.type "int") := by decide +kernel
theorem b_bool : bootBuiltins "bool" = some (.type "bool") := by decide +kernel
theorem b_str : bootBuiltins "str" = some (.type "str") := by decide +kernel
theorem b_tuple : bootBuiltins "tuple" = some (.type "tuple") := by decide +kernel
theorem b_list : bootBuiltins "list" = some (.type "list") := by decide +kernel
theorem b_dict : bootBuiltins "dict" = some (.type "dict") := by decide +kernel
abbrev FnP (K : PySem.W.Frag) (x : Str) (st : Stmt) (f : Addr) (fd : FuncData) : Prop := FunD K x x (defArgs st) (defBody st) (defScope st) [] [] f fd
def addA : D → D → Option D := alt addI addT
/-- times, one factor small or both not huge -/
def mulO (i j : Int) : Prop := i.natAbs < 2 ^ 60 ∨ j.natAbs < 2 ^ 60
instance {i j : Int} : Decidable (mulO i j) := by
  unfold mulO
  infer_instance
section
variable {X : Cx} {c : Fr}
theorem opd_addA : OpR X (binaryOp .Add) (r2D X.K addA) := opr_alt opd_add opd_addT
theorem bits_small {i : Int} (h : i.natAbs < 2 ^ 60) : Builtin.Int.intBits i ≤ 64 := by
  unfold Builtin.Int.intBits
  by_cases z : i = 0
  · simp [z]
  · have z' : i.natAbs ≠ 0 := by omega
    have h2 : i.natAbs.log2 < 60 := (Nat.log2_lt z').mpr h
    have z2 : (i == 0) = false := by simp [z]
    rw [z2]
    show i.natAbs.log2 + 1 ≤ 64
    omega
theorem op_mulO : OpR X (binaryOp .Mult) (rI mulO fun i j => .int (i * j)) := opI fun i j _ _ _ _ _ hc q => mul_int q (hc.elim (fun w => IntMulOk.of_left (bits_small w)) fun w => IntMulOk.of_right (bits_small w))
def mulS : D → D → Option D := oI fun i j => if mulO i j then some (.int (i * j)) else none
theorem opd_mulS : OpR X (binaryOp .Mult) (r2D X.K mulS) := opI_D op_mulO fun i j d h => by
  by_cases z : mulO i j
  · rw [if_pos z] at h
    cases h
    exact ⟨z, fun _ => .int _⟩
  · rw [if_neg z] at h
    cases h
end

/-! ### _law_pick -/
def popR (left : Int) : List Int → Int × List Int
  | [] => (left, [])
  | c :: cs => if left < 2 then popR c cs else (left, c :: cs)
def pickS (m : Int) (s : Src) : Int × Src :=
  if m < 2 then (0, s) else
  let p := popR s.left s.cells.reverse
  if 1 < p.1 then (p.1.fmod m, { s with cells := p.2.reverse, left := p.1 / m }) else
  let lap := s.turn + 1
  let a := (s.mixed + lap * 104729).fmod 998244353
  let b := (a * a + lap * 17).fmod 2147483647
  ((b / 16).fmod m, { cells := p.2.reverse, left := p.1, mixed := s.mixed, turn := lap })
def pickF : DF := fun as s => match as with
  | [.src, .d (.int m)] => if m.natAbs < 2 ^ 60 then some (.int (pickS m s).1, (pickS m s).2) else none
  | _ => none
theorem fmod_bd {a m : Int} (h : 0 < m) : 0 ≤ a.fmod m ∧ a.fmod m < m := ⟨Int.fmod_nonneg_of_pos a h, Int.fmod_lt_of_pos a h⟩
theorem pickS_bd (m : Int) (s : Src) : 0 ≤ (pickS m s).1 ∧ ((pickS m s).1 < m ∨ (pickS m s).1 = 0) := by
  unfold pickS
  by_cases h : m < 2
  · rw [if_pos h]
    exact ⟨Int.le_refl 0, .inr rfl⟩
  · rw [if_neg h]
    have hm : 0 < m := by omega
    by_cases h2 : 1 < (popR s.left s.cells.reverse).1
    · simp only [if_pos h2]
      exact ⟨(fmod_bd hm).1, .inl (fmod_bd hm).2⟩
    · simp only [if_neg h2]
      exact ⟨(fmod_bd hm).1, .inl (fmod_bd hm).2⟩
/-- the heap with the source as s tells -/
def stH (H0 : Hp) (ps pc : Addr) (s : Src) : Hp := upd (upd H0 pc (.lst (s.cells.map V.int))) ps (.dK (kvSrc pc s))
section
variable {H0 H : Hp} {ps pc : Addr} {s : Src}
theorem SrcAt.eq (h : SrcAt ps pc s H) : stH H ps pc s = H := by
  funext b
  unfold stH
  by_cases h1 : b = ps
  · rw [h1, upd_same, h.d]
  · rw [upd_ne h1]
    by_cases h2 : b = pc
    · rw [h2, upd_same, h.l]
    · rw [upd_ne h2]
theorem SrcAt.ne (h : SrcAt ps pc s H) : ps ≠ pc := fun e => by
  have h1 := h.d
  rw [e, h.l] at h1
  cases h1
theorem stH_d : stH H0 ps pc s ps = some (.dK (kvSrc pc s)) := upd_same
theorem stH_l (n : ps ≠ pc) : stH H0 ps pc s pc = some (.lst (s.cells.map V.int)) := by
  unfold stH
  rw [upd_ne (Ne.symm n), upd_same]
theorem stH_at (n : ps ≠ pc) : SrcAt ps pc s (stH H0 ps pc s) := ⟨stH_d, stH_l n⟩
theorem stH_o {b : Addr} (h1 : b ≠ ps) (h2 : b ≠ pc) : stH H0 ps pc s b = H0 b := by
  unfold stH
  rw [upd_ne h1, upd_ne h2]
theorem stH_put {kvs : List (Key × V)} {s' : Src} (e : kvs = kvSrc pc s') (c : s'.cells = s.cells) : upd (stH H0 ps pc s) ps (.dK kvs) = stH H0 ps pc s' := by
  unfold stH
  rw [upd_upd, e, c]
theorem stH_pop (n : ps ≠ pc) {xs : List V} {s' : Src} (e : xs = s'.cells.map V.int) (l : s'.left = s.left) (m : s'.mixed = s.mixed) (t : s'.turn = s.turn) : upd (stH H0 ps pc s) pc (.lst xs) = stH H0 ps pc s' := by
  funext b
  unfold stH
  by_cases h1 : b = pc
  · rw [h1, upd_same, upd_ne (Ne.symm n), upd_same, e]
  · rw [upd_ne h1]
    by_cases h2 : b = ps
    · rw [h2, upd_same, upd_same]
      unfold kvSrc
      rw [l, m, t]
    · rw [upd_ne h2, upd_ne h1, upd_ne h2, upd_ne h1]
theorem k_cl : ¬ ((.inr "cells" : Key) = .inr "left") := by decide +kernel
theorem k_cm : ¬ ((.inr "cells" : Key) = .inr "mixed") := by decide +kernel
theorem k_ct : ¬ ((.inr "cells" : Key) = .inr "turn") := by decide +kernel
theorem k_lm : ¬ ((.inr "left" : Key) = .inr "mixed") := by decide +kernel
theorem k_lt : ¬ ((.inr "left" : Key) = .inr "turn") := by decide +kernel
theorem k_mt : ¬ ((.inr "mixed" : Key) = .inr "turn") := by decide +kernel
theorem k_ml : ¬ ((.inr "mixed" : Key) = .inr "left") := by decide +kernel
theorem k_tl : ¬ ((.inr "turn" : Key) = .inr "left") := by decide +kernel
theorem get_left : DGet (stH H0 ps pc s) ps (.str "left") (some (.int s.left)) := .inl ⟨_, .inr "left", .inl stH_d, rfl, by
  unfold kvSrc
  rw [valV_neg (by exact k_cl), valV_pos rfl]⟩
theorem get_mixed : DGet (stH H0 ps pc s) ps (.str "mixed") (some (.int s.mixed)) := .inl ⟨_, .inr "mixed", .inl stH_d, rfl, by
  unfold kvSrc
  rw [valV_neg (by exact k_cm), valV_neg (by exact k_lm), valV_pos rfl]⟩
theorem get_turn : DGet (stH H0 ps pc s) ps (.str "turn") (some (.int s.turn)) := .inl ⟨_, .inr "turn", .inl stH_d, rfl, by
  unfold kvSrc
  rw [valV_neg (by exact k_ct), valV_neg (by exact k_lt), valV_neg (by exact k_mt), valV_pos rfl]⟩
theorem get_cells : DGet (stH H0 ps pc s) ps (.str "cells") (some (.ref pc)) := .inl ⟨_, .inr "cells", .inl stH_d, rfl, by
  unfold kvSrc
  rw [valV_pos rfl]⟩
theorem putL (v : Int) : putK (kvSrc pc s) (.inr "left") (.int v) = kvSrc pc { s with left := v } := by
  unfold kvSrc putK
  rw [if_pos (by simp)]
  simp only [List.map_cons, List.map_nil, if_true]
  rw [if_neg k_cl, if_neg k_ml, if_neg k_tl]
theorem putT (v : Int) : putK (kvSrc pc s) (.inr "turn") (.int v) = kvSrc pc { s with turn := v } := by
  unfold kvSrc putK
  rw [if_pos (by simp)]
  simp only [List.map_cons, List.map_nil, if_true]
  rw [if_neg k_ct, if_neg k_lt, if_neg k_mt]
theorem len4 : (kvSrc pc s).length < sizeLine := by
  have := sizeLine_eq
  show 4 < sizeLine
  omega
theorem put_left (v : Int) : DPut (stH H0 ps pc s) ps (.str "left") (.int v) (stH H0 ps pc { s with left := v }) := .inl ⟨_, .inr "left", stH_d, rfl, len4, (stH_put (s := s) (s' := { s with left := v }) (putL v) rfl).symm⟩
theorem put_turn (v : Int) : DPut (stH H0 ps pc s) ps (.str "turn") (.int v) (stH H0 ps pc { s with turn := v }) := .inl ⟨_, .inr "turn", stH_d, rfl, len4, (stH_put (s := s) (s' := { s with turn := v }) (putT v) rfl).symm⟩
end
end DL

-- part DL17
set_option Elab.async false
set_option linter.all false
set_option maxRecDepth 100000
set_option maxHeartbeats 1000000
/-! DL17: x, y = e, [] where y's list is one's own; a def that makes the source. -/
namespace DL
open PySem PySem.Spec PyProof.Rows L2 RZ
def parO (i j : Nat) (m : MV D) : MS := bnd m fun x => fun S => some (.nx, { S with env := (S.env.set i (.fz x)).set j (.own []) })
section
variable {X : Cx} {c : Fr} {m : MV D} {pos : Pos}
theorem ds_parO {i j : Nat} {x y : Str} {e1 : Expr} {px py pt pl : Pos} {kt k2 pt2} (hc : X.calm = true) (hN : X.N.Nodup) (ha : DE X c e1 m) (hw : swappedStores [.Tuple [.Name x px, .Name y py] kt pt] (.Tuple [e1, .List [] pl] k2 pt2) X.env = pure (some [x, y])) (hij : i ≠ j) (hi : X.N[i]? = some x := by rfl) (hj : X.N[j]? = some y := by rfl)
    (hx : X.env.scope.names.lookup x = some .local := by rfl) (hy : X.env.scope.names.lookup y = some .local := by rfl) (hs : swapsWithSole [.Tuple [.Name x px, .Name y py] kt pt] (.Tuple [e1, .List [] pl] k2 pt2) pos.line X.env = pure false := by rfl)
    (he : starEach [e1, .List [] pl] X.env = (false, eval e1 X.env) :: starEach [.List [] pl] X.env := by rfl) :
    DS X c (.Assign [.Tuple [.Name x px, .Name y py] kt pt] (.Tuple [e1, .List [] pl] k2 pt2) pos) (parO i j m) := by
  have hl : PA X [e1, .List [] pl] (tCons (tD X.K c m) (tCons (tN X.K c (lstD (ret []))) tNil)) := pa_cons ha (pa_cons (dn_lst dl_nil) pa_nil) he
  refine ps_imp (ps_par hc hN hi hj hij hx hy hl hw hs) fun D' σ H ⟨F, S, r, o, S', e, q⟩ => ?_
  obtain ⟨x1, S1, e1', e2⟩ := bnd_some e
  cases e2
  have hemp : (lstD (ret [])) S1 = some (PyData.list [], S1) := by
    unfold lstD
    rw [bnd_eq (show ret ([] : List D) S1 = some ([], S1) from rfl)]
    show (if ([] : List D).length ≤ sizeLine then ret (PyData.list []) else fun _ => none) S1 = _
    rw [if_pos (show ([] : List D).length ≤ sizeLine from Nat.zero_le _)]
    rfl
  refine ⟨F, S, r, x1, S1, e1', fun F1 H1 v s1 r1 d1 => ⟨F1, S1, r1, [], S1, hemp, fun F' H' l ws s r' g1 g2 g3 g4 g5 => ?_⟩⟩
  refine ⟨v, .ref l, rfl, ?_⟩
  have ra := r'.set_fz (i := i) (Dp.up s _ _ d1)
  have rb := ra.adopt (i := j) g4 g1 g2 (fun k b hk => ?_) g5
  · exact q F' H' _ (s1.trans s) rb
  · by_cases hik : i = k
    · subst hik
      have hk' : (S1.env.set i (.fz x1))[i]? = some (.own b) := hk
      by_cases hl2 : i < S1.env.length
      · rw [List.getElem?_set_self hl2] at hk'
        cases hk'
      · rw [List.getElem?_eq_none (by simp; omega)] at hk'
        cases hk'
    · have hk' : (S1.env.set i (.fz x1))[k]? = some (.own b) := hk
      rw [List.getElem?_set_ne hik] at hk' ⊢
      exact g3 k b hk'
end
/-- whatever stands beside -/
def tSx (K : PySem.W.Frag) (m : MS) : TS := fun D σ H => ∃ c, tS K c m D σ H
theorem pss_ex {X : Cx} {ss : List Stmt} {m : MS} (h : ∀ c, DSs X c ss m) : PSs X ss (tSx X.K m) := ⟨fun pins s σ H D I ⟨c, q⟩ => (h c).run pins s σ H D I q⟩
theorem ite_t {b : Bool} {p q : Prop} (h : b = true) (x : p) : if b = true then p else q := by
  rw [if_pos h]
  exact x
theorem ite_f {b : Bool} {p q : Prop} (h : b = false) (x : q) : if b = true then p else q := by
  rw [h, if_neg Bool.false_ne_true]
  exact x
theorem tAnd_val {a b : TT} {σ : L2.St} {H : Hp} {Q : Bool → Hp → Prop} {x y : Bool} (ha : ∀ Q' : Bool → Hp → Prop, Q' x H → a σ H Q') (hb : ∀ Q' : Bool → Hp → Prop, Q' y H → b σ H Q') (q : Q (x && y) H) : tAnd a b σ H Q := by
  unfold tAnd
  refine ha _ ?_
  cases x with
  | true => exact ite_t rfl (hb _ q)
  | false => exact ite_f rfl q
theorem popR_stop {left : Int} {cs : List Int} (h : ¬ (left < 2 ∧ cs ≠ [])) : popR left cs = (left, cs) := by
  cases cs with
  | nil => rfl
  | cons c cs =>
    unfold popR
    rw [if_neg fun w => h ⟨w, List.cons_ne_nil _ _⟩]
/-! ### the source's beginning -/
def stir (ns : List Int) : Int := ns.foldl (fun s c => (s * 69069 + c * 31 + 5).fmod 2147483629) 11
theorem stir_succ {ns : List Int} {i : Nat} {c : Int} (h : ns[i]? = some c) : stir (ns.take (i + 1)) = (stir (ns.take i) * 69069 + c * 31 + 5).fmod 2147483629 := by
  unfold stir
  rw [List.take_add_one, h]
  simp [List.foldl_append]
def absI (i : Int) : Int := if i < 0 then -i else i
def openS (ns : List Int) : Src := ⟨(ns.map absI).reverse, 1, stir ns, 0⟩
theorem s_cl : ¬ (Str.ofString "cells" = Str.ofString "left") := by decide +kernel
theorem s_cm : ¬ (Str.ofString "cells" = Str.ofString "mixed") := by decide +kernel
theorem s_ct : ¬ (Str.ofString "cells" = Str.ofString "turn") := by decide +kernel
theorem s_lm : ¬ (Str.ofString "left" = Str.ofString "mixed") := by decide +kernel
theorem s_lt : ¬ (Str.ofString "left" = Str.ofString "turn") := by decide +kernel
theorem s_mt : ¬ (Str.ofString "mixed" = Str.ofString "turn") := by decide +kernel
theorem mergeK_src (pc : Addr) (s : Src) : mergeK [] (kvSrc pc s) = kvSrc pc s := by
  unfold mergeK kvSrc putK
  simp [s_cl, s_cm, s_ct, s_lm, s_lt, s_mt]
/-- what _law_open_cells promises -/
def spOpen (K : PySem.W.Frag) : Sp := fun vs H Q _ => ∃ (a : Addr) (ns : List Int), vs = [.ref a] ∧ ns.length ≤ 1000 ∧ SqL K H a (ns.map V.int) ∧ ∀ H' ps pc, Same H H' → H ps = none → H pc = none → SrcAt ps pc (openS ns) H' → Q (.ref ps) H'
end DL

-- part DL18
set_option Elab.async false
set_option linter.all false
set_option maxRecDepth 100000
set_option maxHeartbeats 1000000
/-! DL18: the functions evaluated. -/
namespace DL
open PySem PySem.Spec PyProof.Rows L2 RZ
section
variable {α β : Type} {S S1 S2 : Sta} {m : MV D} {t : MV Bool} {a b : MS} {d : D}
theorem e_seq {o : Option (Out × Sta)} (h : a S = some (.nx, S1)) (h2 : b S1 = o) : seqS a b S = o := by
  unfold seqS
  rw [bnd_eq h]
  exact h2
theorem e_seqR (h : a S = some (.rt d, S1)) : seqS a b S = some (.rt d, S1) := by
  unfold seqS
  rw [bnd_eq h]
  rfl
theorem e_asg {i : Nat} (h : m S = some (d, S1)) : asgS i m S = some (.nx, { S1 with env := S1.env.set i (.fz d) }) := by
  unfold asgS
  rw [bnd_eq h]
  rfl
theorem e_asgN {i : Nat} {ys : List D} (h : m S = some (.list ys, S1)) : asgN i m S = some (.nx, { S1 with env := S1.env.set i (.own ys) }) := by
  unfold asgN
  rw [bnd_eq h]
  rfl
theorem e_ret (h : m S = some (d, S1)) : retS m S = some (.rt d, S1) := by
  unfold retS
  rw [bnd_eq h]
  rfl
theorem e_ifT {o : Option (Out × Sta)} (h : t S = some (true, S1)) (h2 : a S1 = o) : ifS t a b S = o := by
  unfold ifS
  rw [bnd_eq h, if_pos rfl]
  exact h2
theorem e_ifF {o : Option (Out × Sta)} (h : t S = some (false, S1)) (h2 : b S1 = o) : ifS t a b S = o := by
  unfold ifS
  rw [bnd_eq h, if_neg Bool.false_ne_true]
  exact h2
theorem e_ifDT {m n : MV D} {o : Option (D × Sta)} (h : t S = some (true, S1)) (h2 : m S1 = o) : ifD t m n S = o := by
  unfold ifD
  rw [bnd_eq h, if_pos rfl]
  exact h2
theorem e_ifDF {m n : MV D} {o : Option (D × Sta)} (h : t S = some (false, S1)) (h2 : n S1 = o) : ifD t m n S = o := by
  unfold ifD
  rw [bnd_eq h, if_neg Bool.false_ne_true]
  exact h2
theorem e_toB {k : Bool} (h : m S = some (.bool k, S1)) : toB m S = some (k, S1) := toB_eq h
theorem e_op2 {f : D → D → Option D} {n : MV D} {x y z : D} (h1 : m S = some (x, S1)) (h2 : n S1 = some (y, S2)) (h3 : f x y = some z) : op2 f m n S = some (z, S2) := by
  unfold op2
  rw [bnd_eq h1, bnd_eq h2, h3]
  rfl
theorem e_op1 {f : D → Option D} {x z : D} (h1 : m S = some (x, S1)) (h3 : f x = some z) : op1 f m S = some (z, S1) := by
  unfold op1
  rw [bnd_eq h1, h3]
  rfl
theorem e_call {f : DF} {l : MV (List Arg)} {as : List Arg} {s' : Src} (h : l S = some (as, S1)) (h2 : f as S1.src = some (d, s')) : callD f l S = some (d, { S1 with src := s' }) := by
  unfold callD
  rw [bnd_eq h]
  show (match f as S1.src with | some (d, s') => _ | none => none) = _
  rw [h2]
theorem e_callN {g : List D → Option D} {n : MV (List D)} {xs : List D} (h : n S = some (xs, S1)) (h2 : g xs = some d) : callN g n S = some (d, S1) := by
  unfold callN
  rw [bnd_eq h, h2]
  rfl
theorem e_cons {n : MV (List D)} {xs : List D} (h : m S = some (d, S1)) (h2 : n S1 = some (xs, S2)) : consL m n S = some (d :: xs, S2) := by
  unfold consL
  rw [bnd_eq h, bnd_eq h2]
  rfl
theorem e_consA {n : MV (List Arg)} {xs : List Arg} (h : m S = some (d, S1)) (h2 : n S1 = some (xs, S2)) : consA m n S = some (.d d :: xs, S2) := by
  unfold consA
  rw [bnd_eq h, bnd_eq h2]
  rfl
theorem e_one (h : m S = some (d, S1)) : consL m (ret []) S = some ([d], S1) := e_cons h rfl
theorem e_tup {n : MV (List D)} {xs : List D} (h : n S = some (xs, S1)) (hl : xs.length ≤ 1000000) : tupD n S = some (.tuple xs, S1) := by
  unfold tupD
  rw [bnd_eq h]
  have : xs.length ≤ sizeLine := by have := sizeLine_eq; omega
  show (if xs.length ≤ sizeLine then ret (PyData.tuple xs) else fun _ => none) S1 = _
  rw [if_pos this]
  rfl
theorem e_lst {n : MV (List D)} {xs : List D} (h : n S = some (xs, S1)) (hl : xs.length ≤ 1000000) : lstD n S = some (.list xs, S1) := by
  unfold lstD
  rw [bnd_eq h]
  have : xs.length ≤ sizeLine := by have := sizeLine_eq; omega
  show (if xs.length ≤ sizeLine then ret (PyData.list xs) else fun _ => none) S1 = _
  rw [if_pos this]
  rfl
theorem e_seqI {xs : List D} (h : m S = some (d, S1)) (h2 : items d = some xs) : seqI m S = some (xs, S1) := by
  unfold seqI
  rw [bnd_eq h, h2]
  rfl
theorem e_and {p q : MV Bool} {k l : Bool} (h : p S = some (k, S1)) (h2 : k = true → q S1 = some (l, S2)) (h3 : k = false → l = false ∧ S2 = S1) : andT p q S = some (l, S2) := by
  unfold andT
  rw [bnd_eq h]
  cases k with
  | true =>
    rw [if_pos rfl]
    exact h2 rfl
  | false =>
    obtain ⟨rfl, rfl⟩ := h3 rfl
    rfl
theorem e_or {p q : MV Bool} {k l : Bool} (h : p S = some (k, S1)) (h2 : k = false → q S1 = some (l, S2)) (h3 : k = true → l = true ∧ S2 = S1) : orT p q S = some (l, S2) := by
  unfold orT
  rw [bnd_eq h]
  cases k with
  | false =>
    rw [if_neg Bool.false_ne_true]
    exact h2 rfl
  | true =>
    obtain ⟨rfl, rfl⟩ := h3 rfl
    rfl
theorem e_not {p : MV Bool} {k : Bool} (h : p S = some (k, S1)) : notT p S = some (!k, S1) := by
  unfold notT
  rw [bnd_eq h]
  rfl
/-- a loop without an early end -/
theorem e_for {p : Pat} (P : Nat → Sta → Prop) : ∀ (ds : List D) (k : Nat) (S : Sta), P k S →
    (∀ i d S, ds[i]? = some d → P (k + i) S → ∃ env1 S', p.bind d S.env = some env1 ∧ b { S with env := env1 } = some (.nx, S') ∧ P (k + i + 1) S') → ∃ S', forM p b ds S = some (.nx, S') ∧ P (k + ds.length) S'
  | [], k, S, h0, _ => ⟨S, rfl, h0⟩
  | d :: ds, k, S, h0, h => by
    obtain ⟨env1, S1, e1, e2, h1⟩ := h 0 d S rfl h0
    obtain ⟨S', e3, h3⟩ := e_for P ds (k + 1) S1 h1 fun i d' S' hi hp => by
      have := h (i + 1) d' S' hi (by rw [← Nat.add_assoc, Nat.add_right_comm]; exact hp)
      rw [show k + (i + 1) + 1 = k + 1 + i + 1 by omega] at this
      exact this
    refine ⟨S', ?_, by rw [List.length_cons, show k + (ds.length + 1) = k + 1 + ds.length by omega]; exact h3⟩
    unfold forM
    rw [e1]
    show bnd b _ { S with env := env1 } = _
    rw [bnd_eq e2]
    exact e3
/-- a loop that may return -/
theorem e_forR {p : Pat} (P : Nat → Sta → Prop) (R : D → Sta → Prop) : ∀ (ds : List D) (k : Nat) (S : Sta), P k S →
    (∀ i d S, ds[i]? = some d → P (k + i) S → ∃ env1 o S', p.bind d S.env = some env1 ∧ b { S with env := env1 } = some (o, S') ∧ ((o = .nx ∧ P (k + i + 1) S') ∨ ∃ r, o = .rt r ∧ R r S')) → ∃ o S', forM p b ds S = some (o, S') ∧ ((o = .nx ∧ P (k + ds.length) S') ∨ ∃ r, o = .rt r ∧ R r S')
  | [], k, S, h0, _ => ⟨.nx, S, rfl, .inl ⟨rfl, h0⟩⟩
  | d :: ds, k, S, h0, h => by
    obtain ⟨env1, o1, S1, e1, e2, h1⟩ := h 0 d S rfl h0
    rcases h1 with ⟨rfl, h1⟩ | ⟨r, rfl, h1⟩
    · obtain ⟨o, S', e3, h3⟩ := e_forR P R ds (k + 1) S1 h1 fun i d' S' hi hp => by
        have := h (i + 1) d' S' hi (by rw [← Nat.add_assoc, Nat.add_right_comm]; exact hp)
        rw [show k + (i + 1) + 1 = k + 1 + i + 1 by omega] at this
        exact this
      refine ⟨o, S', ?_, by rw [List.length_cons, show k + (ds.length + 1) = k + 1 + ds.length by omega]; exact h3⟩
      unfold forM
      rw [e1]
      show bnd b _ { S with env := env1 } = _
      rw [bnd_eq e2]
      exact e3
    · refine ⟨.rt r, S1, ?_, .inr ⟨r, rfl, h1⟩⟩
      unfold forM
      rw [e1]
      show bnd b _ { S with env := env1 } = _
      rw [bnd_eq e2]
      rfl
theorem e_forS {i : MV (List D)} {p : Pat} {ds : List D} {o : Option (Out × Sta)} (h : i S = some (ds, S1)) (h2 : forM p b ds S1 = o) : forS i p b S = o := by
  unfold forS
  rw [bnd_eq h]
  exact h2
/-- a comprehension whose words change nothing: g tells what each item gives -/
theorem e_compM {vs : List Nat} {p : Pat} {t : MV Bool} {m : MV D} {env : List Slot} {s : Src} (g : D → Option D) : ∀ (ds : List D),
    (∀ d ∈ ds, ∃ env1, p.bind d env = some env1 ∧ wipeE env1 vs = env ∧ ((g d = none ∧ t ⟨env1, s⟩ = some (false, ⟨env1, s⟩)) ∨ ∃ y, g d = some y ∧ t ⟨env1, s⟩ = some (true, ⟨env1, s⟩) ∧ m ⟨env1, s⟩ = some (y, ⟨env1, s⟩))) →
    compM vs p t m ds ⟨env, s⟩ = some (ds.filterMap g, ⟨env, s⟩)
  | [], _ => rfl
  | d :: ds, h => by
    have ih := e_compM g ds fun d' hd => h d' (List.mem_cons_of_mem _ hd)
    obtain ⟨env1, h1, h2, h3⟩ := h d List.mem_cons_self
    unfold compM
    rw [h1]
    rcases h3 with ⟨g1, g2⟩ | ⟨y, g1, g2, g3⟩
    · show bnd t _ ⟨env1, s⟩ = _
      rw [bnd_eq g2, if_neg Bool.false_ne_true]
      show compM vs p t m ds ⟨wipeE env1 vs, s⟩ = _
      rw [h2, ih, List.filterMap_cons, g1]
    · show bnd t _ ⟨env1, s⟩ = _
      rw [bnd_eq g2, if_pos rfl, bnd_eq g3]
      show bnd (compM vs p t m ds) _ ⟨wipeE env1 vs, s⟩ = _
      rw [h2, bnd_eq ih, List.filterMap_cons, g1]
      rfl
theorem e_compF {vs : List Nat} {i : MV (List D)} {p : Pat} {t : MV Bool} {m : MV D} {ds : List D} {env : List Slot} {s : Src} (g : D → Option D) (hi : i S = some (ds, ⟨env, s⟩)) (ho : vs.all (fun v => !(env.getD v .un).isOwn) = true) (hl : ds.length ≤ 1000000)
    (hb : backE env (wipeE env vs) vs = env)
    (h : ∀ d ∈ ds, ∃ env1, p.bind d (wipeE env vs) = some env1 ∧ wipeE env1 vs = wipeE env vs ∧ ((g d = none ∧ t ⟨env1, s⟩ = some (false, ⟨env1, s⟩)) ∨ ∃ y, g d = some y ∧ t ⟨env1, s⟩ = some (true, ⟨env1, s⟩) ∧ m ⟨env1, s⟩ = some (y, ⟨env1, s⟩))) :
    compD vs i p t m S = some (.list (ds.filterMap g), ⟨env, s⟩) := by
  unfold compD
  rw [bnd_eq hi]
  show (if vs.all (fun v => !(env.getD v .un).isOwn) = true ∧ ds.length ≤ 1000000 then _ else _) = _
  rw [if_pos ⟨ho, hl⟩, e_compM g ds h]
  show some (PyData.list (ds.filterMap g), ({ env := backE env (wipeE env vs) vs, src := s } : Sta)) = _
  rw [hb]
/-- the same over typed items, none left out -/
theorem e_comp {α : Type} {vs : List Nat} {i : MV (List D)} {p : Pat} {m : MV D} {env : List Slot} {s : Src} (xs : List α) (e : α → D) (f : α → D) (hi : i S = some (xs.map e, ⟨env, s⟩)) (ho : vs.all (fun v => !(env.getD v .un).isOwn) = true) (hl : xs.length ≤ 1000000)
    (hb : backE env (wipeE env vs) vs = env) (h : ∀ x ∈ xs, ∃ env1, p.bind (e x) (wipeE env vs) = some env1 ∧ wipeE env1 vs = wipeE env vs ∧ m ⟨env1, s⟩ = some (f x, ⟨env1, s⟩)) :
    compD vs i p (ret true) m S = some (.list (xs.map f), ⟨env, s⟩) := by
  have key : ∀ (ys : List α), (∀ x ∈ ys, x ∈ xs) → compM vs p (ret true) m (ys.map e) ⟨wipeE env vs, s⟩ = some (ys.map f, ⟨wipeE env vs, s⟩) := by
    intro ys
    induction ys with
    | nil => intro _; rfl
    | cons y ys ih =>
      intro hy
      obtain ⟨env1, h1, h2, h3⟩ := h y (hy y List.mem_cons_self)
      have ih' := ih fun x hx => hy x (List.mem_cons_of_mem _ hx)
      show compM vs p (ret true) m (e y :: ys.map e) _ = _
      unfold compM
      show (match p.bind (e y) (wipeE env vs) with | none => none | some env1 => _) = _
      rw [h1]
      show bnd (ret true) _ ⟨env1, s⟩ = _
      rw [bnd_eq (show ret true (⟨env1, s⟩ : Sta) = some (true, ⟨env1, s⟩) from rfl), if_pos rfl, bnd_eq h3]
      show bnd (compM vs p (ret true) m (ys.map e)) _ ⟨wipeE env1 vs, s⟩ = _
      rw [h2, bnd_eq ih']
      rfl
  unfold compD
  rw [bnd_eq hi]
  show (if vs.all (fun v => !(env.getD v .un).isOwn) = true ∧ (xs.map e).length ≤ 1000000 then _ else _) = _
  rw [if_pos ⟨ho, by rw [List.length_map]; exact hl⟩, key xs fun _ h => h]
  show some (PyData.list (xs.map f), ({ env := backE env (wipeE env vs) vs, src := s } : Sta)) = _
  rw [hb]
/-- .. some left out -/
theorem e_compIf {α : Type} {vs : List Nat} {i : MV (List D)} {p : Pat} {t : MV Bool} {m : MV D} {env : List Slot} {s : Src} (xs : List α) (e : α → D) (q : α → Bool) (f : α → D) (hi : i S = some (xs.map e, ⟨env, s⟩)) (ho : vs.all (fun v => !(env.getD v .un).isOwn) = true) (hl : xs.length ≤ 1000000)
    (hb : backE env (wipeE env vs) vs = env) (h : ∀ x ∈ xs, ∃ env1, p.bind (e x) (wipeE env vs) = some env1 ∧ wipeE env1 vs = wipeE env vs ∧ t ⟨env1, s⟩ = some (q x, ⟨env1, s⟩) ∧ (q x = true → m ⟨env1, s⟩ = some (f x, ⟨env1, s⟩))) :
    compD vs i p t m S = some (.list ((xs.filter q).map f), ⟨env, s⟩) := by
  have key : ∀ (ys : List α), (∀ x ∈ ys, x ∈ xs) → compM vs p t m (ys.map e) ⟨wipeE env vs, s⟩ = some ((ys.filter q).map f, ⟨wipeE env vs, s⟩) := by
    intro ys
    induction ys with
    | nil => intro _; rfl
    | cons y ys ih =>
      intro hy
      obtain ⟨env1, h1, h2, h3, h4⟩ := h y (hy y List.mem_cons_self)
      have ih' := ih fun x hx => hy x (List.mem_cons_of_mem _ hx)
      show compM vs p t m (e y :: ys.map e) _ = _
      unfold compM
      show (match p.bind (e y) (wipeE env vs) with | none => none | some env1 => _) = _
      rw [h1]
      show bnd t _ ⟨env1, s⟩ = _
      cases hq : q y with
      | true =>
        rw [hq] at h3
        rw [bnd_eq h3, if_pos rfl, bnd_eq (h4 hq)]
        show bnd (compM vs p t m (ys.map e)) _ ⟨wipeE env1 vs, s⟩ = _
        rw [h2, bnd_eq ih', List.filter_cons, if_pos hq]
        rfl
      | false =>
        rw [hq] at h3
        rw [bnd_eq h3, if_neg Bool.false_ne_true]
        show compM vs p t m (ys.map e) ⟨wipeE env1 vs, s⟩ = _
        rw [h2, ih', List.filter_cons, if_neg (by rw [hq]; exact Bool.false_ne_true)]
  unfold compD
  rw [bnd_eq hi]
  show (if vs.all (fun v => !(env.getD v .un).isOwn) = true ∧ (xs.map e).length ≤ 1000000 then _ else _) = _
  rw [if_pos ⟨ho, by rw [List.length_map]; exact hl⟩, key xs fun _ h => h]
  show some (PyData.list ((xs.filter q).map f), ({ env := backE env (wipeE env vs) vs, src := s } : Sta)) = _
  rw [hb]
end
theorem e_def {n : Nat} {b : MS} {as : List Arg} {s : Src} {d : D} {S' : Sta} (h : b ⟨as.map slotOf ++ List.replicate (n - as.length) .un, s⟩ = some (.rt d, S')) : defM n b as s = some (d, S'.src) := by
  unfold defM
  rw [h]
/-! ### data -/
abbrev dI (n : Int) : D := .int n
abbrev tI' (ns : List Int) : D := .tuple (ns.map PyData.int)
abbrev lI (ns : List Int) : D := .list (ns.map PyData.int)
abbrev pI (p : Int × Int) : D := .tuple [.int p.1, .int p.2]
theorem eqvAll_ints : ∀ (a b : List Int), PyData.eqvAll (a.map PyData.int) (b.map PyData.int) = decide (a = b)
  | [], [] => by simp [PyData.eqvAll]
  | [], _ :: _ => by simp [PyData.eqvAll]
  | _ :: _, [] => by simp [PyData.eqvAll]
  | x :: a, y :: b => by
    have ih := eqvAll_ints a b
    simp only [List.map_cons, PyData.eqvAll, PyData.eqv, ih]
    by_cases h : x = y
    · subst h
      by_cases h2 : a = b
      · simp [h2]
      · simp [h2]
    · simp [h]
theorem lay_ints : ∀ a : List Int, PyData.canLayAll0 (a.map PyData.int) = true
  | [] => by simp [PyData.canLayAll0]
  | x :: a => by simp [PyData.canLayAll0, PyData.canLay0, lay_ints a]
theorem dep_ints : ∀ a : List Int, PyData.depthAll (a.map PyData.int) = 0
  | [] => by simp [PyData.depthAll]
  | x :: a => by simp [PyData.depthAll, PyData.depth, dep_ints a]
theorem ok_lI (a : List Int) : okD (lI a) = true := by
  unfold okD
  simp [PyData.canLay0, PyData.depth, lay_ints, dep_ints]
theorem ok_tI (a : List Int) : okD (tI' a) = true := by
  unfold okD
  simp [PyData.canLay0, PyData.depth, lay_ints, dep_ints]
theorem eq_lI (a b : List Int) : eqD (lI a) (lI b) = some (.bool (decide (a = b))) := by
  unfold eqD
  rw [if_pos ⟨ok_lI a, ok_lI b⟩]
  show some (PyData.bool (PyData.eqv (.list _) (.list _))) = _
  simp only [PyData.eqv]
  rw [eqvAll_ints]
theorem ne_lI (a b : List Int) : neD (lI a) (lI b) = some (.bool (decide (a ≠ b))) := by
  unfold neD
  rw [if_pos ⟨ok_lI a, ok_lI b⟩]
  show some (PyData.bool (!PyData.eqv (.list _) (.list _))) = _
  simp only [PyData.eqv]
  rw [eqvAll_ints]
  simp
theorem ne_tI (a b : List Int) : neD (tI' a) (tI' b) = some (.bool (decide (a ≠ b))) := by
  unfold neD
  rw [if_pos ⟨ok_tI a, ok_tI b⟩]
  show some (PyData.bool (!PyData.eqv (.tuple _) (.tuple _))) = _
  simp only [PyData.eqv]
  rw [eqvAll_ints]
  simp
theorem eq_int (a b : Int) : eqD (.int a) (.int b) = some (.bool (decide (a = b))) := by
  unfold eqD okD
  simp [PyData.canLay0, PyData.depth, PyData.eqv]
  by_cases h : a = b <;> simp [h]
theorem ne_int (a b : Int) : neD (.int a) (.int b) = some (.bool (decide (a ≠ b))) := by
  unfold neD okD
  simp [PyData.canLay0, PyData.depth, PyData.eqv]
  by_cases h : a = b <;> simp [h]
theorem ne_bool (a b : Bool) : neD (.bool a) (.bool b) = some (.bool (decide (a ≠ b))) := by
  unfold neD okD
  cases a <;> cases b <;> simp [PyData.canLay0, PyData.depth, PyData.eqv]
end DL

-- part K46a
set_option Elab.async false
set_option linter.all false
set_option maxRecDepth 100000
set_option maxHeartbeats 1000000
namespace K46
open PySem PySem.Spec PyProof.Rows L2 RZ DL
def topS (i : Nat) : Stmt := PySem.Challenge.pw_beforeitcomes_k46_whole_prices_as_cost_t.main.body.getD i (.Pass ⟨0, 0, 0, 0⟩)
abbrev s__law_open_cells : Stmt := topS 29
abbrev N__law_open_cells : List Str := ["script", "stirred", "cell", "cells"]
theorem sc__law_open_cells : FnScope N__law_open_cells ["script"] (defScope s__law_open_cells) := ⟨rfl, rfl, rfl, by decide +kernel, rfl, by decide +kernel, by decide +kernel⟩
theorem c__law_open_cells {P : Program} {w : World} {K : PySem.W.Frag} {mg : Str → Option Value} {base : Heap} {f : Addr} {fd : FuncData} (F : FnP K "_law_open_cells" s__law_open_cells f fd) (hm : mg "_law_open_cells" = some (.ref f)) (g_abs : mg "abs" = none) (g_int : mg "int" = none) :
    FnOk P w K mg base CX0 1 f fd ["script"] (spOpen K) := by
  refine F.ok sc__law_open_cells (fun vs H Q E q => ?_) (fun cdv A outer s H vs Q E hr q => ⟨_, PSs.nox (pss_cons (ps_set (i := 1) sc__law_open_cells.nd rfl (Or.inl rfl) pe_int)
    (pss_cons (ps_for PassesOwn.never rfl (pi_list (pv 0)) (pg_name (i := 2) sc__law_open_cells.nd rfl (Or.inl rfl)) (pss_one (ps_set (i := 1) sc__law_open_cells.nd rfl (Or.inl rfl) (pe_op op_modN (pe_callTy call_int1 rfl g_int b_int (pa_cons (pe_op op_add (pe_op op_add (pe_op op_mulO (pv 1) pe_int) (pe_op op_mulO (pv 2) pe_int)) pe_int) pa_nil)) pe_int))))
    (pss_cons (ps_setLc (i := 3) (own := [("cell", 2)]) rfl sc__law_open_cells.nd rfl rfl (sw_true rfl rfl rfl (by decide +kernel)) (pi_list (pv 0)) (blkOk_by (by kernel_rfl)) (fun _ _ _ _ _ => pg_name (i := 2) sc__law_open_cells.nd rfl (Or.inl rfl)) (fun _ _ _ _ _ => pts_nil) (fun _ _ _ _ _ => pe_callB call_abs rfl g_abs b_abs (pa_cons (pv 2) pa_nil)))
    (pss_one (ps_ret (pe_disp (pps_cons pe_str (pe_revL (pv 3)) (pps_cons pe_str pe_int (pps_cons pe_str (pv 1) (pps_cons pe_str pe_int pps_nil)))) rfl rfl (by decide) (by decide))))))), ?_⟩)
  · obtain ⟨a, ns, rfl, _⟩ := q
    rfl
  obtain ⟨a, ns, rfl, hlen, hS, q⟩ := q
  have hsz := sizeLine_eq
  refine ⟨_, rfl, a, rfl, ⟨_, hS⟩, ?_⟩
  refine for_list (xs := ns.map V.int) (fun i σ H' => H' = H ∧ ∃ cc, σ = [some (.ref a), some (.int (stir (ns.take i))), cc, none]) ⟨rfl, none, rfl⟩ (fun i σ H' _ p => by rw [p.1]; exact hS) ?_ ?_
  · rintro i x σ H' hx ⟨rfl, cc, rfl⟩
    rw [List.getElem?_map] at hx
    cases hi : ns[i]? with
    | none =>
      rw [hi] at hx
      cases hx
    | some c =>
      rw [hi] at hx
      cases hx
      refine ⟨_, rfl, _, _, rfl, rfl, .inr (by decide), _, rfl, _, _, rfl, rfl, .inr (by decide), _, _, rfl, rfl, _, _, rfl, rfl, .inl ⟨_, rfl, _, _, rfl, rfl, (show (2147483629 : Int) ≠ 0 by decide), rfl, some (.int c), ?_⟩⟩
      rw [stir_succ hi]
      rfl
  · rintro σ H' ⟨rfl, cc, rfl⟩
    rw [List.length_map, List.take_length]
    refine ⟨_, rfl, a, rfl, ⟨_, hS⟩, fun Dl hD => ?_⟩
    have hDa : ∀ H2 xs, SqL K H' a xs → SqL K (upd H' Dl H2) a xs := fun H2 xs h => sqL_up (upd_up hD) h
    refine lc_list (xs := ns.map V.int) (fun k Hk => Hk = upd H' Dl (.lst ((ns.take k).map fun i => V.int (absI i)))) rfl (fun i Hk _ p => by rw [p]; exact hDa _ _ hS) ?_ ?_
    · rintro i x Hk hx rfl
      rw [List.getElem?_map] at hx
      cases hi : ns[i]? with
      | none =>
        rw [hi] at hx
        cases hx
      | some c =>
        rw [hi] at hx
        cases hx
        refine ⟨rfl, ?_⟩
        unfold tYes
        dsimp only
        rw [if_pos rfl]
        refine ⟨_, rfl, c, rfl, _, upd_same, ?_, ?_⟩
        · rw [List.length_map, List.length_take]
          omega
        · rw [upd_upd, List.take_add_one, hi]
          simp
          rfl
    · rintro Hk rfl
      rw [List.length_map, List.take_length]
      intro p hp
      have hpD : p ≠ Dl := fun e => by
        rw [e, upd_same] at hp
        cases hp
      have hp' : H' p = none := by
        rw [upd_ne hpD] at hp
        exact hp
      refine ⟨_, rfl, Dl, ns.map fun i => V.int (absI i), rfl, .inl (.inl ?_), fun r hr2 => ?_⟩
      · rw [upd_ne (Ne.symm hpD), upd_same]
      have hrp : r ≠ p := fun e => by
        rw [e, upd_same] at hr2
        cases hr2
      have hrD : r ≠ Dl := fun e => by
        rw [upd_ne hrp, e, upd_same] at hr2
        cases hr2
      have hr' : H' r = none := by
        rw [upd_ne hrp, upd_ne hrD] at hr2
        exact hr2
      refine ⟨_, rfl, ?_, kvSrc r (openS ns), rfl, (show 4 ≤ 15 by decide), ?_⟩
      · rw [upd_ne (Ne.symm hrp), upd_same]
      · rw [mergeK_src]
        refine q _ p r (fun b o e => ?_) hp' hr' ⟨upd_same, ?_⟩
        · have n1 : b ≠ p := fun w => by rw [w, hp'] at e; cases e
          have n2 : b ≠ r := fun w => by rw [w, hr'] at e; cases e
          have n3 : b ≠ Dl := fun w => by rw [w, hD] at e; cases e
          rw [upd_ne n1, upd_ne n2, upd_ne n1, upd_ne n3]
          exact e
        · rw [upd_ne hrp, upd_same]
          unfold openS
          rw [List.map_reverse, List.map_map]
          rfl
abbrev s__law_pick : Stmt := topS 30
abbrev N__law_pick : List Str := ["source", "most", "cells", "others", "lap", "stirred"]
theorem sc__law_pick : FnScope N__law_pick ["source", "most"] (defScope s__law_pick) := ⟨rfl, rfl, rfl, by decide +kernel, rfl, by decide +kernel, by decide +kernel⟩
theorem c__law_pick {P : Program} {w : World} {K : PySem.W.Frag} {mg : Str → Option Value} {base : Heap} {f : Addr} {fd : FuncData} (F : FnP K "_law_pick" s__law_pick f fd) (hm : mg "_law_pick" = some (.ref f)) (g_len : mg "len" = none) (g_int : mg "int" = none) :
    Cal P w K mg base "_law_pick" 2 1 pickF := by
  refine ⟨⟨f, fd, ["source", "most"], F.ok sc__law_pick (fun vs H Q E q => spD_len q) (fun cdv A outer s H vs Q E hr q => ⟨_, PSs.nox (pss_cons (ps_if (pt_cmpR op_lt (pv 1) pe_int (nomark _)) (pss_one (ps_ret pe_int)) pss_nil)
    (pss_cons (ps_set (i := 2) sc__law_pick.nd rfl (Or.inl rfl) (pe_dget (hu1 hr) (pv 0) pe_str (fun _ _ => rfl)))
    (pss_cons (ps_while PassesOwn.never (PW.pt (pw_and (pt_cmpR op_lt (pe_dget (hu1 hr) (pv 0) pe_str (fun _ _ => rfl)) pe_int (nomark _)) (pw_and1 (pt_cmpR op_gt (pe_callB call_len_seq rfl g_len b_len (pa_cons (pv 2) pa_nil)) pe_int (nomark _)))))
      (pss_one (ps_dput (hu1 hr) (pv 0) pe_str (pe_bm0 PySem.F.plainAttrs_list PySem.F.slot_list_pop PySem.F.type_list_pop mt_pop (pv 2)) rfl)))
    (pss_cons (ps_set (i := 3) sc__law_pick.nd rfl (Or.inl rfl) (pe_dget (hu1 hr) (pv 0) pe_str (fun _ _ => rfl)))
    (pss_cons (ps_if (pt_cmpR op_gt (pv 3) pe_int (nomark _)) (pss_cons (ps_dput (hu1 hr) (pv 0) pe_str (pe_op op_fdivW (pv 3) (pv 1)) rfl) (pss_one (ps_ret (pe_op op_modN (pe_callTy call_int1 rfl g_int b_int (pa_cons (pv 3) pa_nil)) (pv 1))))) pss_nil)
    (pss_cons (ps_dput (hu1 hr) (pv 0) pe_str (pe_op op_add (pe_dget (hu1 hr) (pv 0) pe_str (fun _ _ => rfl)) pe_int) rfl)
    (pss_cons (ps_set (i := 4) sc__law_pick.nd rfl (Or.inl rfl) (pe_dget (hu1 hr) (pv 0) pe_str (fun _ _ => rfl)))
    (pss_cons (ps_set (i := 5) sc__law_pick.nd rfl (Or.inl rfl) (pe_op op_modN (pe_callTy call_int1 rfl g_int b_int (pa_cons (pe_op op_add (pe_dget (hu1 hr) (pv 0) pe_str (fun _ _ => rfl)) (pe_op op_mulO (pv 4) pe_int)) pa_nil)) pe_int))
    (pss_cons (ps_set (i := 5) sc__law_pick.nd rfl (Or.inl rfl) (pe_op op_modN (pe_callTy call_int1 rfl g_int b_int (pa_cons (pe_op op_add (pe_op op_mulO (pv 5) (pv 5)) (pe_op op_mulO (pv 4) pe_int)) pa_nil)) pe_int))
    (pss_one (ps_ret (pe_op op_modN (pe_callTy call_int1 rfl g_int b_int (pa_cons (pe_op op_fdivW (pv 5) pe_int) pa_nil)) (pv 1))))))))))))), ?_⟩), hm, F.kp, F.bindsN fun _ _ _ _ _ _ us hl => match us, hl with | [_, _], _ => rfl⟩⟩
  obtain ⟨ps, pc, F0, as, s0, d, s', hn, hF, hA, hS, fps, fpc, hm', k⟩ := q
  match as, hA, hm', hn with
  | [.src, .d (.int m)], hA, hm', _ =>
    have hm2 : (if m.natAbs < 2 ^ 60 then some (PyData.int (pickS m s0).1, (pickS m s0).2) else none) = some (d, s') := hm'
    by_cases hb : m.natAbs < 2 ^ 60
    · rw [if_pos hb] at hm2
      cases hm2
      cases hA with
      | @cons v1 _ vs1 _ ha hA =>
        cases hA with
        | @cons v2 _ vs2 _ ha2 hA =>
          cases hA
          obtain rfl : v1 = .ref ps := ha
          have ha2' : Dp K F0 v2 (.int m) := ha2
          cases ha2'
          have ne := hS.ne
          rw [← hS.eq]
          have fin : ∀ (r : Int) (s2 : Src), r = (pickS m s0).1 → s2 = (pickS m s0).2 → Q (.int r) (stH H ps pc s2) := fun r s2 e1 e2 => by
            subst e1 e2
            refine k F0 _ _ (Same.refl _) (fun b o e => ?_) (fun a o e => .inl e) (fun a o e n1 n2 => ?_) (stH_at ne) (.int _)
            · have n1 : b ≠ ps := fun w => by rw [w, fps] at e; cases e
              have n2 : b ≠ pc := fun w => by rw [w, fpc] at e; cases e
              rw [stH_o n1 n2]
              exact hF b o e
            · rw [stH_o n1 n2]
              exact e
          clear hS k hF fps fpc
          unfold pickS at fin
          refine ⟨_, rfl, _, _, rfl, rfl, _, rfl, ?_⟩
          by_cases h2 : m < 2
          · exact ite_t (decide_eq_true h2) (fin 0 s0 (by rw [if_pos h2]) (by rw [if_pos h2]))
          refine ite_f (decide_eq_false h2) ?_
          rw [if_neg h2] at fin
          have hm0 : 0 < m := by omega
          have hlog : m.natAbs.log2 < 9000 := by
            have h0 : m.natAbs ≠ 0 := by omega
            have := (Nat.log2_lt h0).mpr hb
            omega
          refine ⟨_, rfl, ps, .ref pc, rfl, get_cells, ?_⟩
          refine ⟨fun n σ Hn => ∃ left cs, n = cs.length ∧ σ = [some (.ref ps), some (.int m), some (.ref pc), none, none, none] ∧ Hn = stH H ps pc { s0 with cells := cs.reverse, left := left } ∧ popR left cs = popR s0.left s0.cells.reverse, ⟨_, s0.left, s0.cells.reverse, rfl, rfl, by rw [List.reverse_reverse], rfl⟩, ?_⟩
          rintro n σ Hn ⟨left, cs, rfl, rfl, rfl, hpop⟩
          refine tAnd_val (x := decide (left < 2)) (y := decide ((0 : Int) < (((cs.reverse.map V.int).length : Nat) : Int))) (fun Q' q' => ⟨_, rfl, ps, _, rfl, get_left, _, _, rfl, rfl, _, rfl, q'⟩) (fun Q' q' => ⟨_, rfl, pc, cs.reverse.map V.int, rfl, .inl (.inl (.inl (stH_l ne))), _, _, rfl, rfl, _, rfl, q'⟩) ?_
          by_cases hgo : left < 2 ∧ cs ≠ []
          · obtain ⟨hl, hc⟩ := hgo
            match cs, hc with
            | c1 :: cs, _ =>
              have hlen : (0 : Int) < ((((c1 :: cs).reverse.map V.int).length : Nat) : Int) := by simp
              refine ite_t (by rw [decide_eq_true hl, decide_eq_true hlen]; rfl) ⟨fun σ' H' => σ' = [some (.ref ps), some (.int m), some (.ref pc), none, none, none] ∧ H' = stH H ps pc { s0 with cells := cs.reverse, left := c1 }, ?_, ?_⟩
              · rintro σ' H' ⟨rfl, rfl⟩
                refine ⟨cs.length, by simp, c1, cs, rfl, rfl, rfl, ?_⟩
                rw [← hpop]
                show popR c1 cs = if left < 2 then popR c1 cs else (left, c1 :: cs)
                rw [if_pos hl]
              · refine ⟨_, rfl, .inl ⟨rfl, _, .inl (.inl (stH_l ne))⟩, pc, _, .int c1, rfl, rfl, stH_l ne, ?_, ?_⟩
                · simp
                · have hp : upd (stH H ps pc { s0 with cells := (c1 :: cs).reverse, left := left }) pc (.lst (((c1 :: cs).reverse.map V.int).dropLast)) = stH H ps pc { s0 with cells := cs.reverse, left := left } := stH_pop (s' := { s0 with cells := cs.reverse, left := left }) ne (by simp) rfl rfl rfl
                  exact ⟨_, rfl, ps, stH H ps pc { s0 with cells := cs.reverse, left := c1 }, rfl, hp ▸ put_left (s := { s0 with cells := cs.reverse, left := left }) c1, rfl, rfl⟩
          · have hst := popR_stop hgo
            refine ite_f ?_ ?_
            · by_cases hl : left < 2
              · have hc : cs = [] := Classical.byContradiction fun w => hgo ⟨hl, w⟩
                subst hc
                simp
              · rw [decide_eq_false hl]
                rfl
            · rw [← hpop, hst] at fin
              refine ⟨_, rfl, ps, _, rfl, get_left, ?_⟩
              refine ⟨_, rfl, _, _, rfl, rfl, _, rfl, ?_⟩
              by_cases h1 : 1 < left
              · refine ite_t (decide_eq_true h1) ?_
                refine ⟨_, rfl, _, rfl, left, m, rfl, rfl, ⟨hm0, hlog⟩, _, rfl, ps, _, rfl, put_left (left / m), ?_⟩
                refine ⟨_, rfl, .inl ⟨left, rfl, _, rfl, left, m, rfl, rfl, by omega, ?_⟩⟩
                exact fin _ _ (by simp only [if_pos h1]) (by simp only [if_pos h1])
              · refine ite_f (decide_eq_false h1) ?_
                simp only [if_neg h1] at fin
                refine ⟨_, rfl, ps, _, rfl, get_turn, _, _, rfl, rfl, _, rfl, ps, _, rfl, put_turn (s0.turn + 1), ?_⟩
                refine ⟨_, rfl, ps, _, rfl, get_turn, ?_⟩
                have hsm : ((s0.mixed + (s0.turn + 1) * 104729).fmod 998244353).natAbs < 2 ^ 60 := by
                  have := fmod_bd (a := s0.mixed + (s0.turn + 1) * 104729) (m := 998244353) (by decide)
                  omega
                refine ⟨_, rfl, ps, _, rfl, get_mixed, _, rfl, _, _, rfl, rfl, .inr (by decide), _, _, rfl, rfl, .inl ⟨_, rfl, _, _, rfl, rfl, (show (998244353 : Int) ≠ 0 by decide), ?_⟩⟩
                refine ⟨_, rfl, _, rfl, _, _, rfl, rfl, .inl hsm, _, rfl, _, _, rfl, rfl, .inr (by decide), _, _, rfl, rfl, .inl ⟨_, rfl, _, _, rfl, rfl, (show (2147483647 : Int) ≠ 0 by decide), ?_⟩⟩
                refine ⟨_, rfl, _, _, rfl, rfl, ⟨(show (0 : Int) < 16 by decide), (show (16 : Int).natAbs.log2 < 9000 by decide)⟩, .inl ⟨_, rfl, _, rfl, _, _, rfl, rfl, (show m ≠ 0 by omega), ?_⟩⟩
                exact fin _ _ rfl rfl
    · rw [if_neg hb] at hm2
      cases hm2
end K46

-- part K46b
set_option Elab.async false
set_option linter.all false
set_option maxRecDepth 100000
set_option maxHeartbeats 1000000
namespace K46
open PySem PySem.Spec PyProof.Rows L2 RZ DL
noncomputable def f__law_pick : DF := pickF
abbrev s_share_number : Stmt := topS 1
abbrev N_share_number : List Str := ["p", "q", "a", "b"]
theorem sc_share_number : FnScope N_share_number ["p", "q"] (defScope s_share_number) := ⟨rfl, rfl, rfl, by decide +kernel, rfl, by decide +kernel, by decide +kernel⟩
noncomputable def d_share_number : MS :=
  (seqS (par2 2 3 (consL (callN absD (consL (vD 0) (ret []))) (consL (vD 1) (ret []))))
  (seqS (whileS (toB (op2 gtI (vD 3) (cD (.int 0)))) (par2 2 3 (consL (vD 3) (consL (op2 modI (vD 2) (vD 3)) (ret [])))))
  (retS (tupD (consL (op2 divI (vD 0) (vD 2)) (consL (op2 divI (vD 1) (vD 2)) (ret [])))))))
noncomputable def f_share_number : DF := defM 4 d_share_number
theorem c_share_number {P : Program} {w : World} {K : PySem.W.Frag} {mg : Str → Option Value} {base : Heap} {f : Addr} {fd : FuncData} (F : FnP K "share_number" s_share_number f fd) (hm : mg "share_number" = some (.ref f)) (g_abs : mg "abs" = none) :
    Cal P w K mg base "share_number" 2 1 f_share_number :=
  def_in F sc_share_number (by decide) hm (fun _ _ _ _ _ _ us hl => match us, hl with | [_, _], _ => rfl) fun c cdv A outer s H E hr =>
  (dss_cons (ds_par rfl sc_share_number.nd (dl_cons (de_callB callr_abs rfl g_abs b_abs (dl_cons (de_var 0) dl_nil)) (dl_cons (de_var 1) dl_nil)) rfl (by decide) (i := 2) (j := 3))
  (dss_cons (ds_while PassesOwn.never (dt_cmp opd_gt (de_var 3) de_int) (dss_one (ds_par rfl sc_share_number.nd (dl_cons (de_var 3) (dl_cons (de_op opd_mod (de_var 2) (de_var 3)) dl_nil)) rfl (by decide) (i := 2) (j := 3))))
  (dss_one (ds_ret (de_tup (dl_cons (de_op opd_div (de_var 0) (de_var 2)) (dl_cons (de_op opd_div (de_var 1) (de_var 2)) dl_nil)))))))
abbrev s_is_less_share : Stmt := topS 2
abbrev N_is_less_share : List Str := ["x", "y"]
theorem sc_is_less_share : FnScope N_is_less_share ["x", "y"] (defScope s_is_less_share) := ⟨rfl, rfl, rfl, by decide +kernel, rfl, by decide +kernel, by decide +kernel⟩
noncomputable def d_is_less_share : MS :=
  (retS (op2 ltI (op2 mulS (op2 ixD (vD 0) (cD (.int 0))) (op2 ixD (vD 1) (cD (.int 1)))) (op2 mulS (op2 ixD (vD 1) (cD (.int 0))) (op2 ixD (vD 0) (cD (.int 1))))))
noncomputable def f_is_less_share : DF := defM 2 d_is_less_share
theorem c_is_less_share {P : Program} {w : World} {K : PySem.W.Frag} {mg : Str → Option Value} {base : Heap} {f : Addr} {fd : FuncData} (F : FnP K "is_less_share" s_is_less_share f fd) (hm : mg "is_less_share" = some (.ref f)) :
    Cal P w K mg base "is_less_share" 2 1 f_is_less_share :=
  def_in F sc_is_less_share (by decide) hm (fun _ _ _ _ _ _ us hl => match us, hl with | [_, _], _ => rfl) fun c cdv A outer s H E hr =>
  (dss_one (ds_ret (de_cmp opd_lt (de_op opd_mulS (de_ix (de_var 0) de_int) (de_ix (de_var 1) de_int)) (de_op opd_mulS (de_ix (de_var 1) de_int) (de_ix (de_var 0) de_int)))))
abbrev s_greater_share : Stmt := topS 3
abbrev N_greater_share : List Str := ["x", "y"]
theorem sc_greater_share : FnScope N_greater_share ["x", "y"] (defScope s_greater_share) := ⟨rfl, rfl, rfl, by decide +kernel, rfl, by decide +kernel, by decide +kernel⟩
noncomputable def d_greater_share : MS :=
  (retS (ifD (toB (callD f_is_less_share (consA (vD 0) (consA (vD 1) (ret []))))) (vD 1) (vD 0)))
noncomputable def f_greater_share : DF := defM 2 d_greater_share
theorem c_greater_share {P : Program} {w : World} {K : PySem.W.Frag} {mg : Str → Option Value} {base : Heap} {f : Addr} {fd : FuncData} (F : FnP K "greater_share" s_greater_share f fd) (hm : mg "greater_share" = some (.ref f)) (C_is_less_share : Cal P w K mg base "is_less_share" 2 1 f_is_less_share) :
    Cal P w K mg base "greater_share" 2 2 f_greater_share :=
  def_in F sc_greater_share (by decide) hm (fun _ _ _ _ _ _ us hl => match us, hl with | [_, _], _ => rfl) fun c cdv A outer s H E hr =>
  (dss_one (ds_ret (de_if (dt_val (de_c C_is_less_share hr (by decide) rfl (da_cons (de_var 0) (da_cons (de_var 1) da_nil)) (len_cons (len_cons (fun _ _ _ h => len_nil h))))) (de_var 1) (de_var 0))))
abbrev s_is_cost : Stmt := topS 5
abbrev N_is_cost : List Str := ["value"]
theorem sc_is_cost : FnScope N_is_cost ["value"] (defScope s_is_cost) := ⟨rfl, rfl, rfl, by decide +kernel, rfl, by decide +kernel, by decide +kernel⟩
noncomputable def d_is_cost : MS :=
  (retS (andV (op1 (isiD "int") (vD 0)) (andV (notV (op1 (isiD "bool") (vD 0))) (op2 geI (vD 0) (cD (.int 0))))))
noncomputable def f_is_cost : DF := defM 1 d_is_cost
theorem c_is_cost {P : Program} {w : World} {K : PySem.W.Frag} {mg : Str → Option Value} {base : Heap} {f : Addr} {fd : FuncData} (F : FnP K "is_cost" s_is_cost f fd) (hm : mg "is_cost" = some (.ref f)) (g_bool : mg "bool" = none) (g_int : mg "int" = none) (g_isinstance : mg "isinstance" = none) :
    Cal P w K mg base "is_cost" 1 1 f_is_cost :=
  def_in F sc_is_cost (by decide) hm (fun _ _ _ _ _ _ us hl => match us, hl with | [_], _ => rfl) fun c cdv A outer s H E hr =>
  (dss_one (ds_ret (de_and (de_isi (de_var 0) rfl g_isinstance b_isinstance rfl g_int b_int) (de_and (de_not (de_isi (de_var 0) rfl g_isinstance b_isinstance rfl g_bool b_bool)) (de_one (de_cmp opd_ge (de_var 0) de_int))))))
abbrev s_least_costs : Stmt := topS 6
abbrev N_least_costs : List Str := ["table", "row", "i"]
theorem sc_least_costs : FnScope N_least_costs ["table"] (defScope s_least_costs) := ⟨rfl, rfl, rfl, by decide +kernel, rfl, by decide +kernel, by decide +kernel⟩
noncomputable def d_least_costs : MS :=
  (retS (callN tupleD (consL (compD [2] (rangeI1 (consL (callN lenD (consL (op2 ixD (vD 0) (cD (.int 0))) (ret []))) (ret []))) (.nm 2) (ret true) (callN (altN min1L min1T) (consL (compD [1] (seqI (vD 0)) (.nm 1) (ret true) (op2 ixD (vD 1) (vD 2))) (ret [])))) (ret []))))
noncomputable def f_least_costs : DF := defM 3 d_least_costs
theorem c_least_costs {P : Program} {w : World} {K : PySem.W.Frag} {mg : Str → Option Value} {base : Heap} {f : Addr} {fd : FuncData} (F : FnP K "least_costs" s_least_costs f fd) (hm : mg "least_costs" = some (.ref f)) (g_len : mg "len" = none) (g_min : mg "min" = none) (g_range : mg "range" = none) (g_tuple : mg "tuple" = none) :
    Cal P w K mg base "least_costs" 1 1 f_least_costs :=
  def_in F sc_least_costs (by decide) hm (fun _ _ _ _ _ _ us hl => match us, hl with | [_], _ => rfl) fun c cdv A outer s H E hr =>
  (dss_one (ds_ret (de_callTy callr_tuple rfl g_tuple b_tuple (dl_cons (de_comp rfl sc_least_costs.nd (di_range1 rfl g_range (dl_cons (de_callB callr_len rfl g_len b_len (dl_cons (de_ix (de_var 0) de_int) dl_nil)) dl_nil)) (own := [("i", 2)]) (blkOk_by (by kernel_rfl)) (by decide) (fun _ _ _ _ _ => (dg_nm 2 sc_least_costs.nd)) (fun _ _ _ _ _ => dts_nil) (fun _ _ _ _ _ _ => (de_callB (callr_min1 rfl) rfl g_min b_min (dl_cons (de_comp rfl sc_least_costs.nd (di_seq (de_var 0)) (own := [("row", 1)]) (blkOk_by (by kernel_rfl)) (by decide) (fun _ _ _ _ _ => (dg_nm 1 sc_least_costs.nd)) (fun _ _ _ _ _ => dts_nil) (fun _ _ _ _ _ _ => (de_ix (de_var 1) (de_var 2)))) dl_nil)))) dl_nil))))
abbrev s_way_share : Stmt := topS 7
abbrev N_way_share : List Str := ["table", "k", "found", "cost", "least"]
theorem sc_way_share : FnScope N_way_share ["table", "k"] (defScope s_way_share) := ⟨rfl, rfl, rfl, by decide +kernel, rfl, by decide +kernel, by decide +kernel⟩
noncomputable def d_way_share : MS :=
  (seqS (asgS 2 (tupD (consL (cD (.int 1)) (consL (cD (.int 1)) (ret [])))))
  (seqS (forS (zipI (consL (op2 ixD (vD 0) (vD 1)) (consL (callD f_least_costs (consA (vD 0) (ret []))) (ret [])))) (.tp [(.nm 3), (.nm 4)]) (seqS (ifS (andT (toB (op2 eqD (vD 4) (cD (.int 0)))) (toB (op2 gtI (vD 3) (cD (.int 0))))) (retS (cD .none)) (ret .nx))
  (ifS (toB (op2 gtI (vD 4) (cD (.int 0)))) (asgS 2 (callD f_greater_share (consA (vD 2) (consA (callD f_share_number (consA (vD 3) (consA (vD 4) (ret [])))) (ret []))))) (ret .nx))))
  (retS (vD 2))))
noncomputable def f_way_share : DF := defM 5 d_way_share
theorem c_way_share {P : Program} {w : World} {K : PySem.W.Frag} {mg : Str → Option Value} {base : Heap} {f : Addr} {fd : FuncData} (F : FnP K "way_share" s_way_share f fd) (hm : mg "way_share" = some (.ref f)) (g_zip : mg "zip" = none) (C_greater_share : Cal P w K mg base "greater_share" 2 2 f_greater_share) (C_least_costs : Cal P w K mg base "least_costs" 1 1 f_least_costs) (C_share_number : Cal P w K mg base "share_number" 2 1 f_share_number) :
    Cal P w K mg base "way_share" 2 3 f_way_share :=
  def_in F sc_way_share (by decide) hm (fun _ _ _ _ _ _ us hl => match us, hl with | [_, _], _ => rfl) fun c cdv A outer s H E hr =>
  (dss_cons (ds_asg 2 (de_tup (dl_cons de_int (dl_cons de_int dl_nil))) sc_way_share.nd)
  (dss_cons (ds_for PassesOwn.never rfl (di_zip rfl g_zip (dl_cons (de_ix (de_var 0) (de_var 1)) (dl_cons (de_c C_least_costs hr (by decide) rfl (da_cons (de_var 0) da_nil) (len_cons (fun _ _ _ h => len_nil h))) dl_nil))) (dg_tp rfl (dgs_cons (dg_nm 3 sc_way_share.nd) (dgs_cons (dg_nm 4 sc_way_share.nd) dgs_nil))) (dss_cons (ds_if (DW.dt (dw_and (dt_cmp (opd_eq (hu64 hr)) (de_var 4) de_int) (dw_and1 (dt_cmp opd_gt (de_var 3) de_int)))) (dss_one (ds_ret de_none)) dss_nil)
  (dss_one (ds_if (dt_cmp opd_gt (de_var 4) de_int) (dss_one (ds_asg 2 (de_c C_greater_share hr (by decide) rfl (da_cons (de_var 2) (da_cons (de_c C_share_number hr (by decide) rfl (da_cons (de_var 3) (da_cons (de_var 4) da_nil)) (len_cons (len_cons (fun _ _ _ h => len_nil h)))) da_nil)) (len_cons (len_cons (fun _ _ _ h => len_nil h)))) sc_way_share.nd)) dss_nil))))
  (dss_one (ds_ret (de_var 2)))))
abbrev s_is_no_better : Stmt := topS 8
abbrev N_is_no_better : List Str := ["table", "k", "other", "cost", "late"]
theorem sc_is_no_better : FnScope N_is_no_better ["table", "k", "other"] (defScope s_is_no_better) := ⟨rfl, rfl, rfl, by decide +kernel, rfl, by decide +kernel, by decide +kernel⟩
noncomputable def d_is_no_better : MS :=
  (retS (callN allD (consL (compD [3, 4] (zipI (consL (op2 ixD (vD 0) (vD 1)) (consL (op2 ixD (vD 0) (vD 2)) (ret [])))) (.tp [(.nm 3), (.nm 4)]) (ret true) (op2 geI (vD 3) (vD 4))) (ret []))))
noncomputable def f_is_no_better : DF := defM 5 d_is_no_better
theorem c_is_no_better {P : Program} {w : World} {K : PySem.W.Frag} {mg : Str → Option Value} {base : Heap} {f : Addr} {fd : FuncData} (F : FnP K "is_no_better" s_is_no_better f fd) (hm : mg "is_no_better" = some (.ref f)) (g_all : mg "all" = none) (g_zip : mg "zip" = none) :
    Cal P w K mg base "is_no_better" 3 1 f_is_no_better :=
  def_in F sc_is_no_better (by decide) hm (fun _ _ _ _ _ _ us hl => match us, hl with | [_, _, _], _ => rfl) fun c cdv A outer s H E hr =>
  (dss_one (ds_ret (de_callB (callr_all rfl) rfl g_all b_all (dl_cons (de_comp rfl sc_is_no_better.nd (di_zip rfl g_zip (dl_cons (de_ix (de_var 0) (de_var 1)) (dl_cons (de_ix (de_var 0) (de_var 2)) dl_nil))) (own := [("cost", 3), ("late", 4)]) (blkOk_by (by kernel_rfl)) (by decide) (fun _ _ _ _ _ => (dg_tp rfl (dgs_cons (dg_nm 3 sc_is_no_better.nd) (dgs_cons (dg_nm 4 sc_is_no_better.nd) dgs_nil)))) (fun _ _ _ _ _ => dts_nil) (fun _ _ _ _ _ _ => (de_cmp opd_ge (de_var 3) (de_var 4)))) dl_nil))))
abbrev s_kept_ways : Stmt := topS 9
abbrev N_kept_ways : List Str := ["table", "left", "k", "other"]
theorem sc_kept_ways : FnScope N_kept_ways ["table"] (defScope s_kept_ways) := ⟨rfl, rfl, rfl, by decide +kernel, rfl, by decide +kernel, by decide +kernel⟩
noncomputable def d_kept_ways : MS :=
  (seqS (asgN 1 (rngD .list (rgM1 (callN lenD (consL (vD 0) (ret []))))))
  (seqS (forS (rangeI3 (consL (op2 subI (callN lenD (consL (vD 0) (ret []))) (cD (.int 1))) (consL (op1 negD (cD (.int 1))) (consL (op1 negD (cD (.int 1))) (ret []))))) (.nm 2) (ifS (peekT 1 (toB (callN anyD (consL (compD [3] (seqI (vD 1)) (.nm 3) (toB (op2 neD (vD 3) (vD 2))) (callD f_is_no_better (consA (vD 0) (consA (vD 2) (consA (vD 3) (ret [])))))) (ret []))))) (remS 1 (vD 2)) (ret .nx)))
  (retS (callN tupleD (consL (vD 1) (ret []))))))
noncomputable def f_kept_ways : DF := defM 4 d_kept_ways
theorem c_kept_ways {P : Program} {w : World} {K : PySem.W.Frag} {mg : Str → Option Value} {base : Heap} {f : Addr} {fd : FuncData} (F : FnP K "kept_ways" s_kept_ways f fd) (hm : mg "kept_ways" = some (.ref f)) (g_any : mg "any" = none) (g_len : mg "len" = none) (g_list : mg "list" = none) (g_range : mg "range" = none) (g_tuple : mg "tuple" = none) (C_is_no_better : Cal P w K mg base "is_no_better" 3 1 f_is_no_better) :
    Cal P w K mg base "kept_ways" 1 2 f_kept_ways :=
  def_in F sc_kept_ways (by decide) hm (fun _ _ _ _ _ _ us hl => match us, hl with | [_], _ => rfl) fun c cdv A outer s H E hr =>
  (dss_cons (ds_new 1 (dn_listRg rfl rfl g_list (dr_1 rfl g_range (de_callB callr_len rfl g_len b_len (dl_cons (de_var 0) dl_nil)))) sc_kept_ways.nd)
  (dss_cons (ds_for PassesOwn.never rfl (di_range3 rfl g_range (dl_cons (de_op opd_sub (de_callB callr_len rfl g_len b_len (dl_cons (de_var 0) dl_nil)) de_int) (dl_cons (de_neg de_int) (dl_cons (de_neg de_int) dl_nil)))) (dg_nm 2 sc_kept_ways.nd) (dss_one (ds_if (dt_peek 1 (dt_val (de_callB (callr_any rfl) rfl g_any b_any (dl_cons (de_comp rfl sc_kept_ways.nd (di_seq (de_var 1)) (own := [("other", 3)]) (blkOk_by (by kernel_rfl)) (by decide) (fun _ _ _ _ _ => (dg_nm 3 sc_kept_ways.nd)) (fun _ _ _ _ _ => (dts_one fun _ => (dt_cmp (opd_ne (hu64 hr)) (de_var 3) (de_var 2)))) (fun _ _ _ _ _ _ => (de_c C_is_no_better hr (by decide) rfl (da_cons (de_var 0) (da_cons (de_var 2) (da_cons (de_var 3) da_nil))) (len_cons (len_cons (len_cons (fun _ _ _ h => len_nil h))))))) dl_nil)))) (dss_one (ds_remove (pe_bm PySem.F.plainAttrs_list PySem.F.slot_list_remove PySem.F.type_list_remove mt_removeI (pv 1) (pa_cons (de_var 2) pa_nil)))) dss_nil)))
  (dss_one (ds_ret (de_callTy callr_tuple rfl g_tuple b_tuple (dl_cons (de_var 1) dl_nil))))))
abbrev s_is_thing : Stmt := topS 11
abbrev N_is_thing : List Str := ["value", "x"]
theorem sc_is_thing : FnScope N_is_thing ["value"] (defScope s_is_thing) := ⟨rfl, rfl, rfl, by decide +kernel, rfl, by decide +kernel, by decide +kernel⟩
noncomputable def d_is_thing : MS :=
  (retS (andV (op1 (isiD "tuple") (vD 0)) (andV (op2 eqD (callN lenD (consL (vD 0) (ret []))) (cD (.int 2))) (callN allD (consL (compD [1] (seqI (vD 0)) (.nm 1) (ret true) (callD f_is_cost (consA (vD 1) (ret [])))) (ret []))))))
noncomputable def f_is_thing : DF := defM 2 d_is_thing
theorem c_is_thing {P : Program} {w : World} {K : PySem.W.Frag} {mg : Str → Option Value} {base : Heap} {f : Addr} {fd : FuncData} (F : FnP K "is_thing" s_is_thing f fd) (hm : mg "is_thing" = some (.ref f)) (g_all : mg "all" = none) (g_isinstance : mg "isinstance" = none) (g_len : mg "len" = none) (g_tuple : mg "tuple" = none) (C_is_cost : Cal P w K mg base "is_cost" 1 1 f_is_cost) :
    Cal P w K mg base "is_thing" 1 2 f_is_thing :=
  def_in F sc_is_thing (by decide) hm (fun _ _ _ _ _ _ us hl => match us, hl with | [_], _ => rfl) fun c cdv A outer s H E hr =>
  (dss_one (ds_ret (de_and (de_isi (de_var 0) rfl g_isinstance b_isinstance rfl g_tuple b_tuple) (de_and (de_cmp (opd_eq (hu64 hr)) (de_callB callr_len rfl g_len b_len (dl_cons (de_var 0) dl_nil)) de_int) (de_one (de_callB (callr_all rfl) rfl g_all b_all (dl_cons (de_comp rfl sc_is_thing.nd (di_seq (de_var 0)) (own := [("x", 1)]) (blkOk_by (by kernel_rfl)) (by decide) (fun _ _ _ _ _ => (dg_nm 1 sc_is_thing.nd)) (fun _ _ _ _ _ => dts_nil) (fun _ _ _ _ _ _ => (de_c C_is_cost hr (by decide) rfl (da_cons (de_var 1) da_nil) (len_cons (fun _ _ _ h => len_nil h))))) dl_nil)))))))
abbrev s_are_things : Stmt := topS 12
abbrev N_are_things : List Str := ["value", "pairs", "thing", "one", "late"]
theorem sc_are_things : FnScope N_are_things ["value"] (defScope s_are_things) := ⟨rfl, rfl, rfl, by decide +kernel, rfl, by decide +kernel, by decide +kernel⟩
noncomputable def d_are_things : MS :=
  (seqS (ifS (orT (notT (toB (op1 (isiD "tuple") (vD 0)))) (orT (toB (op2 eqD (vD 0) (tupD (ret [])))) (notT (toB (callN allD (consL (compD [2] (seqI (vD 0)) (.nm 2) (ret true) (callD f_is_thing (consA (vD 2) (ret [])))) (ret []))))))) (retS (cD (.bool false))) (ret .nx))
  (seqS (asgS 1 (lstOf (zipG (consL (vD 0) (consL (sliceD (vD 0) (someI (cD (.int 1))) (ret none)) (ret []))))))
  (retS (andV (op2 eqD (op2 ixD (op2 ixD (vD 0) (cD (.int 0))) (cD (.int 0))) (cD (.int 0))) (callN allD (consL (compD [3, 4] (seqI (vD 1)) (.tp [(.nm 3), (.nm 4)]) (ret true) (andV (op2 ltI (op2 ixD (vD 3) (cD (.int 0))) (op2 ixD (vD 4) (cD (.int 0)))) (op2 gtI (op2 ixD (vD 3) (cD (.int 1))) (op2 ixD (vD 4) (cD (.int 1)))))) (ret [])))))))
noncomputable def f_are_things : DF := defM 5 d_are_things
theorem c_are_things {P : Program} {w : World} {K : PySem.W.Frag} {mg : Str → Option Value} {base : Heap} {f : Addr} {fd : FuncData} (F : FnP K "are_things" s_are_things f fd) (hm : mg "are_things" = some (.ref f)) (g_all : mg "all" = none) (g_isinstance : mg "isinstance" = none) (g_list : mg "list" = none) (g_tuple : mg "tuple" = none) (g_zip : mg "zip" = none) (C_is_thing : Cal P w K mg base "is_thing" 1 2 f_is_thing) :
    Cal P w K mg base "are_things" 1 3 f_are_things :=
  def_in F sc_are_things (by decide) hm (fun _ _ _ _ _ _ us hl => match us, hl with | [_], _ => rfl) fun c cdv A outer s H E hr =>
  (dss_cons (ds_if (DW.dt (dw_or (dt_not (dt_val (de_isi (de_var 0) rfl g_isinstance b_isinstance rfl g_tuple b_tuple))) (dw_or (dt_cmp (opd_eq (hu64 hr)) (de_var 0) (de_tup dl_nil)) (dw_or1 (dt_not (dt_val (de_callB (callr_all rfl) rfl g_all b_all (dl_cons (de_comp rfl sc_are_things.nd (di_seq (de_var 0)) (own := [("thing", 2)]) (blkOk_by (by kernel_rfl)) (by decide) (fun _ _ _ _ _ => (dg_nm 2 sc_are_things.nd)) (fun _ _ _ _ _ => dts_nil) (fun _ _ _ _ _ _ => (de_c C_is_thing hr (by decide) rfl (da_cons (de_var 2) da_nil) (len_cons (fun _ _ _ h => len_nil h))))) dl_nil)))))))) (dss_one (ds_ret de_bool)) dss_nil)
  (dss_cons (ds_asg 1 (de_listZip rfl rfl g_list rfl g_zip (dl_cons (de_var 0) (dl_cons (de_slice (de_var 0) (do_some de_int) do_none) dl_nil))) sc_are_things.nd)
  (dss_one (ds_ret (de_and (de_cmp (opd_eq (hu64 hr)) (de_ix (de_ix (de_var 0) de_int) de_int) de_int) (de_one (de_callB (callr_all rfl) rfl g_all b_all (dl_cons (de_comp rfl sc_are_things.nd (di_seq (de_var 1)) (own := [("one", 3), ("late", 4)]) (blkOk_by (by kernel_rfl)) (by decide) (fun _ _ _ _ _ => (dg_tp rfl (dgs_cons (dg_nm 3 sc_are_things.nd) (dgs_cons (dg_nm 4 sc_are_things.nd) dgs_nil)))) (fun _ _ _ _ _ => dts_nil) (fun _ _ _ _ _ _ => (de_and (de_cmp opd_lt (de_ix (de_var 3) de_int) (de_ix (de_var 4) de_int)) (de_one (de_cmp opd_gt (de_ix (de_var 3) de_int) (de_ix (de_var 4) de_int)))))) dl_nil))))))))
abbrev s_costs_at : Stmt := topS 13
abbrev N_costs_at : List Str := ["things", "days", "price", "rent"]
theorem sc_costs_at : FnScope N_costs_at ["things", "days"] (defScope s_costs_at) := ⟨rfl, rfl, rfl, by decide +kernel, rfl, by decide +kernel, by decide +kernel⟩
noncomputable def d_costs_at : MS :=
  (retS (compD [2, 3] (seqI (vD 0)) (.tp [(.nm 2), (.nm 3)]) (ret true) (op2 addA (vD 2) (op2 mulS (vD 3) (vD 1)))))
noncomputable def f_costs_at : DF := defM 4 d_costs_at
theorem c_costs_at {P : Program} {w : World} {K : PySem.W.Frag} {mg : Str → Option Value} {base : Heap} {f : Addr} {fd : FuncData} (F : FnP K "costs_at" s_costs_at f fd) (hm : mg "costs_at" = some (.ref f)) :
    Cal P w K mg base "costs_at" 2 1 f_costs_at :=
  def_in F sc_costs_at (by decide) hm (fun _ _ _ _ _ _ us hl => match us, hl with | [_, _], _ => rfl) fun c cdv A outer s H E hr =>
  (dss_one (ds_ret (de_comp rfl sc_costs_at.nd (di_seq (de_var 0)) (own := [("price", 2), ("rent", 3)]) (blkOk_by (by kernel_rfl)) (by decide) (fun _ _ _ _ _ => (dg_tp rfl (dgs_cons (dg_nm 2 sc_costs_at.nd) (dgs_cons (dg_nm 3 sc_costs_at.nd) dgs_nil)))) (fun _ _ _ _ _ => dts_nil) (fun _ _ _ _ _ _ => (de_op opd_addA (de_var 2) (de_op opd_mulS (de_var 3) (de_var 1)))))))
abbrev s_least_have : Stmt := topS 14
abbrev N_least_have : List Str := ["things", "days"]
theorem sc_least_have : FnScope N_least_have ["things", "days"] (defScope s_least_have) := ⟨rfl, rfl, rfl, by decide +kernel, rfl, by decide +kernel, by decide +kernel⟩
noncomputable def d_least_have : MS :=
  (retS (callN (altN min1L min1T) (consL (callD f_costs_at (consA (vD 0) (consA (vD 1) (ret [])))) (ret []))))
noncomputable def f_least_have : DF := defM 2 d_least_have
theorem c_least_have {P : Program} {w : World} {K : PySem.W.Frag} {mg : Str → Option Value} {base : Heap} {f : Addr} {fd : FuncData} (F : FnP K "least_have" s_least_have f fd) (hm : mg "least_have" = some (.ref f)) (g_min : mg "min" = none) (C_costs_at : Cal P w K mg base "costs_at" 2 1 f_costs_at) :
    Cal P w K mg base "least_have" 2 2 f_least_have :=
  def_in F sc_least_have (by decide) hm (fun _ _ _ _ _ _ us hl => match us, hl with | [_, _], _ => rfl) fun c cdv A outer s H E hr =>
  (dss_one (ds_ret (de_callB (callr_min1 rfl) rfl g_min b_min (dl_cons (de_c C_costs_at hr (by decide) rfl (da_cons (de_var 0) (da_cons (de_var 1) da_nil)) (len_cons (len_cons (fun _ _ _ h => len_nil h)))) dl_nil))))
abbrev s_told_state : Stmt := topS 15
abbrev N_told_state : List Str := ["things", "day", "costs"]
theorem sc_told_state : FnScope N_told_state ["things", "day"] (defScope s_told_state) := ⟨rfl, rfl, rfl, by decide +kernel, rfl, by decide +kernel, by decide +kernel⟩
noncomputable def d_told_state : MS :=
  (seqS (asgS 2 (callD f_costs_at (consA (vD 0) (consA (vD 1) (ret [])))))
  (retS (op2 ixOfD (vD 2) (callN (altN min1L min1T) (consL (vD 2) (ret []))))))
noncomputable def f_told_state : DF := defM 3 d_told_state
theorem c_told_state {P : Program} {w : World} {K : PySem.W.Frag} {mg : Str → Option Value} {base : Heap} {f : Addr} {fd : FuncData} (F : FnP K "told_state" s_told_state f fd) (hm : mg "told_state" = some (.ref f)) (g_min : mg "min" = none) (C_costs_at : Cal P w K mg base "costs_at" 2 1 f_costs_at) :
    Cal P w K mg base "told_state" 2 2 f_told_state :=
  def_in F sc_told_state (by decide) hm (fun _ _ _ _ _ _ us hl => match us, hl with | [_, _], _ => rfl) fun c cdv A outer s H E hr =>
  (dss_cons (ds_asg 2 (de_c C_costs_at hr (by decide) rfl (da_cons (de_var 0) (da_cons (de_var 1) da_nil)) (len_cons (len_cons (fun _ _ _ h => len_nil h)))) sc_told_state.nd)
  (dss_one (ds_ret (de_index (hu65 hr) (de_var 2) (de_callB (callr_min1 rfl) rfl g_min b_min (dl_cons (de_var 2) dl_nil))))))
abbrev s_eager_state : Stmt := topS 16
abbrev N_eager_state : List Str := ["things", "day", "costs", "k", "cost"]
theorem sc_eager_state : FnScope N_eager_state ["things", "day"] (defScope s_eager_state) := ⟨rfl, rfl, rfl, by decide +kernel, rfl, by decide +kernel, by decide +kernel⟩
noncomputable def d_eager_state : MS :=
  (seqS (asgS 2 (callD f_costs_at (consA (vD 0) (consA (vD 1) (ret [])))))
  (retS (callN (altN max1L max1T) (consL (compD [3, 4] (enumI (consL (vD 2) (ret []))) (.tp [(.nm 3), (.nm 4)]) (toB (op2 eqD (vD 4) (callN (altN min1L min1T) (consL (vD 2) (ret []))))) (vD 3)) (ret [])))))
noncomputable def f_eager_state : DF := defM 5 d_eager_state
theorem c_eager_state {P : Program} {w : World} {K : PySem.W.Frag} {mg : Str → Option Value} {base : Heap} {f : Addr} {fd : FuncData} (F : FnP K "eager_state" s_eager_state f fd) (hm : mg "eager_state" = some (.ref f)) (g_enumerate : mg "enumerate" = none) (g_max : mg "max" = none) (g_min : mg "min" = none) (C_costs_at : Cal P w K mg base "costs_at" 2 1 f_costs_at) :
    Cal P w K mg base "eager_state" 2 2 f_eager_state :=
  def_in F sc_eager_state (by decide) hm (fun _ _ _ _ _ _ us hl => match us, hl with | [_, _], _ => rfl) fun c cdv A outer s H E hr =>
  (dss_cons (ds_asg 2 (de_c C_costs_at hr (by decide) rfl (da_cons (de_var 0) (da_cons (de_var 1) da_nil)) (len_cons (len_cons (fun _ _ _ h => len_nil h)))) sc_eager_state.nd)
  (dss_one (ds_ret (de_callB (callr_max1 rfl) rfl g_max b_max (dl_cons (de_comp rfl sc_eager_state.nd (di_enum rfl g_enumerate (dl_cons (de_var 2) dl_nil)) (own := [("k", 3), ("cost", 4)]) (blkOk_by (by kernel_rfl)) (by decide) (fun _ _ _ _ _ => (dg_tp rfl (dgs_cons (dg_nm 3 sc_eager_state.nd) (dgs_cons (dg_nm 4 sc_eager_state.nd) dgs_nil)))) (fun _ _ _ _ _ => (dts_one fun _ => (dt_cmp (opd_eq (hu64 hr)) (de_var 4) (de_callB (callr_min1 rfl) rfl g_min b_min (dl_cons (de_var 2) dl_nil))))) (fun _ _ _ _ _ _ => (de_var 3))) dl_nil)))))
abbrev s_cost_by_states : Stmt := topS 17
abbrev N_cost_by_states : List Str := ["things", "states", "price", "k"]
theorem sc_cost_by_states : FnScope N_cost_by_states ["things", "states"] (defScope s_cost_by_states) := ⟨rfl, rfl, rfl, by decide +kernel, rfl, by decide +kernel, by decide +kernel⟩
noncomputable def d_cost_by_states : MS :=
  (seqS (asgS 2 (ifD (toB (op2 neD (vD 1) (lstD (ret [])))) (op2 ixD (op2 ixD (vD 0) (op2 ixD (vD 1) (op1 negD (cD (.int 1))))) (cD (.int 0))) (cD (.int 0))))
  (retS (op2 addA (vD 2) (callN (altN sumD sumTD) (consL (compD [3] (seqI (vD 1)) (.nm 3) (ret true) (op2 ixD (op2 ixD (vD 0) (vD 3)) (cD (.int 1)))) (ret []))))))
noncomputable def f_cost_by_states : DF := defM 4 d_cost_by_states
theorem c_cost_by_states {P : Program} {w : World} {K : PySem.W.Frag} {mg : Str → Option Value} {base : Heap} {f : Addr} {fd : FuncData} (F : FnP K "cost_by_states" s_cost_by_states f fd) (hm : mg "cost_by_states" = some (.ref f)) (g_sum : mg "sum" = none) :
    Cal P w K mg base "cost_by_states" 2 1 f_cost_by_states :=
  def_in F sc_cost_by_states (by decide) hm (fun _ _ _ _ _ _ us hl => match us, hl with | [_, _], _ => rfl) fun c cdv A outer s H E hr =>
  (dss_cons (ds_asg 2 (de_if (dt_cmp (opd_ne (hu64 hr)) (de_var 1) (de_lst dl_nil)) (de_ix (de_ix (de_var 0) (de_ix (de_var 1) (de_neg de_int))) de_int) de_int) sc_cost_by_states.nd)
  (dss_one (ds_ret (de_op opd_addA (de_var 2) (de_callB (callr_sum1 rfl) rfl g_sum b_sum (dl_cons (de_comp rfl sc_cost_by_states.nd (di_seq (de_var 1)) (own := [("k", 3)]) (blkOk_by (by kernel_rfl)) (by decide) (fun _ _ _ _ _ => (dg_nm 3 sc_cost_by_states.nd)) (fun _ _ _ _ _ => dts_nil) (fun _ _ _ _ _ _ => (de_ix (de_ix (de_var 0) (de_var 3)) de_int))) dl_nil))))))
abbrev s_told_cost : Stmt := topS 18
abbrev N_told_cost : List Str := ["things", "days", "day"]
theorem sc_told_cost : FnScope N_told_cost ["things", "days"] (defScope s_told_cost) := ⟨rfl, rfl, rfl, by decide +kernel, rfl, by decide +kernel, by decide +kernel⟩
noncomputable def d_told_cost : MS :=
  (retS (callD f_cost_by_states (consA (vD 0) (consA (compD [2] (rangeI2 (consL (cD (.int 1)) (consL (op2 addA (vD 1) (cD (.int 1))) (ret [])))) (.nm 2) (ret true) (callD f_told_state (consA (vD 0) (consA (vD 2) (ret []))))) (ret [])))))
noncomputable def f_told_cost : DF := defM 3 d_told_cost
theorem c_told_cost {P : Program} {w : World} {K : PySem.W.Frag} {mg : Str → Option Value} {base : Heap} {f : Addr} {fd : FuncData} (F : FnP K "told_cost" s_told_cost f fd) (hm : mg "told_cost" = some (.ref f)) (g_range : mg "range" = none) (C_cost_by_states : Cal P w K mg base "cost_by_states" 2 1 f_cost_by_states) (C_told_state : Cal P w K mg base "told_state" 2 2 f_told_state) :
    Cal P w K mg base "told_cost" 2 3 f_told_cost :=
  def_in F sc_told_cost (by decide) hm (fun _ _ _ _ _ _ us hl => match us, hl with | [_, _], _ => rfl) fun c cdv A outer s H E hr =>
  (dss_one (ds_ret (de_c C_cost_by_states hr (by decide) rfl (da_cons (de_var 0) (da_cons (de_comp rfl sc_told_cost.nd (di_range2 rfl g_range (dl_cons de_int (dl_cons (de_op opd_addA (de_var 1) de_int) dl_nil))) (own := [("day", 2)]) (blkOk_by (by kernel_rfl)) (by decide) (fun _ _ _ _ _ => (dg_nm 2 sc_told_cost.nd)) (fun _ _ _ _ _ => dts_nil) (fun _ _ _ _ _ _ => (de_c C_told_state hr (by decide) rfl (da_cons (de_var 0) (da_cons (de_var 2) da_nil)) (len_cons (len_cons (fun _ _ _ h => len_nil h)))))) da_nil)) (len_cons (len_cons (fun _ _ _ h => len_nil h))))))
abbrev s_eager_cost : Stmt := topS 19
abbrev N_eager_cost : List Str := ["things", "days", "day"]
theorem sc_eager_cost : FnScope N_eager_cost ["things", "days"] (defScope s_eager_cost) := ⟨rfl, rfl, rfl, by decide +kernel, rfl, by decide +kernel, by decide +kernel⟩
noncomputable def d_eager_cost : MS :=
  (retS (callD f_cost_by_states (consA (vD 0) (consA (compD [2] (rangeI2 (consL (cD (.int 1)) (consL (op2 addA (vD 1) (cD (.int 1))) (ret [])))) (.nm 2) (ret true) (callD f_eager_state (consA (vD 0) (consA (vD 2) (ret []))))) (ret [])))))
noncomputable def f_eager_cost : DF := defM 3 d_eager_cost
theorem c_eager_cost {P : Program} {w : World} {K : PySem.W.Frag} {mg : Str → Option Value} {base : Heap} {f : Addr} {fd : FuncData} (F : FnP K "eager_cost" s_eager_cost f fd) (hm : mg "eager_cost" = some (.ref f)) (g_range : mg "range" = none) (C_cost_by_states : Cal P w K mg base "cost_by_states" 2 1 f_cost_by_states) (C_eager_state : Cal P w K mg base "eager_state" 2 2 f_eager_state) :
    Cal P w K mg base "eager_cost" 2 3 f_eager_cost :=
  def_in F sc_eager_cost (by decide) hm (fun _ _ _ _ _ _ us hl => match us, hl with | [_, _], _ => rfl) fun c cdv A outer s H E hr =>
  (dss_one (ds_ret (de_c C_cost_by_states hr (by decide) rfl (da_cons (de_var 0) (da_cons (de_comp rfl sc_eager_cost.nd (di_range2 rfl g_range (dl_cons de_int (dl_cons (de_op opd_addA (de_var 1) de_int) dl_nil))) (own := [("day", 2)]) (blkOk_by (by kernel_rfl)) (by decide) (fun _ _ _ _ _ => (dg_nm 2 sc_eager_cost.nd)) (fun _ _ _ _ _ => dts_nil) (fun _ _ _ _ _ _ => (de_c C_eager_state hr (by decide) rfl (da_cons (de_var 0) (da_cons (de_var 2) da_nil)) (len_cons (len_cons (fun _ _ _ h => len_nil h)))))) da_nil)) (len_cons (len_cons (fun _ _ _ h => len_nil h))))))
abbrev s_rent_cost : Stmt := topS 21
abbrev N_rent_cost : List Str := ["b", "s", "days"]
theorem sc_rent_cost : FnScope N_rent_cost ["b", "s", "days"] (defScope s_rent_cost) := ⟨rfl, rfl, rfl, by decide +kernel, rfl, by decide +kernel, by decide +kernel⟩
noncomputable def d_rent_cost : MS :=
  (retS (ifD (orT (toB (op2 isD (vD 1) (cD .none))) (toB (op2 ltI (vD 2) (vD 1)))) (vD 2) (op2 addA (op2 subI (vD 1) (cD (.int 1))) (vD 0))))
noncomputable def f_rent_cost : DF := defM 3 d_rent_cost
theorem c_rent_cost {P : Program} {w : World} {K : PySem.W.Frag} {mg : Str → Option Value} {base : Heap} {f : Addr} {fd : FuncData} (F : FnP K "rent_cost" s_rent_cost f fd) (hm : mg "rent_cost" = some (.ref f)) :
    Cal P w K mg base "rent_cost" 3 1 f_rent_cost :=
  def_in F sc_rent_cost (by decide) hm (fun _ _ _ _ _ _ us hl => match us, hl with | [_, _, _], _ => rfl) fun c cdv A outer s H E hr =>
  (dss_one (ds_ret (de_if (DW.dt (dw_or (dt_cmp opd_is (de_var 1) de_none) (dw_or1 (dt_cmp opd_lt (de_var 2) (de_var 1))))) (de_var 2) (de_op opd_addA (de_op opd_sub (de_var 1) de_int) (de_var 0)))))
abbrev s_rent_table : Stmt := topS 22
abbrev N_rent_table : List Str := ["b", "low", "high", "ways", "days", "s"]
theorem sc_rent_table : FnScope N_rent_table ["b", "low", "high"] (defScope s_rent_table) := ⟨rfl, rfl, rfl, by decide +kernel, rfl, by decide +kernel, by decide +kernel⟩
noncomputable def d_rent_table : MS :=
  (seqS (asgS 3 (lstD (starRL (rgM2 (cD (.int 1)) (op2 addA (vD 2) (cD (.int 1)))) (consL (cD .none) (ret [])))))
  (retS (callN tupleD (consL (compD [5] (seqI (vD 3)) (.nm 5) (ret true) (callN tupleD (consL (compD [4] (rangeI2 (consL (vD 1) (consL (op2 addA (vD 2) (cD (.int 1))) (ret [])))) (.nm 4) (ret true) (callD f_rent_cost (consA (vD 0) (consA (vD 5) (consA (vD 4) (ret [])))))) (ret [])))) (ret [])))))
noncomputable def f_rent_table : DF := defM 6 d_rent_table
theorem c_rent_table {P : Program} {w : World} {K : PySem.W.Frag} {mg : Str → Option Value} {base : Heap} {f : Addr} {fd : FuncData} (F : FnP K "rent_table" s_rent_table f fd) (hm : mg "rent_table" = some (.ref f)) (g_range : mg "range" = none) (g_tuple : mg "tuple" = none) (C_rent_cost : Cal P w K mg base "rent_cost" 3 1 f_rent_cost) :
    Cal P w K mg base "rent_table" 3 2 f_rent_table :=
  def_in F sc_rent_table (by decide) hm (fun _ _ _ _ _ _ us hl => match us, hl with | [_, _, _], _ => rfl) fun c cdv A outer s H E hr =>
  (dss_cons (ds_asg 3 (de_lst (dl_starRg rfl (dr_2 rfl g_range de_int (de_op opd_addA (de_var 2) de_int)) (dl_cons de_none dl_nil))) sc_rent_table.nd)
  (dss_one (ds_ret (de_callTy callr_tuple rfl g_tuple b_tuple (dl_cons (de_comp rfl sc_rent_table.nd (di_seq (de_var 3)) (own := [("s", 5)]) (blkOk_by (by kernel_rfl)) (by decide) (fun _ _ _ _ _ => (dg_nm 5 sc_rent_table.nd)) (fun _ _ _ _ _ => dts_nil) (fun _ _ _ _ _ _ => (de_callTy callr_tuple rfl g_tuple b_tuple (dl_cons (de_comp rfl sc_rent_table.nd (di_range2 rfl g_range (dl_cons (de_var 1) (dl_cons (de_op opd_addA (de_var 2) de_int) dl_nil))) (own := [("days", 4)]) (blkOk_by (by kernel_rfl)) (by decide) (fun _ _ _ _ _ => (dg_nm 4 sc_rent_table.nd)) (fun _ _ _ _ _ => dts_nil) (fun _ _ _ _ _ _ => (de_c C_rent_cost hr (by decide) rfl (da_cons (de_var 0) (da_cons (de_var 5) (da_cons (de_var 4) da_nil))) (len_cons (len_cons (len_cons (fun _ _ _ h => len_nil h))))))) dl_nil)))) dl_nil)))))
abbrev s_cases_above : Stmt := topS 24
abbrev N_cases_above : List Str := ["table", "k", "c", "pairs", "i", "cost", "least"]
theorem sc_cases_above : FnScope N_cases_above ["table", "k", "c"] (defScope s_cases_above) := ⟨rfl, rfl, rfl, by decide +kernel, rfl, by decide +kernel, by decide +kernel⟩
noncomputable def d_cases_above : MS :=
  (retS (compD [4, 5, 6] (enumZI 3 (consL (op2 ixD (vD 0) (vD 1)) (consL (callD f_least_costs (consA (vD 0) (ret []))) (ret [])))) (.tp [(.nm 4), (.tp [(.nm 5), (.nm 6)])]) (toB (op2 gtI (op2 mulS (vD 5) (op2 ixD (vD 2) (cD (.int 1)))) (op2 mulS (vD 6) (op2 ixD (vD 2) (cD (.int 0)))))) (vD 4)))
noncomputable def f_cases_above : DF := defM 7 d_cases_above
theorem c_cases_above {P : Program} {w : World} {K : PySem.W.Frag} {mg : Str → Option Value} {base : Heap} {f : Addr} {fd : FuncData} (F : FnP K "cases_above" s_cases_above f fd) (hm : mg "cases_above" = some (.ref f)) (g_enumerate : mg "enumerate" = none) (g_zip : mg "zip" = none) (C_least_costs : Cal P w K mg base "least_costs" 1 1 f_least_costs) :
    Cal P w K mg base "cases_above" 3 2 f_cases_above :=
  def_in F sc_cases_above (by decide) hm (fun _ _ _ _ _ _ us hl => match us, hl with | [_, _, _], _ => rfl) fun c cdv A outer s H E hr =>
  (dss_ez 3 rfl sc_cases_above.nd rfl g_enumerate rfl g_zip (dl_cons (de_ix (de_var 0) (de_var 1)) (dl_cons (de_c C_least_costs hr (by decide) rfl (da_cons (de_var 0) da_nil) (len_cons (fun _ _ _ h => len_nil h))) dl_nil)) (own := [("i", 4), ("cost", 5), ("least", 6)]) (blkOk_by (by kernel_rfl)) (by decide) (fun _ _ _ _ _ => (dg_tp rfl (dgs_cons (dg_nm 4 sc_cases_above.nd) (dgs_cons (dg_tp rfl (dgs_cons (dg_nm 5 sc_cases_above.nd) (dgs_cons (dg_nm 6 sc_cases_above.nd) dgs_nil))) dgs_nil)))) (fun _ _ _ _ _ => (dts_one fun _ => (dt_cmp opd_gt (de_op opd_mulS (de_var 5) (de_ix (de_var 2) de_int)) (de_op opd_mulS (de_var 6) (de_ix (de_var 2) de_int))))) (fun _ _ _ _ _ _ => (de_var 4)))
abbrev s_share_paper : Stmt := topS 25
abbrev N_share_paper : List Str := ["table", "c", "rows", "good", "k", "row"]
theorem sc_share_paper : FnScope N_share_paper ["table", "c"] (defScope s_share_paper) := ⟨rfl, rfl, rfl, by decide +kernel, rfl, by decide +kernel, by decide +kernel⟩
noncomputable def d_share_paper : MS :=
  (seqS (asgN 2 (compD [4] (rangeI1 (consL (callN lenD (consL (vD 0) (ret []))) (ret []))) (.nm 4) (ret true) (callD f_cases_above (consA (vD 0) (consA (vD 4) (consA (vD 1) (ret [])))))))
  (seqS (asgN 3 (compD [4, 5] (enumI (consL (vD 2) (ret []))) (.tp [(.nm 4), (.nm 5)]) (toB (op2 eqD (vD 5) (lstD (ret [])))) (vD 4)))
  (retS (ifD (toB (op2 neD (vD 3) (lstD (ret [])))) (tupD (consL (cD (.str "way")) (consL (op2 ixD (vD 3) (cD (.int 0))) (ret [])))) (tupD (consL (cD (.str "bars")) (consL (callN tupleD (consL (compD [5] (seqI (vD 2)) (.nm 5) (ret true) (op2 ixD (vD 5) (cD (.int 0)))) (ret []))) (ret []))))))))
noncomputable def f_share_paper : DF := defM 6 d_share_paper
theorem c_share_paper {P : Program} {w : World} {K : PySem.W.Frag} {mg : Str → Option Value} {base : Heap} {f : Addr} {fd : FuncData} (F : FnP K "share_paper" s_share_paper f fd) (hm : mg "share_paper" = some (.ref f)) (g_enumerate : mg "enumerate" = none) (g_len : mg "len" = none) (g_range : mg "range" = none) (g_tuple : mg "tuple" = none) (C_cases_above : Cal P w K mg base "cases_above" 3 2 f_cases_above) :
    Cal P w K mg base "share_paper" 2 3 f_share_paper :=
  def_in F sc_share_paper (by decide) hm (fun _ _ _ _ _ _ us hl => match us, hl with | [_, _], _ => rfl) fun c cdv A outer s H E hr =>
  (dss_cons (ds_setComp 2 rfl sc_share_paper.nd (sw_true rfl rfl rfl (by decide +kernel)) (di_range1 rfl g_range (dl_cons (de_callB callr_len rfl g_len b_len (dl_cons (de_var 0) dl_nil)) dl_nil)) (own := [("k", 4)]) (blkOk_by (by kernel_rfl)) (by decide) (fun _ _ _ _ _ => (dg_nm 4 sc_share_paper.nd)) (fun _ _ _ _ _ => dts_nil) (fun _ _ _ _ _ _ => (de_c C_cases_above hr (by decide) rfl (da_cons (de_var 0) (da_cons (de_var 4) (da_cons (de_var 1) da_nil))) (len_cons (len_cons (len_cons (fun _ _ _ h => len_nil h)))))))
  (dss_cons (ds_setComp 3 rfl sc_share_paper.nd (sw_true rfl rfl rfl (by decide +kernel)) (di_enum rfl g_enumerate (dl_cons (de_var 2) dl_nil)) (own := [("k", 4), ("row", 5)]) (blkOk_by (by kernel_rfl)) (by decide) (fun _ _ _ _ _ => (dg_tp rfl (dgs_cons (dg_nm 4 sc_share_paper.nd) (dgs_cons (dg_nm 5 sc_share_paper.nd) dgs_nil)))) (fun _ _ _ _ _ => (dts_one fun _ => (dt_cmp (opd_eq (hu64 hr)) (de_var 5) (de_lst dl_nil)))) (fun _ _ _ _ _ _ => (de_var 4)))
  (dss_one (ds_ret (de_if (dt_cmp (opd_ne (hu64 hr)) (de_var 3) (de_lst dl_nil)) (de_tup (dl_cons de_str (dl_cons (de_ix (de_var 3) de_int) dl_nil))) (de_tup (dl_cons de_str (dl_cons (de_callTy callr_tuple rfl g_tuple b_tuple (dl_cons (de_comp rfl sc_share_paper.nd (di_seq (de_var 2)) (own := [("row", 5)]) (blkOk_by (by kernel_rfl)) (by decide) (fun _ _ _ _ _ => (dg_nm 5 sc_share_paper.nd)) (fun _ _ _ _ _ => dts_nil) (fun _ _ _ _ _ _ => (de_ix (de_var 5) de_int))) dl_nil)) dl_nil))))))))
abbrev s_is_case_row : Stmt := topS 26
abbrev N_is_case_row : List Str := ["table", "value", "i"]
theorem sc_is_case_row : FnScope N_is_case_row ["table", "value"] (defScope s_is_case_row) := ⟨rfl, rfl, rfl, by decide +kernel, rfl, by decide +kernel, by decide +kernel⟩
noncomputable def d_is_case_row : MS :=
  (seqS (ifS (orT (notT (toB (op1 (isiD "tuple") (vD 1)))) (toB (op2 neD (callN lenD (consL (vD 1) (ret []))) (callN lenD (consL (vD 0) (ret [])))))) (retS (cD (.bool false))) (ret .nx))
  (retS (callN allD (consL (compD [2] (seqI (vD 1)) (.nm 2) (ret true) (andV (callD f_is_cost (consA (vD 2) (ret []))) (op2 ltI (vD 2) (callN lenD (consL (op2 ixD (vD 0) (cD (.int 0))) (ret [])))))) (ret [])))))
noncomputable def f_is_case_row : DF := defM 3 d_is_case_row
theorem c_is_case_row {P : Program} {w : World} {K : PySem.W.Frag} {mg : Str → Option Value} {base : Heap} {f : Addr} {fd : FuncData} (F : FnP K "is_case_row" s_is_case_row f fd) (hm : mg "is_case_row" = some (.ref f)) (g_all : mg "all" = none) (g_isinstance : mg "isinstance" = none) (g_len : mg "len" = none) (g_tuple : mg "tuple" = none) (C_is_cost : Cal P w K mg base "is_cost" 1 1 f_is_cost) :
    Cal P w K mg base "is_case_row" 2 2 f_is_case_row :=
  def_in F sc_is_case_row (by decide) hm (fun _ _ _ _ _ _ us hl => match us, hl with | [_, _], _ => rfl) fun c cdv A outer s H E hr =>
  (dss_cons (ds_if (DW.dt (dw_or (dt_not (dt_val (de_isi (de_var 1) rfl g_isinstance b_isinstance rfl g_tuple b_tuple))) (dw_or1 (dt_cmp (opd_ne (hu64 hr)) (de_callB callr_len rfl g_len b_len (dl_cons (de_var 1) dl_nil)) (de_callB callr_len rfl g_len b_len (dl_cons (de_var 0) dl_nil)))))) (dss_one (ds_ret de_bool)) dss_nil)
  (dss_one (ds_ret (de_callB (callr_all rfl) rfl g_all b_all (dl_cons (de_comp rfl sc_is_case_row.nd (di_seq (de_var 1)) (own := [("i", 2)]) (blkOk_by (by kernel_rfl)) (by decide) (fun _ _ _ _ _ => (dg_nm 2 sc_is_case_row.nd)) (fun _ _ _ _ _ => dts_nil) (fun _ _ _ _ _ _ => (de_and (de_c C_is_cost hr (by decide) rfl (da_cons (de_var 2) da_nil) (len_cons (fun _ _ _ h => len_nil h))) (de_one (de_cmp opd_lt (de_var 2) (de_callB callr_len rfl g_len b_len (dl_cons (de_ix (de_var 0) de_int) dl_nil))))))) dl_nil)))))
abbrev s_judge_share : Stmt := topS 27
abbrev N_judge_share : List Str := ["table", "c", "value", "some", "within", "k", "i"]
theorem sc_judge_share : FnScope N_judge_share ["table", "c", "value"] (defScope s_judge_share) := ⟨rfl, rfl, rfl, by decide +kernel, rfl, by decide +kernel, by decide +kernel⟩
noncomputable def d_judge_share : MS :=
  (seqS (ifS (orT (notT (toB (op1 (isiD "tuple") (vD 2)))) (orT (toB (op2 neD (callN lenD (consL (vD 2) (ret []))) (cD (.int 2)))) (notT (toB (op1 (isiD "str") (op2 ixD (vD 2) (cD (.int 0)))))))) (retS (tupD (consL (cD (.str "form")) (ret [])))) (ret .nx))
  (seqS (ifS (andT (toB (op2 eqD (op2 ixD (vD 2) (cD (.int 0))) (cD (.str "way")))) (andT (toB (callD f_is_cost (consA (op2 ixD (vD 2) (cD (.int 1))) (ret [])))) (toB (op2 ltI (op2 ixD (vD 2) (cD (.int 1))) (callN lenD (consL (vD 0) (ret []))))))) (seqS (asgS 3 (callD f_cases_above (consA (vD 0) (consA (op2 ixD (vD 2) (cD (.int 1))) (consA (vD 1) (ret []))))))
  (retS (ifD (toB (op2 neD (vD 3) (lstD (ret [])))) (tupD (consL (cD (.str "case")) (consL (op2 ixD (vD 3) (cD (.int 0))) (ret [])))) (cD .none)))) (ret .nx))
  (seqS (ifS (orT (toB (op2 neD (op2 ixD (vD 2) (cD (.int 0))) (cD (.str "bars")))) (notT (toB (callD f_is_case_row (consA (vD 0) (consA (op2 ixD (vD 2) (cD (.int 1))) (ret []))))))) (retS (tupD (consL (cD (.str "form")) (ret [])))) (ret .nx))
  (seqS (asgN 4 (compD [5, 6] (enumI (consL (op2 ixD (vD 2) (cD (.int 1))) (ret []))) (.tp [(.nm 5), (.nm 6)]) (toB (op2 notInD (vD 6) (callD f_cases_above (consA (vD 0) (consA (vD 5) (consA (vD 1) (ret []))))))) (vD 5)))
  (retS (ifD (toB (op2 neD (vD 4) (lstD (ret [])))) (tupD (consL (cD (.str "within")) (consL (op2 ixD (vD 4) (cD (.int 0))) (ret [])))) (cD .none)))))))
noncomputable def f_judge_share : DF := defM 7 d_judge_share
theorem c_judge_share {P : Program} {w : World} {K : PySem.W.Frag} {mg : Str → Option Value} {base : Heap} {f : Addr} {fd : FuncData} (F : FnP K "judge_share" s_judge_share f fd) (hm : mg "judge_share" = some (.ref f)) (g_enumerate : mg "enumerate" = none) (g_isinstance : mg "isinstance" = none) (g_len : mg "len" = none) (g_str : mg "str" = none) (g_tuple : mg "tuple" = none) (C_cases_above : Cal P w K mg base "cases_above" 3 2 f_cases_above) (C_is_case_row : Cal P w K mg base "is_case_row" 2 2 f_is_case_row) (C_is_cost : Cal P w K mg base "is_cost" 1 1 f_is_cost) :
    Cal P w K mg base "judge_share" 3 3 f_judge_share :=
  def_in F sc_judge_share (by decide) hm (fun _ _ _ _ _ _ us hl => match us, hl with | [_, _, _], _ => rfl) fun c cdv A outer s H E hr =>
  (dss_cons (ds_if (DW.dt (dw_or (dt_not (dt_val (de_isi (de_var 2) rfl g_isinstance b_isinstance rfl g_tuple b_tuple))) (dw_or (dt_cmp (opd_ne (hu64 hr)) (de_callB callr_len rfl g_len b_len (dl_cons (de_var 2) dl_nil)) de_int) (dw_or1 (dt_not (dt_val (de_isi (de_ix (de_var 2) de_int) rfl g_isinstance b_isinstance rfl g_str b_str))))))) (dss_one (ds_ret (de_tup (dl_cons de_str dl_nil)))) dss_nil)
  (dss_cons (ds_if (DW.dt (dw_and (dt_cmp (opd_eq (hu64 hr)) (de_ix (de_var 2) de_int) de_str) (dw_and (dt_val (de_c C_is_cost hr (by decide) rfl (da_cons (de_ix (de_var 2) de_int) da_nil) (len_cons (fun _ _ _ h => len_nil h)))) (dw_and1 (dt_cmp opd_lt (de_ix (de_var 2) de_int) (de_callB callr_len rfl g_len b_len (dl_cons (de_var 0) dl_nil))))))) (dss_cons (ds_asg 3 (de_c C_cases_above hr (by decide) rfl (da_cons (de_var 0) (da_cons (de_ix (de_var 2) de_int) (da_cons (de_var 1) da_nil))) (len_cons (len_cons (len_cons (fun _ _ _ h => len_nil h))))) sc_judge_share.nd)
  (dss_one (ds_ret (de_if (dt_cmp (opd_ne (hu64 hr)) (de_var 3) (de_lst dl_nil)) (de_tup (dl_cons de_str (dl_cons (de_ix (de_var 3) de_int) dl_nil))) de_none)))) dss_nil)
  (dss_cons (ds_if (DW.dt (dw_or (dt_cmp (opd_ne (hu64 hr)) (de_ix (de_var 2) de_int) de_str) (dw_or1 (dt_not (dt_val (de_c C_is_case_row hr (by decide) rfl (da_cons (de_var 0) (da_cons (de_ix (de_var 2) de_int) da_nil)) (len_cons (len_cons (fun _ _ _ h => len_nil h))))))))) (dss_one (ds_ret (de_tup (dl_cons de_str dl_nil)))) dss_nil)
  (dss_cons (ds_setComp 4 rfl sc_judge_share.nd (sw_true rfl rfl rfl (by decide +kernel)) (di_enum rfl g_enumerate (dl_cons (de_ix (de_var 2) de_int) dl_nil)) (own := [("k", 5), ("i", 6)]) (blkOk_by (by kernel_rfl)) (by decide) (fun _ _ _ _ _ => (dg_tp rfl (dgs_cons (dg_nm 5 sc_judge_share.nd) (dgs_cons (dg_nm 6 sc_judge_share.nd) dgs_nil)))) (fun _ _ _ _ _ => (dts_one fun _ => (dt_cmp (opd_notin (hu66 hr)) (de_var 6) (de_c C_cases_above hr (by decide) rfl (da_cons (de_var 0) (da_cons (de_var 5) (da_cons (de_var 1) da_nil))) (len_cons (len_cons (len_cons (fun _ _ _ h => len_nil h)))))))) (fun _ _ _ _ _ _ => (de_var 5)))
  (dss_one (ds_ret (de_if (dt_cmp (opd_ne (hu64 hr)) (de_var 4) (de_lst dl_nil)) (de_tup (dl_cons de_str (dl_cons (de_ix (de_var 4) de_int) dl_nil))) de_none)))))))
abbrev s__law_things : Stmt := topS 31
abbrev N__law_things : List Str := ["source", "many", "rent", "price", "found", "i"]
theorem sc__law_things : FnScope N__law_things ["source"] (defScope s__law_things) := ⟨rfl, rfl, rfl, by decide +kernel, rfl, by decide +kernel, by decide +kernel⟩
noncomputable def d__law_things : MS :=
  (seqS (asgS 1 (op2 addA (cD (.int 1)) (callD f__law_pick (srcA 0 (consA (cD (.int 6)) (ret []))))))
  (seqS (asgS 2 (op2 addA (vD 1) (callD f__law_pick (srcA 0 (consA (cD (.int 30)) (ret []))))))
  (seqS (parO 3 4 (cD (.int 0)))
  (seqS (forS (rangeI1 (consL (vD 1) (ret []))) (.nm 5) (seqS (appS 4 (tupD (consL (vD 3) (consL (vD 2) (ret [])))))
  (seqS (asgS 3 (op2 addA (op2 addA (vD 3) (cD (.int 1))) (callD f__law_pick (srcA 0 (consA (cD (.int 25)) (ret []))))))
  (asgS 2 (callN max2D (consL (op2 subI (op2 subI (vD 1) (cD (.int 2))) (vD 5)) (consL (op2 subI (op2 subI (vD 2) (cD (.int 1))) (callD f__law_pick (srcA 0 (consA (cD (.int 9)) (ret []))))) (ret []))))))))
  (retS (callN tupleD (consL (vD 4) (ret []))))))))
noncomputable def f__law_things : DF := defM 6 d__law_things
theorem c__law_things {P : Program} {w : World} {K : PySem.W.Frag} {mg : Str → Option Value} {base : Heap} {f : Addr} {fd : FuncData} (F : FnP K "_law_things" s__law_things f fd) (hm : mg "_law_things" = some (.ref f)) (g_max : mg "max" = none) (g_range : mg "range" = none) (g_tuple : mg "tuple" = none) (C__law_pick : Cal P w K mg base "_law_pick" 2 1 f__law_pick) :
    Cal P w K mg base "_law_things" 1 2 f__law_things :=
  def_in F sc__law_things (by decide) hm (fun _ _ _ _ _ _ us hl => match us, hl with | [_], _ => rfl) fun c cdv A outer s H E hr =>
  (dss_cons (ds_asg 1 (de_op opd_addA de_int (de_c C__law_pick hr (by decide) rfl (da_src 0 (da_cons de_int da_nil)) (len_src (len_cons (fun _ _ _ h => len_nil h))))) sc__law_things.nd)
  (dss_cons (ds_asg 2 (de_op opd_addA (de_var 1) (de_c C__law_pick hr (by decide) rfl (da_src 0 (da_cons de_int da_nil)) (len_src (len_cons (fun _ _ _ h => len_nil h))))) sc__law_things.nd)
  (dss_cons (ds_parO rfl sc__law_things.nd de_int rfl (by decide) (i := 3) (j := 4))
  (dss_cons (ds_for PassesOwn.never rfl (di_range1 rfl g_range (dl_cons (de_var 1) dl_nil)) (dg_nm 5 sc__law_things.nd) (dss_cons (ds_append (pe_bm PySem.F.plainAttrs_list PySem.F.slot_list_append PySem.F.type_list_append mt_append (pv 4) (pa_cons (de_tup (dl_cons (de_var 3) (dl_cons (de_var 2) dl_nil))) pa_nil)))
  (dss_cons (ds_asg 3 (de_op opd_addA (de_op opd_addA (de_var 3) de_int) (de_c C__law_pick hr (by decide) rfl (da_src 0 (da_cons de_int da_nil)) (len_src (len_cons (fun _ _ _ h => len_nil h))))) sc__law_things.nd)
  (dss_one (ds_asg 2 (de_callB (callr_max2 rfl) rfl g_max b_max (dl_cons (de_op opd_sub (de_op opd_sub (de_var 1) de_int) (de_var 5)) (dl_cons (de_op opd_sub (de_op opd_sub (de_var 2) de_int) (de_c C__law_pick hr (by decide) rfl (da_src 0 (da_cons de_int da_nil)) (len_src (len_cons (fun _ _ _ h => len_nil h))))) dl_nil))) sc__law_things.nd)))))
  (dss_one (ds_ret (de_callTy callr_tuple rfl g_tuple b_tuple (dl_cons (de_var 4) dl_nil))))))))
abbrev s__law_state : Stmt := topS 32
abbrev N__law_state : List Str := ["things", "day", "is_eager", "sums", "some", "price", "rent", "j", "x"]
theorem sc__law_state : FnScope N__law_state ["things", "day", "is_eager"] (defScope s__law_state) := ⟨rfl, rfl, rfl, by decide +kernel, rfl, by decide +kernel, by decide +kernel⟩
noncomputable def d__law_state : MS :=
  (seqS (asgN 3 (compD [5, 6] (seqI (vD 0)) (.tp [(.nm 5), (.nm 6)]) (ret true) (op2 addA (vD 5) (op2 mulS (vD 1) (vD 6)))))
  (seqS (asgN 4 (compD [7, 8] (enumI (consL (vD 3) (ret []))) (.tp [(.nm 7), (.nm 8)]) (toB (op2 eqD (vD 8) (callN (altN min1L min1T) (consL (vD 3) (ret []))))) (vD 7)))
  (retS (ifD (toB (vD 2)) (op2 ixD (vD 4) (op1 negD (cD (.int 1)))) (op2 ixD (vD 4) (cD (.int 0)))))))
noncomputable def f__law_state : DF := defM 9 d__law_state
theorem c__law_state {P : Program} {w : World} {K : PySem.W.Frag} {mg : Str → Option Value} {base : Heap} {f : Addr} {fd : FuncData} (F : FnP K "_law_state" s__law_state f fd) (hm : mg "_law_state" = some (.ref f)) (g_enumerate : mg "enumerate" = none) (g_min : mg "min" = none) :
    Cal P w K mg base "_law_state" 3 1 f__law_state :=
  def_in F sc__law_state (by decide) hm (fun _ _ _ _ _ _ us hl => match us, hl with | [_, _, _], _ => rfl) fun c cdv A outer s H E hr =>
  (dss_cons (ds_new 3 (dn_comp rfl sc__law_state.nd (di_seq (de_var 0)) (own := [("price", 5), ("rent", 6)]) (blkOk_by (by kernel_rfl)) (by decide) (fun _ _ _ _ _ => (dg_tp rfl (dgs_cons (dg_nm 5 sc__law_state.nd) (dgs_cons (dg_nm 6 sc__law_state.nd) dgs_nil)))) (fun _ _ _ _ _ => dts_nil) (fun _ _ _ _ _ _ => (de_op opd_addA (de_var 5) (de_op opd_mulS (de_var 1) (de_var 6))))) sc__law_state.nd)
  (dss_cons (ds_setComp 4 rfl sc__law_state.nd (sw_true rfl rfl rfl (by decide +kernel)) (di_enum rfl g_enumerate (dl_cons (de_var 3) dl_nil)) (own := [("j", 7), ("x", 8)]) (blkOk_by (by kernel_rfl)) (by decide) (fun _ _ _ _ _ => (dg_tp rfl (dgs_cons (dg_nm 7 sc__law_state.nd) (dgs_cons (dg_nm 8 sc__law_state.nd) dgs_nil)))) (fun _ _ _ _ _ => (dts_one fun _ => (dt_cmp (opd_eq (hu64 hr)) (de_var 8) (de_callB (callr_min1 rfl) rfl g_min b_min (dl_cons (de_var 3) dl_nil))))) (fun _ _ _ _ _ _ => (de_var 7)))
  (dss_one (ds_ret (de_if (dt_val (de_var 2)) (de_ix (de_var 4) (de_neg de_int)) (de_ix (de_var 4) de_int))))))
abbrev s__law_cost : Stmt := topS 33
abbrev N__law_cost : List Str := ["things", "states", "j"]
theorem sc__law_cost : FnScope N__law_cost ["things", "states"] (defScope s__law_cost) := ⟨rfl, rfl, rfl, by decide +kernel, rfl, by decide +kernel, by decide +kernel⟩
noncomputable def d__law_cost : MS :=
  (retS (op2 addA (callN (altN sumD sumTD) (consL (compD [2] (seqI (vD 1)) (.nm 2) (ret true) (op2 ixD (op2 ixD (vD 0) (vD 2)) (cD (.int 1)))) (ret []))) (ifD (toB (op2 neD (vD 1) (lstD (ret [])))) (op2 ixD (op2 ixD (vD 0) (op2 ixD (vD 1) (op1 negD (cD (.int 1))))) (cD (.int 0))) (cD (.int 0)))))
noncomputable def f__law_cost : DF := defM 3 d__law_cost
theorem c__law_cost {P : Program} {w : World} {K : PySem.W.Frag} {mg : Str → Option Value} {base : Heap} {f : Addr} {fd : FuncData} (F : FnP K "_law_cost" s__law_cost f fd) (hm : mg "_law_cost" = some (.ref f)) (g_sum : mg "sum" = none) :
    Cal P w K mg base "_law_cost" 2 1 f__law_cost :=
  def_in F sc__law_cost (by decide) hm (fun _ _ _ _ _ _ us hl => match us, hl with | [_, _], _ => rfl) fun c cdv A outer s H E hr =>
  (dss_one (ds_ret (de_op opd_addA (de_callB (callr_sum1 rfl) rfl g_sum b_sum (dl_cons (de_comp rfl sc__law_cost.nd (di_seq (de_var 1)) (own := [("j", 2)]) (blkOk_by (by kernel_rfl)) (by decide) (fun _ _ _ _ _ => (dg_nm 2 sc__law_cost.nd)) (fun _ _ _ _ _ => dts_nil) (fun _ _ _ _ _ _ => (de_ix (de_ix (de_var 0) (de_var 2)) de_int))) dl_nil)) (de_if (dt_cmp (opd_ne (hu64 hr)) (de_var 1) (de_lst dl_nil)) (de_ix (de_ix (de_var 0) (de_ix (de_var 1) (de_neg de_int))) de_int) de_int))))
abbrev s_law : Stmt := topS 34
abbrev N_law : List Str := ["script", "source", "lap", "things", "days", "rows", "leasts", "is_eager", "states", "told", "costs", "table", "k", "share", "left", "i", "j", "b", "rent", "paper", "d", "price", "cost", "least", "x", "y"]
theorem sc_law : FnScope N_law ["script"] (defScope s_law) := ⟨rfl, rfl, rfl, by decide +kernel, rfl, by decide +kernel, by decide +kernel⟩
noncomputable def d_law : MS :=
  (seqS (forS (rangeI1 (consL (cD (.int 2)) (ret []))) (.nm 2) (seqS (unpS (.tp [(.nm 3), (.nm 4)]) (tupD (consL (callD f__law_things (srcA 1 (ret []))) (consL (op2 addA (cD (.int 1)) (callD f__law_pick (srcA 1 (consA (cD (.int 30)) (ret []))))) (ret [])))))
  (seqS (ifS (toB (op2 notIsD (callD f_are_things (consA (vD 3) (ret []))) (cD (.bool true)))) (retS (cD (.bool false))) (ret .nx))
  (seqS (asgN 5 (compD [21, 18] (seqI (vD 3)) (.tp [(.nm 21), (.nm 18)]) (ret true) (callN tupleD (consL (compD [20] (rangeI2 (consL (cD (.int 1)) (consL (op2 addA (vD 4) (cD (.int 1))) (ret [])))) (.nm 20) (ret true) (op2 addA (vD 21) (op2 mulS (vD 20) (vD 18)))) (ret [])))))
  (seqS (asgS 6 (callN tupleD (consL (compD [20] (rangeI2 (consL (cD (.int 1)) (consL (op2 addA (vD 4) (cD (.int 1))) (ret [])))) (.nm 20) (ret true) (callD f_least_have (consA (vD 3) (consA (vD 20) (ret []))))) (ret []))))
  (seqS (ifS (orT (toB (op2 neD (callD f_least_costs (consA (tupO 5) (ret []))) (vD 6))) (toB (op2 neD (callD f_least_have (consA (vD 3) (consA (cD (.int 0)) (ret [])))) (cD (.int 0))))) (retS (cD (.bool false))) (ret .nx))
  (seqS (forS (seqI (tupD (consL (cD (.bool false)) (consL (cD (.bool true)) (ret []))))) (.nm 7) (seqS (asgN 8 (compD [20] (rangeI2 (consL (cD (.int 1)) (consL (op2 addA (vD 4) (cD (.int 1))) (ret [])))) (.nm 20) (ret true) (callD f__law_state (consA (vD 3) (consA (vD 20) (consA (vD 7) (ret [])))))))
  (seqS (asgN 9 (compD [20] (rangeI2 (consL (cD (.int 1)) (consL (op2 addA (vD 4) (cD (.int 1))) (ret [])))) (.nm 20) (ret true) (ifD (toB (vD 7)) (callD f_eager_state (consA (vD 3) (consA (vD 20) (ret [])))) (callD f_told_state (consA (vD 3) (consA (vD 20) (ret [])))))))
  (seqS (ifS (orT (toB (op2 neD (vD 9) (vD 8))) (toB (op2 neD (vD 8) (callN sortedD (consL (vD 8) (ret [])))))) (retS (cD (.bool false))) (ret .nx))
  (seqS (asgN 10 (compD [20] (rangeI2 (consL (cD (.int 0)) (consL (op2 addA (vD 4) (cD (.int 1))) (ret [])))) (.nm 20) (ret true) (ifD (toB (vD 7)) (callD f_eager_cost (consA (vD 3) (consA (vD 20) (ret [])))) (callD f_told_cost (consA (vD 3) (consA (vD 20) (ret [])))))))
  (seqS (ifS (toB (op2 neD (vD 10) (compD [20] (rangeI2 (consL (cD (.int 0)) (consL (op2 addA (vD 4) (cD (.int 1))) (ret [])))) (.nm 20) (ret true) (callD f__law_cost (consA (vD 3) (consA (sliceD (vD 8) (ret none) (someI (vD 20))) (ret []))))))) (retS (cD (.bool false))) (ret .nx))
  (appS 5 (callN tupleD (consL (sliceD (vD 10) (someI (cD (.int 1))) (ret none)) (ret []))))))))))
  (seqS (asgS 11 (tupO 5))
  (seqS (ifS (toB (op2 neD (callD f_least_costs (consA (vD 11) (ret []))) (vD 6))) (retS (cD (.bool false))) (ret .nx))
  (seqS (forS (seqI (tupD (consL (callN lenD (consL (vD 3) (ret []))) (consL (op2 addA (callN lenD (consL (vD 3) (ret []))) (cD (.int 1))) (ret []))))) (.nm 12) (seqS (asgS 13 (callD f_way_share (consA (vD 11) (consA (vD 12) (ret [])))))
  (seqS (ifS (andT (toB (op2 gtI (callN (altN max1L max1T) (consL (vD 6) (ret []))) (cD (.int 0)))) (andT (orT (toB (op2 isD (vD 13) (cD .none))) (toB (op2 gtI (op2 ixD (vD 13) (cD (.int 0))) (op2 mulS (cD (.int 2)) (op2 ixD (vD 13) (cD (.int 1))))))) (toB (op2 notInD (cD (.int 0)) (vD 6))))) (retS (cD (.bool false))) (ret .nx))
  (seqS (ifS (toB (op2 neD (compD [22, 23] (zipI (consL (op2 ixD (vD 11) (vD 12)) (consL (vD 6) (ret [])))) (.tp [(.nm 22), (.nm 23)]) (toB (op2 gtI (vD 22) (op2 mulS (cD (.int 2)) (vD 23)))) (cD (.int 1))) (lstD (ret [])))) (retS (cD (.bool false))) (ret .nx))
  (ifS (andT (toB (op2 notIsD (vD 13) (cD .none))) (toB (op2 notIsD (callD f_judge_share (consA (vD 11) (consA (vD 13) (consA (tupD (consL (cD (.str "way")) (consL (vD 12) (ret [])))) (ret []))))) (cD .none)))) (retS (cD (.bool false))) (ret .nx))))))
  (seqS (asgS 14 (callD f_kept_ways (consA (vD 11) (ret []))))
  (seqS (ifS (toB (op2 neD (callD f_least_costs (consA (callN tupleD (consL (compD [12] (seqI (vD 14)) (.nm 12) (ret true) (op2 ixD (vD 11) (vD 12))) (ret []))) (ret []))) (vD 6))) (retS (cD (.bool false))) (ret .nx))
  (seqS (par2 15 16 (consL (callD f__law_pick (srcA 1 (consA (callN lenD (consL (vD 11) (ret []))) (ret [])))) (consL (callD f__law_pick (srcA 1 (consA (callN lenD (consL (vD 11) (ret []))) (ret [])))) (ret []))))
  (seqS (ifS (andT (toB (op2 neD (vD 15) (vD 16))) (toB (op2 neD (callD f_is_no_better (consA (vD 11) (consA (vD 15) (consA (vD 16) (ret []))))) (op2 eqD (compD [24, 25] (zipI (consL (op2 ixD (vD 11) (vD 15)) (consL (op2 ixD (vD 11) (vD 16)) (ret [])))) (.tp [(.nm 24), (.nm 25)]) (toB (op2 ltI (vD 24) (vD 25))) (cD (.int 1))) (lstD (ret [])))))) (retS (cD (.bool false))) (ret .nx))
  (seqS (asgS 17 (op2 addA (cD (.int 1)) (callD f__law_pick (srcA 1 (consA (cD (.int 30)) (ret []))))))
  (seqS (asgS 18 (tupD (consL (tupD (consL (cD (.int 0)) (consL (cD (.int 1)) (ret [])))) (consL (tupD (consL (vD 17) (consL (cD (.int 0)) (ret [])))) (ret [])))))
  (seqS (ifS (toB (op2 neD (compD [20] (rangeI1 (consL (op2 addA (vD 4) (cD (.int 1))) (ret []))) (.nm 20) (ret true) (callD f_told_cost (consA (vD 18) (consA (vD 20) (ret []))))) (compD [20] (rangeI1 (consL (op2 addA (vD 4) (cD (.int 1))) (ret []))) (.nm 20) (ret true) (callD f_rent_cost (consA (vD 17) (consA (op2 addA (vD 17) (cD (.int 1))) (consA (vD 20) (ret [])))))))) (retS (cD (.bool false))) (ret .nx))
  (seqS (ifS (toB (op2 neD (compD [20] (rangeI1 (consL (op2 addA (vD 4) (cD (.int 1))) (ret []))) (.nm 20) (ret true) (callD f_eager_cost (consA (vD 18) (consA (vD 20) (ret []))))) (compD [20] (rangeI1 (consL (op2 addA (vD 4) (cD (.int 1))) (ret []))) (.nm 20) (ret true) (callD f_rent_cost (consA (vD 17) (consA (vD 17) (consA (vD 20) (ret [])))))))) (retS (cD (.bool false))) (ret .nx))
  (seqS (ifS (toB (op2 neD (compD [20] (rangeI1 (consL (op2 addA (vD 4) (cD (.int 1))) (ret []))) (.nm 20) (ret true) (callD f_least_have (consA (vD 18) (consA (vD 20) (ret []))))) (compD [20] (rangeI1 (consL (op2 addA (vD 4) (cD (.int 1))) (ret []))) (.nm 20) (ret true) (callN min2D (consL (vD 20) (consL (vD 17) (ret []))))))) (retS (cD (.bool false))) (ret .nx))
  (seqS (asgS 10 (callD f_rent_table (consA (vD 17) (consA (cD (.int 1)) (consA (vD 4) (ret []))))))
  (seqS (asgS 19 (callD f_share_paper (consA (vD 10) (consA (tupD (consL (cD (.int 2)) (consL (cD (.int 1)) (ret [])))) (ret [])))))
  (ifS (orT (toB (op2 neD (callD f_least_costs (consA (vD 10) (ret []))) (callN tupleD (consL (compD [20] (rangeI2 (consL (cD (.int 1)) (consL (op2 addA (vD 4) (cD (.int 1))) (ret [])))) (.nm 20) (ret true) (callN min2D (consL (vD 20) (consL (vD 17) (ret []))))) (ret []))))) (toB (op2 neD (op2 ixD (vD 19) (cD (.int 0))) (cD (.str "way"))))) (retS (cD (.bool false))) (ret .nx)))))))))))))))))))))))
  (retS (cD (.bool true))))
def spLaw (K : PySem.W.Frag) : Sp := fun vs H Q _ => ∃ (a : Addr) (ns : List Int), vs = [.ref a] ∧ ns.length ≤ 1000 ∧ SqL K H a (ns.map V.int) ∧ ∀ H', Q (.bl true) H'
def envL : List Slot := .un :: .src :: List.replicate 24 .un
theorem c_law {P : Program} {w : World} {K : PySem.W.Frag} {mg : Str → Option Value} {base : Heap} {f fo : Addr} {fd fdo : FuncData} (F : FnP K "law" s_law f fd) (Fo : FnP K "_law_open_cells" s__law_open_cells fo fdo) (hmo : mg "_law_open_cells" = some (.ref fo)) (Go : FnOk P w K mg base CX0 1 fo fdo ["script"] (spOpen K)) (g_len : mg "len" = none) (g_max : mg "max" = none) (g_min : mg "min" = none) (g_range : mg "range" = none) (g_sorted : mg "sorted" = none) (g_tuple : mg "tuple" = none) (g_zip : mg "zip" = none) (C__law_cost : Cal P w K mg base "_law_cost" 2 1 f__law_cost) (C__law_pick : Cal P w K mg base "_law_pick" 2 1 f__law_pick) (C__law_state : Cal P w K mg base "_law_state" 3 1 f__law_state) (C__law_things : Cal P w K mg base "_law_things" 1 2 f__law_things) (C_are_things : Cal P w K mg base "are_things" 1 3 f_are_things) (C_eager_cost : Cal P w K mg base "eager_cost" 2 3 f_eager_cost) (C_eager_state : Cal P w K mg base "eager_state" 2 2 f_eager_state) (C_is_no_better : Cal P w K mg base "is_no_better" 3 1 f_is_no_better) (C_judge_share : Cal P w K mg base "judge_share" 3 3 f_judge_share) (C_kept_ways : Cal P w K mg base "kept_ways" 1 2 f_kept_ways) (C_least_costs : Cal P w K mg base "least_costs" 1 1 f_least_costs) (C_least_have : Cal P w K mg base "least_have" 2 2 f_least_have) (C_rent_cost : Cal P w K mg base "rent_cost" 3 1 f_rent_cost) (C_rent_table : Cal P w K mg base "rent_table" 3 2 f_rent_table) (C_share_paper : Cal P w K mg base "share_paper" 2 3 f_share_paper) (C_told_cost : Cal P w K mg base "told_cost" 2 3 f_told_cost) (C_told_state : Cal P w K mg base "told_state" 2 2 f_told_state) (C_way_share : Cal P w K mg base "way_share" 2 3 f_way_share)
    (true_ : ∀ s : Src, ∃ S', d_law ⟨envL, s⟩ = some (.rt (.bool true), S')) : FnOk P w K mg base CX0 4 f fd ["script"] (spLaw K) := by
  have bo : Binds K fdo ["script"] [] := Fo.bindsN fun _ _ _ _ _ _ us hl => match us, hl with | [_], _ => rfl
  refine F.ok sc_law (fun vs H Q E h => ?_) (fun cdv A outer s H vs Q E hr h => ⟨_, PSs.nox (pss_cons (ps_set (i := 1) sc_law.nd rfl (Or.inl rfl) (pe_call Go (hr.mono (by decide)) rfl hmo Fo.kp bo .nil pass0 (pa_cons (pv 0) pa_nil))) (pss_ex fun c =>
  (dss_cons (ds_for PassesOwn.never rfl (di_range1 rfl g_range (dl_cons de_int dl_nil)) (dg_nm 2 sc_law.nd) (dss_cons (ds_unp (de_tup (dl_cons (de_c C__law_things hr (by decide) rfl (da_src 1 da_nil) (len_src (fun _ _ _ h => len_nil h))) (dl_cons (de_op opd_addA de_int (de_c C__law_pick hr (by decide) rfl (da_src 1 (da_cons de_int da_nil)) (len_src (len_cons (fun _ _ _ h => len_nil h))))) dl_nil))) (dg_tp rfl (dgs_cons (dg_nm 3 sc_law.nd) (dgs_cons (dg_nm 4 sc_law.nd) dgs_nil))))
  (dss_cons (ds_if (dt_cmp opd_isnot (de_c C_are_things hr (by decide) rfl (da_cons (de_var 3) da_nil) (len_cons (fun _ _ _ h => len_nil h))) de_bool) (dss_one (ds_ret de_bool)) dss_nil)
  (dss_cons (ds_setComp 5 rfl sc_law.nd (sw_true rfl rfl rfl (by decide +kernel)) (di_seq (de_var 3)) (own := [("price", 21), ("rent", 18)]) (blkOk_by (by kernel_rfl)) (by decide) (fun _ _ _ _ _ => (dg_tp rfl (dgs_cons (dg_nm 21 sc_law.nd) (dgs_cons (dg_nm 18 sc_law.nd) dgs_nil)))) (fun _ _ _ _ _ => dts_nil) (fun _ _ _ _ _ _ => (de_callTy callr_tuple rfl g_tuple b_tuple (dl_cons (de_comp rfl sc_law.nd (di_range2 rfl g_range (dl_cons de_int (dl_cons (de_op opd_addA (de_var 4) de_int) dl_nil))) (own := [("d", 20)]) (blkOk_by (by kernel_rfl)) (by decide) (fun _ _ _ _ _ => (dg_nm 20 sc_law.nd)) (fun _ _ _ _ _ => dts_nil) (fun _ _ _ _ _ _ => (de_op opd_addA (de_var 21) (de_op opd_mulS (de_var 20) (de_var 18))))) dl_nil))))
  (dss_cons (ds_asg 6 (de_callTy callr_tuple rfl g_tuple b_tuple (dl_cons (de_comp rfl sc_law.nd (di_range2 rfl g_range (dl_cons de_int (dl_cons (de_op opd_addA (de_var 4) de_int) dl_nil))) (own := [("d", 20)]) (blkOk_by (by kernel_rfl)) (by decide) (fun _ _ _ _ _ => (dg_nm 20 sc_law.nd)) (fun _ _ _ _ _ => dts_nil) (fun _ _ _ _ _ _ => (de_c C_least_have hr (by decide) rfl (da_cons (de_var 3) (da_cons (de_var 20) da_nil)) (len_cons (len_cons (fun _ _ _ h => len_nil h)))))) dl_nil)) sc_law.nd)
  (dss_cons (ds_if (DW.dt (dw_or (dt_cmp (opd_ne (hu64 hr)) (de_c C_least_costs hr (by decide) rfl (da_cons (de_tupO 5 rfl g_tuple b_tuple (pv 5)) da_nil) (len_cons (fun _ _ _ h => len_nil h))) (de_var 6)) (dw_or1 (dt_cmp (opd_ne (hu64 hr)) (de_c C_least_have hr (by decide) rfl (da_cons (de_var 3) (da_cons de_int da_nil)) (len_cons (len_cons (fun _ _ _ h => len_nil h)))) de_int)))) (dss_one (ds_ret de_bool)) dss_nil)
  (dss_cons (ds_for PassesOwn.never rfl (di_seq (de_tup (dl_cons de_bool (dl_cons de_bool dl_nil)))) (dg_nm 7 sc_law.nd) (dss_cons (ds_new 8 (dn_comp rfl sc_law.nd (di_range2 rfl g_range (dl_cons de_int (dl_cons (de_op opd_addA (de_var 4) de_int) dl_nil))) (own := [("d", 20)]) (blkOk_by (by kernel_rfl)) (by decide) (fun _ _ _ _ _ => (dg_nm 20 sc_law.nd)) (fun _ _ _ _ _ => dts_nil) (fun _ _ _ _ _ _ => (de_c C__law_state hr (by decide) rfl (da_cons (de_var 3) (da_cons (de_var 20) (da_cons (de_var 7) da_nil))) (len_cons (len_cons (len_cons (fun _ _ _ h => len_nil h))))))) sc_law.nd)
  (dss_cons (ds_setComp 9 rfl sc_law.nd (sw_true rfl rfl rfl (by decide +kernel)) (di_range2 rfl g_range (dl_cons de_int (dl_cons (de_op opd_addA (de_var 4) de_int) dl_nil))) (own := [("d", 20)]) (blkOk_by (by kernel_rfl)) (by decide) (fun _ _ _ _ _ => (dg_nm 20 sc_law.nd)) (fun _ _ _ _ _ => dts_nil) (fun _ _ _ _ _ _ => (de_if (dt_val (de_var 7)) (de_c C_eager_state hr (by decide) rfl (da_cons (de_var 3) (da_cons (de_var 20) da_nil)) (len_cons (len_cons (fun _ _ _ h => len_nil h)))) (de_c C_told_state hr (by decide) rfl (da_cons (de_var 3) (da_cons (de_var 20) da_nil)) (len_cons (len_cons (fun _ _ _ h => len_nil h)))))))
  (dss_cons (ds_if (DW.dt (dw_or (dt_cmp (opd_ne (hu64 hr)) (de_var 9) (de_var 8)) (dw_or1 (dt_cmp (opd_ne (hu64 hr)) (de_var 8) (de_callB callr_sorted rfl g_sorted b_sorted (dl_cons (de_var 8) dl_nil)))))) (dss_one (ds_ret de_bool)) dss_nil)
  (dss_cons (ds_setComp 10 rfl sc_law.nd (sw_true rfl rfl rfl (by decide +kernel)) (di_range2 rfl g_range (dl_cons de_int (dl_cons (de_op opd_addA (de_var 4) de_int) dl_nil))) (own := [("d", 20)]) (blkOk_by (by kernel_rfl)) (by decide) (fun _ _ _ _ _ => (dg_nm 20 sc_law.nd)) (fun _ _ _ _ _ => dts_nil) (fun _ _ _ _ _ _ => (de_if (dt_val (de_var 7)) (de_c C_eager_cost hr (by decide) rfl (da_cons (de_var 3) (da_cons (de_var 20) da_nil)) (len_cons (len_cons (fun _ _ _ h => len_nil h)))) (de_c C_told_cost hr (by decide) rfl (da_cons (de_var 3) (da_cons (de_var 20) da_nil)) (len_cons (len_cons (fun _ _ _ h => len_nil h)))))))
  (dss_cons (ds_if (dt_cmp (opd_ne (hu64 hr)) (de_var 10) (de_comp rfl sc_law.nd (di_range2 rfl g_range (dl_cons de_int (dl_cons (de_op opd_addA (de_var 4) de_int) dl_nil))) (own := [("d", 20)]) (blkOk_by (by kernel_rfl)) (by decide) (fun _ _ _ _ _ => (dg_nm 20 sc_law.nd)) (fun _ _ _ _ _ => dts_nil) (fun _ _ _ _ _ _ => (de_c C__law_cost hr (by decide) rfl (da_cons (de_var 3) (da_cons (de_slice (de_var 8) do_none (do_some (de_var 20))) da_nil)) (len_cons (len_cons (fun _ _ _ h => len_nil h))))))) (dss_one (ds_ret de_bool)) dss_nil)
  (dss_one (ds_append (pe_bm PySem.F.plainAttrs_list PySem.F.slot_list_append PySem.F.type_list_append mt_append (pv 5) (pa_cons (de_callTy callr_tuple rfl g_tuple b_tuple (dl_cons (de_slice (de_var 10) (do_some de_int) do_none) dl_nil)) pa_nil))))))))))
  (dss_cons (ds_asg 11 (de_tupO 5 rfl g_tuple b_tuple (pv 5)) sc_law.nd)
  (dss_cons (ds_if (dt_cmp (opd_ne (hu64 hr)) (de_c C_least_costs hr (by decide) rfl (da_cons (de_var 11) da_nil) (len_cons (fun _ _ _ h => len_nil h))) (de_var 6)) (dss_one (ds_ret de_bool)) dss_nil)
  (dss_cons (ds_for PassesOwn.never rfl (di_seq (de_tup (dl_cons (de_callB callr_len rfl g_len b_len (dl_cons (de_var 3) dl_nil)) (dl_cons (de_op opd_addA (de_callB callr_len rfl g_len b_len (dl_cons (de_var 3) dl_nil)) de_int) dl_nil)))) (dg_nm 12 sc_law.nd) (dss_cons (ds_asg 13 (de_c C_way_share hr (by decide) rfl (da_cons (de_var 11) (da_cons (de_var 12) da_nil)) (len_cons (len_cons (fun _ _ _ h => len_nil h)))) sc_law.nd)
  (dss_cons (ds_if (DW.dt (dw_and (dt_cmp opd_gt (de_callB (callr_max1 rfl) rfl g_max b_max (dl_cons (de_var 6) dl_nil)) de_int) (dw_and (DW.dt (dw_or (dt_cmp opd_is (de_var 13) de_none) (dw_or1 (dt_cmp opd_gt (de_ix (de_var 13) de_int) (de_op opd_mulS de_int (de_ix (de_var 13) de_int)))))) (dw_and1 (dt_cmp (opd_notin (hu66 hr)) de_int (de_var 6)))))) (dss_one (ds_ret de_bool)) dss_nil)
  (dss_cons (ds_if (dt_cmp (opd_ne (hu64 hr)) (de_comp rfl sc_law.nd (di_zip rfl g_zip (dl_cons (de_ix (de_var 11) (de_var 12)) (dl_cons (de_var 6) dl_nil))) (own := [("cost", 22), ("least", 23)]) (blkOk_by (by kernel_rfl)) (by decide) (fun _ _ _ _ _ => (dg_tp rfl (dgs_cons (dg_nm 22 sc_law.nd) (dgs_cons (dg_nm 23 sc_law.nd) dgs_nil)))) (fun _ _ _ _ _ => (dts_one fun _ => (dt_cmp opd_gt (de_var 22) (de_op opd_mulS de_int (de_var 23))))) (fun _ _ _ _ _ _ => de_int)) (de_lst dl_nil)) (dss_one (ds_ret de_bool)) dss_nil)
  (dss_one (ds_if (DW.dt (dw_and (dt_cmp opd_isnot (de_var 13) de_none) (dw_and1 (dt_cmp opd_isnot (de_c C_judge_share hr (by decide) rfl (da_cons (de_var 11) (da_cons (de_var 13) (da_cons (de_tup (dl_cons de_str (dl_cons (de_var 12) dl_nil))) da_nil))) (len_cons (len_cons (len_cons (fun _ _ _ h => len_nil h))))) de_none)))) (dss_one (ds_ret de_bool)) dss_nil))))))
  (dss_cons (ds_asg 14 (de_c C_kept_ways hr (by decide) rfl (da_cons (de_var 11) da_nil) (len_cons (fun _ _ _ h => len_nil h))) sc_law.nd)
  (dss_cons (ds_if (dt_cmp (opd_ne (hu64 hr)) (de_c C_least_costs hr (by decide) rfl (da_cons (de_callTy callr_tuple rfl g_tuple b_tuple (dl_cons (de_comp rfl sc_law.nd (di_seq (de_var 14)) (own := [("k", 12)]) (blkOk_by (by kernel_rfl)) (by decide) (fun _ _ _ _ _ => (dg_nm 12 sc_law.nd)) (fun _ _ _ _ _ => dts_nil) (fun _ _ _ _ _ _ => (de_ix (de_var 11) (de_var 12)))) dl_nil)) da_nil) (len_cons (fun _ _ _ h => len_nil h))) (de_var 6)) (dss_one (ds_ret de_bool)) dss_nil)
  (dss_cons (ds_par rfl sc_law.nd (dl_cons (de_c C__law_pick hr (by decide) rfl (da_src 1 (da_cons (de_callB callr_len rfl g_len b_len (dl_cons (de_var 11) dl_nil)) da_nil)) (len_src (len_cons (fun _ _ _ h => len_nil h)))) (dl_cons (de_c C__law_pick hr (by decide) rfl (da_src 1 (da_cons (de_callB callr_len rfl g_len b_len (dl_cons (de_var 11) dl_nil)) da_nil)) (len_src (len_cons (fun _ _ _ h => len_nil h)))) dl_nil)) rfl (by decide) (i := 15) (j := 16))
  (dss_cons (ds_if (DW.dt (dw_and (dt_cmp (opd_ne (hu64 hr)) (de_var 15) (de_var 16)) (dw_and1 (dt_cmp (opd_ne (hu64 hr)) (de_c C_is_no_better hr (by decide) rfl (da_cons (de_var 11) (da_cons (de_var 15) (da_cons (de_var 16) da_nil))) (len_cons (len_cons (len_cons (fun _ _ _ h => len_nil h))))) (de_cmp (opd_eq (hu64 hr)) (de_comp rfl sc_law.nd (di_zip rfl g_zip (dl_cons (de_ix (de_var 11) (de_var 15)) (dl_cons (de_ix (de_var 11) (de_var 16)) dl_nil))) (own := [("x", 24), ("y", 25)]) (blkOk_by (by kernel_rfl)) (by decide) (fun _ _ _ _ _ => (dg_tp rfl (dgs_cons (dg_nm 24 sc_law.nd) (dgs_cons (dg_nm 25 sc_law.nd) dgs_nil)))) (fun _ _ _ _ _ => (dts_one fun _ => (dt_cmp opd_lt (de_var 24) (de_var 25)))) (fun _ _ _ _ _ _ => de_int)) (de_lst dl_nil)))))) (dss_one (ds_ret de_bool)) dss_nil)
  (dss_cons (ds_asg 17 (de_op opd_addA de_int (de_c C__law_pick hr (by decide) rfl (da_src 1 (da_cons de_int da_nil)) (len_src (len_cons (fun _ _ _ h => len_nil h))))) sc_law.nd)
  (dss_cons (ds_asg 18 (de_tup (dl_cons (de_tup (dl_cons de_int (dl_cons de_int dl_nil))) (dl_cons (de_tup (dl_cons (de_var 17) (dl_cons de_int dl_nil))) dl_nil))) sc_law.nd)
  (dss_cons (ds_if (dt_cmp (opd_ne (hu64 hr)) (de_comp rfl sc_law.nd (di_range1 rfl g_range (dl_cons (de_op opd_addA (de_var 4) de_int) dl_nil)) (own := [("d", 20)]) (blkOk_by (by kernel_rfl)) (by decide) (fun _ _ _ _ _ => (dg_nm 20 sc_law.nd)) (fun _ _ _ _ _ => dts_nil) (fun _ _ _ _ _ _ => (de_c C_told_cost hr (by decide) rfl (da_cons (de_var 18) (da_cons (de_var 20) da_nil)) (len_cons (len_cons (fun _ _ _ h => len_nil h)))))) (de_comp rfl sc_law.nd (di_range1 rfl g_range (dl_cons (de_op opd_addA (de_var 4) de_int) dl_nil)) (own := [("d", 20)]) (blkOk_by (by kernel_rfl)) (by decide) (fun _ _ _ _ _ => (dg_nm 20 sc_law.nd)) (fun _ _ _ _ _ => dts_nil) (fun _ _ _ _ _ _ => (de_c C_rent_cost hr (by decide) rfl (da_cons (de_var 17) (da_cons (de_op opd_addA (de_var 17) de_int) (da_cons (de_var 20) da_nil))) (len_cons (len_cons (len_cons (fun _ _ _ h => len_nil h)))))))) (dss_one (ds_ret de_bool)) dss_nil)
  (dss_cons (ds_if (dt_cmp (opd_ne (hu64 hr)) (de_comp rfl sc_law.nd (di_range1 rfl g_range (dl_cons (de_op opd_addA (de_var 4) de_int) dl_nil)) (own := [("d", 20)]) (blkOk_by (by kernel_rfl)) (by decide) (fun _ _ _ _ _ => (dg_nm 20 sc_law.nd)) (fun _ _ _ _ _ => dts_nil) (fun _ _ _ _ _ _ => (de_c C_eager_cost hr (by decide) rfl (da_cons (de_var 18) (da_cons (de_var 20) da_nil)) (len_cons (len_cons (fun _ _ _ h => len_nil h)))))) (de_comp rfl sc_law.nd (di_range1 rfl g_range (dl_cons (de_op opd_addA (de_var 4) de_int) dl_nil)) (own := [("d", 20)]) (blkOk_by (by kernel_rfl)) (by decide) (fun _ _ _ _ _ => (dg_nm 20 sc_law.nd)) (fun _ _ _ _ _ => dts_nil) (fun _ _ _ _ _ _ => (de_c C_rent_cost hr (by decide) rfl (da_cons (de_var 17) (da_cons (de_var 17) (da_cons (de_var 20) da_nil))) (len_cons (len_cons (len_cons (fun _ _ _ h => len_nil h)))))))) (dss_one (ds_ret de_bool)) dss_nil)
  (dss_cons (ds_if (dt_cmp (opd_ne (hu64 hr)) (de_comp rfl sc_law.nd (di_range1 rfl g_range (dl_cons (de_op opd_addA (de_var 4) de_int) dl_nil)) (own := [("d", 20)]) (blkOk_by (by kernel_rfl)) (by decide) (fun _ _ _ _ _ => (dg_nm 20 sc_law.nd)) (fun _ _ _ _ _ => dts_nil) (fun _ _ _ _ _ _ => (de_c C_least_have hr (by decide) rfl (da_cons (de_var 18) (da_cons (de_var 20) da_nil)) (len_cons (len_cons (fun _ _ _ h => len_nil h)))))) (de_comp rfl sc_law.nd (di_range1 rfl g_range (dl_cons (de_op opd_addA (de_var 4) de_int) dl_nil)) (own := [("d", 20)]) (blkOk_by (by kernel_rfl)) (by decide) (fun _ _ _ _ _ => (dg_nm 20 sc_law.nd)) (fun _ _ _ _ _ => dts_nil) (fun _ _ _ _ _ _ => (de_callB (callr_min2 rfl) rfl g_min b_min (dl_cons (de_var 20) (dl_cons (de_var 17) dl_nil)))))) (dss_one (ds_ret de_bool)) dss_nil)
  (dss_cons (ds_asg 10 (de_c C_rent_table hr (by decide) rfl (da_cons (de_var 17) (da_cons de_int (da_cons (de_var 4) da_nil))) (len_cons (len_cons (len_cons (fun _ _ _ h => len_nil h))))) sc_law.nd)
  (dss_cons (ds_asg 19 (de_c C_share_paper hr (by decide) rfl (da_cons (de_var 10) (da_cons (de_tup (dl_cons de_int (dl_cons de_int dl_nil))) da_nil)) (len_cons (len_cons (fun _ _ _ h => len_nil h)))) sc_law.nd)
  (dss_one (ds_if (DW.dt (dw_or (dt_cmp (opd_ne (hu64 hr)) (de_c C_least_costs hr (by decide) rfl (da_cons (de_var 10) da_nil) (len_cons (fun _ _ _ h => len_nil h))) (de_callTy callr_tuple rfl g_tuple b_tuple (dl_cons (de_comp rfl sc_law.nd (di_range2 rfl g_range (dl_cons de_int (dl_cons (de_op opd_addA (de_var 4) de_int) dl_nil))) (own := [("d", 20)]) (blkOk_by (by kernel_rfl)) (by decide) (fun _ _ _ _ _ => (dg_nm 20 sc_law.nd)) (fun _ _ _ _ _ => dts_nil) (fun _ _ _ _ _ _ => (de_callB (callr_min2 rfl) rfl g_min b_min (dl_cons (de_var 20) (dl_cons (de_var 17) dl_nil))))) dl_nil))) (dw_or1 (dt_cmp (opd_ne (hu64 hr)) (de_ix (de_var 19) de_int) de_str)))) (dss_one (ds_ret de_bool)) dss_nil)))))))))))))))))))))))
  (dss_one (ds_ret de_bool))))), ?_⟩)
  · obtain ⟨a, ns, rfl, _⟩ := h
    rfl
  obtain ⟨a, ns, rfl, hl, hS, hQ⟩ := h
  refine ⟨_, rfl, a, ns, rfl, hl, hS, fun H' ps pc hs h1 h2 hat => ?_⟩
  obtain ⟨S', e⟩ := true_ (openS ns)
  refine ⟨⟨H', fun _ => none, ps, pc⟩, fun _ => none, ⟨envL, openS ns⟩, ⟨fun _ _ e => e, fun _ _ e => (nomatch e), fun _ _ e => (nomatch e), fun _ _ e _ _ => e, ?_, ?_, hat, rfl, rfl, rfl, ?_, ?_⟩, _, S', e, fun F' H2 σ' _ _ v hv => ?_⟩
  · show H' ps ≠ none
    rw [hat.d]
    exact fun w => nomatch w
  · show H' pc ≠ none
    rw [hat.l]
    exact fun w => nomatch w
  · intro i x hx
    match i, hx with
    | 0, hx =>
      cases hx
      trivial
    | 1, hx =>
      cases hx
      exact rfl
    | i + 2, hx =>
      have hx' : (List.replicate 24 Slot.un)[i]? = some x := hx
      rw [List.getElem?_replicate] at hx'
      split at hx'
      · cases hx'
        cases hz : (([some (V.ref a)] ++ List.replicate 25 none).set 1 (some (V.ref ps)))[i + 2]? <;> trivial
      · cases hx'
  · intro i j b c _ hi _
    exfalso
    match i, hi with
    | 0, hi => cases hi
    | 1, hi => cases hi
    | i + 2, hi =>
      have hx' : (List.replicate 24 Slot.un)[i]? = some (.own b) := hi
      rw [List.getElem?_replicate] at hx'
      split at hx' <;> cases hx'
  · cases hv
    exact hQ H2
end K46

-- part K46c
set_option Elab.async false
set_option linter.all false
set_option maxRecDepth 100000
set_option maxHeartbeats 1000000
namespace K46
open PySem PySem.Spec PyProof.Rows L2 RZ DL
theorem ev_mul {i j : Int} (h : mulO i j) : mulS (.int i) (.int j) = some (.int (i * j)) := by
  show (if mulO i j then some (PyData.int (i * j)) else none) = _
  rw [if_pos h]
theorem ev_minL {ns : List Int} {m : Int} (h : ns.min? = some m) : altN min1L min1T [lI ns] = some (.int m) := by
  unfold altN min1L
  show (match (intsOf (ns.map PyData.int)).bind minI with | some d => some d | none => min1T [lI ns]) = _
  rw [intsOf_map]
  show (match minI ns with | some d => some d | none => min1T [lI ns]) = _
  unfold minI
  rw [h]
  rfl
theorem ev_maxL {ns : List Int} {m : Int} (h : ns.max? = some m) : altN max1L max1T [lI ns] = some (.int m) := by
  unfold altN max1L
  show (match (intsOf (ns.map PyData.int)).bind maxI with | some d => some d | none => max1T [lI ns]) = _
  rw [intsOf_map]
  show (match maxI ns with | some d => some d | none => max1T [lI ns]) = _
  unfold maxI
  rw [h]
  rfl
theorem ev_maxT {ns : List Int} {m : Int} (h : ns.max? = some m) : altN max1L max1T [tI' ns] = some (.int m) := by
  unfold altN max1L max1T
  show (intsOf (ns.map PyData.int)).bind maxI = _
  rw [intsOf_map]
  show maxI ns = _
  unfold maxI
  rw [h]
  rfl
theorem ev_sum (ns : List Int) : altN sumD sumTD [lI ns] = some (.int ns.sum) := by
  unfold altN sumD
  show (match (intsOf (ns.map PyData.int)).map fun ns => PyData.int ns.sum with | some d => some d | none => sumTD [lI ns]) = _
  rw [intsOf_map]
  rfl
theorem ev_all (bs : List Bool) : allD [.list (bs.map PyData.bool)] = some (.bool (bs.all id)) := by
  show (boolsOf (bs.map PyData.bool)).map _ = _
  rw [boolsOf_map]
  rfl
theorem ev_any (bs : List Bool) : anyD [.list (bs.map PyData.bool)] = some (.bool (bs.any id)) := by
  show (boolsOf (bs.map PyData.bool)).map _ = _
  rw [boolsOf_map]
  rfl
/-! ### the plain functions -/
def cst (th : List (Int × Int)) (d : Int) : List Int := th.map fun p => p.1 + p.2 * d
def mn (xs : List Int) : Int := xs.min?.getD 0
theorem mn_spec {xs : List Int} (h : xs ≠ []) : xs.min? = some (mn xs) ∧ mn xs ∈ xs ∧ ∀ y ∈ xs, mn xs ≤ y := by
  unfold mn
  cases z : xs.min? with
  | none => exact absurd (List.min?_eq_none_iff.mp z) h
  | some m =>
    have := List.min?_eq_some_iff.mp z
    exact ⟨rfl, this.1, this.2⟩
theorem mn_eq {xs : List Int} {m : Int} (h : m ∈ xs) (h2 : ∀ y ∈ xs, m ≤ y) : mn xs = m := by
  have ne : xs ≠ [] := fun e => by rw [e] at h; cases h
  obtain ⟨_, a, b⟩ := mn_spec ne
  have := b m h
  have := h2 _ a
  omega
abbrev thD (th : List (Int × Int)) : D := .tuple (th.map pI)
/-- small things -/
structure Sm (th : List (Int × Int)) : Prop where
  ne : th ≠ []
  len : th.length ≤ 1000
  r : ∀ p ∈ th, p.2.natAbs < 2 ^ 40
theorem E_costs_at {th : List (Int × Int)} (h : Sm th) (d : Int) (s : Src) : f_costs_at [.d (thD th), .d (.int d)] s = some (lI (cst th d), s) := by
  refine (e_def (S' := ⟨[.fz (thD th), .fz (.int d), .un, .un], s⟩) (e_ret (e_comp (env := [.fz (thD th), .fz (.int d), .un, .un]) th pI (fun p => .int (p.1 + p.2 * d)) (e_seqI (d := thD th) rfl rfl) rfl (by have := h.len; omega) rfl fun p hp => ⟨[.fz (thD th), .fz (.int d), .fz (.int p.1), .fz (.int p.2)], rfl, rfl, ?_⟩))).trans ?_
  · exact e_op2 rfl (e_op2 rfl rfl (ev_mul (.inl (Nat.lt_trans (h.r p hp) (by decide))))) rfl
  · unfold lI cst
    rw [List.map_map]
    rfl
theorem cst_ne {th : List (Int × Int)} (h : th ≠ []) (d : Int) : cst th d ≠ [] := by
  unfold cst
  simpa using h
theorem cst_len (th : List (Int × Int)) (d : Int) : (cst th d).length = th.length := by
  unfold cst
  simp
def lh (th : List (Int × Int)) (d : Int) : Int := mn (cst th d)
theorem lh_min {th : List (Int × Int)} (h : Sm th) (d : Int) : (cst th d).min? = some (lh th d) := (mn_spec (cst_ne h.ne d)).1
theorem E_least_have {th : List (Int × Int)} (h : Sm th) (d : Int) (s : Src) : f_least_have [.d (thD th), .d (.int d)] s = some (.int (lh th d), s) := by
  refine e_def (S' := ⟨[.fz (thD th), .fz (.int d)], s⟩) (e_ret (e_callN (e_one (d := lI (cst th d)) ?_) (ev_minL (lh_min h d))))
  exact e_call (S1 := ⟨[.fz (thD th), .fz (.int d)], s⟩) (as := [.d (thD th), .d (.int d)]) rfl (E_costs_at h d s)
/-- the first, the last of the least -/
def ts (th : List (Int × Int)) (d : Int) : Nat := ((cst th d).findIdx? fun z => z == lh th d).getD 0
theorem ts_some {th : List (Int × Int)} (h : Sm th) (d : Int) : (cst th d).findIdx? (fun z => z == lh th d) = some (ts th d) := by
  unfold ts
  cases z : (cst th d).findIdx? (fun z => z == lh th d) with
  | none =>
    have h1 := List.findIdx?_eq_none_iff.mp z _ (mn_spec (cst_ne h.ne d)).2.1
    simp [lh] at h1
  | some j => rfl
theorem E_told_state {th : List (Int × Int)} (h : Sm th) (d : Int) (s : Src) : f_told_state [.d (thD th), .d (.int d)] s = some (.int (ts th d : Nat), s) := by
  refine e_def (S' := ⟨[.fz (thD th), .fz (.int d), .fz (lI (cst th d))], s⟩) (e_seq (S1 := ⟨[.fz (thD th), .fz (.int d), .fz (lI (cst th d))], s⟩) (e_asg (d := lI (cst th d)) (S1 := ⟨[.fz (thD th), .fz (.int d), .un], s⟩) ?_) (e_ret ?_))
  · exact e_call (S1 := ⟨[.fz (thD th), .fz (.int d), .un], s⟩) (as := [.d (thD th), .d (.int d)]) rfl (E_costs_at h d s)
  refine e_op2 rfl (e_callN (e_one rfl) (ev_minL (lh_min h d))) ?_
  show (if okD (.int _) = true ∧ okD (lI _) = true then _ else none) = _
  rw [if_pos ⟨by unfold okD; simp [PyData.canLay0, PyData.depth], ok_lI _⟩]
  have e : ((cst th d).map PyData.int).findIdx? (fun z => PyData.eqv z (.int (lh th d))) = (cst th d).findIdx? (fun z => z == lh th d) := by
    rw [List.findIdx?_map]
    congr 1
  rw [e, ts_some h d]
  rfl
/-- the places of the least -/
def am (th : List (Int × Int)) (d : Int) : List Nat := (List.range th.length).filter fun k => (cst th d)[k]? == some (lh th d)
theorem enumL_ints (xs : List Int) : enumL (xs.map PyData.int) = (List.range xs.length).map fun (k : Nat) => PyData.tuple [.int k, .int (xs.getD k 0)] := by
  refine List.ext_getElem? fun i => ?_
  by_cases hi : i < xs.length
  · rw [enumL_get (x := .int xs[i]) (by rw [List.getElem?_map, List.getElem?_eq_getElem hi]; rfl), List.getElem?_map, List.getElem?_range hi]
    simp [List.getD_eq_getElem?_getD, hi]
  · rw [List.getElem?_eq_none (by rw [enumL_len, List.length_map]; omega), List.getElem?_eq_none (by simp; omega)]
def es (th : List (Int × Int)) (d : Int) : Nat := ((am th d).map fun (k : Nat) => (k : Int)).max?.getD 0 |>.toNat
theorem am_ne {th : List (Int × Int)} (h : Sm th) (d : Int) : am th d ≠ [] := by
  obtain ⟨_, a, _⟩ := mn_spec (cst_ne h.ne d)
  obtain ⟨k, hk⟩ := List.getElem?_of_mem a
  have hl : k < th.length := by
    have := (List.getElem?_eq_some_iff.mp hk).1
    rw [cst_len] at this
    exact this
  refine List.ne_nil_of_mem (a := k) (List.mem_filter.mpr ⟨List.mem_range.mpr hl, ?_⟩)
  rw [hk]
  simp [lh]
theorem es_max {th : List (Int × Int)} (h : Sm th) (d : Int) : ((am th d).map fun (k : Nat) => (k : Int)).max? = some ((es th d : Nat) : Int) := by
  unfold es
  cases z : ((am th d).map fun (k : Nat) => (k : Int)).max? with
  | none =>
    have := List.max?_eq_none_iff.mp z
    exact absurd (by simpa using this) (am_ne h d)
  | some m =>
    have hm := (List.max?_eq_some_iff.mp z).1
    obtain ⟨k, _, rfl⟩ := List.mem_map.mp hm
    simp
theorem E_am {th : List (Int × Int)} (h : Sm th) (d : Int) : (((List.range (cst th d).length).filter fun k => decide ((cst th d).getD k 0 = lh th d)).map fun (k : Nat) => PyData.int (k : Int)) = (am th d).map fun (k : Nat) => PyData.int (k : Int) := by
  unfold am
  rw [cst_len]
  congr 1
  refine List.filter_congr fun k hk => ?_
  have hl : k < (cst th d).length := by
    rw [cst_len]
    exact List.mem_range.mp hk
  rw [List.getD_eq_getElem?_getD, List.getElem?_eq_getElem hl]
  by_cases hh : (cst th d)[k] = lh th d <;> simp [hh]
theorem E_eager_state {th : List (Int × Int)} (h : Sm th) (d : Int) (s : Src) : f_eager_state [.d (thD th), .d (.int d)] s = some (.int (es th d : Nat), s) := by
  have hlen := h.len
  refine e_def (S' := ⟨[.fz (thD th), .fz (.int d), .fz (lI (cst th d)), .un, .un], s⟩) (e_seq (S1 := ⟨[.fz (thD th), .fz (.int d), .fz (lI (cst th d)), .un, .un], s⟩) (e_asg (d := lI (cst th d)) (S1 := ⟨[.fz (thD th), .fz (.int d), .un, .un, .un], s⟩) ?_) (e_ret ?_))
  · exact e_call (S1 := ⟨[.fz (thD th), .fz (.int d), .un, .un, .un], s⟩) (as := [.d (thD th), .d (.int d)]) rfl (E_costs_at h d s)
  refine e_callN (e_one (d := lI ((am th d).map fun (k : Nat) => (k : Int))) ?_) (ev_maxL (es_max h d))
  refine (e_compIf (s := s) (env := [.fz (thD th), .fz (.int d), .fz (lI (cst th d)), .un, .un]) (List.range (cst th d).length) (fun (k : Nat) => PyData.tuple [.int k, .int ((cst th d).getD k 0)]) (fun k => decide ((cst th d).getD k 0 = lh th d)) (fun k => .int (k : Nat)) ?_ rfl ?_ rfl fun k hk => ⟨[.fz (thD th), .fz (.int d), .fz (lI (cst th d)), .fz (.int (k : Nat)), .fz (.int ((cst th d).getD k 0))], rfl, rfl, ?_, fun _ => rfl⟩).trans ?_
  · show bnd _ _ _ = _
    rw [bnd_eq (e_one rfl)]
    show some (enumL ((cst th d).map PyData.int), _) = _
    rw [enumL_ints]
  · rw [List.length_range, cst_len]
    omega
  · exact e_toB (e_op2 rfl (e_callN (e_one rfl) (ev_minL (lh_min h d))) (eq_int _ _))
  · rw [E_am h d]
    unfold lI
    rw [List.map_map]
    rfl
/-- the price of the last and the rents of all -/
def cbs (th : List (Int × Int)) (st : List Nat) : Int := (match st.getLast? with | some k => (th.getD k (0, 0)).1 | none => 0) + (st.map fun k => (th.getD k (0, 0)).2).sum
abbrev lN (st : List Nat) : D := .list (st.map fun (k : Nat) => PyData.int (k : Int))
theorem lN_lI (st : List Nat) : lN st = lI (st.map fun (k : Nat) => (k : Int)) := by
  unfold lN lI
  rw [List.map_map]
  rfl
theorem atI_nat {α : Type} (xs : List α) (k : Nat) : L2.atI xs (k : Int) = xs[k]? := by
  unfold L2.atI L2.ixN
  by_cases h : k < xs.length
  · rw [if_pos (by omega), if_pos (by omega)]
    simp
  · rw [if_pos (by omega), if_neg (by omega), List.getElem?_eq_none (by omega)]
    rfl
theorem atI_last {α : Type} (xs : List α) : L2.atI xs (-1) = xs.getLast? := by
  unfold L2.atI L2.ixN
  cases xs with
  | nil => rfl
  | cons x xs =>
    rw [if_neg (by omega), if_pos (by simp; omega)]
    have e : ∀ n : Nat, (-1 + ((n : Int) + 1)).toNat = n := fun n => by omega
    simp [List.getLast?_eq_getElem?]
    rw [e, List.getElem?_eq_getElem (by simp)]
theorem ix_at {α : Type} (f : α → D) (xs : List α) (k : Nat) (z : α) (h : k < xs.length) : ixD (.tuple (xs.map f)) (.int (k : Nat)) = some (f (xs.getD k z)) := by
  show L2.atI (xs.map f) (k : Int) = _
  rw [atI_nat, List.getElem?_map, List.getElem?_eq_getElem h, List.getD_eq_getElem?_getD, List.getElem?_eq_getElem h]
  rfl
theorem ix_atL {α : Type} (f : α → D) (xs : List α) (k : Nat) (z : α) (h : k < xs.length) : ixD (.list (xs.map f)) (.int (k : Nat)) = some (f (xs.getD k z)) := ix_at f xs k z h
theorem E_cbs {th : List (Int × Int)} (h : Sm th) (st : List Nat) (hl : st.length ≤ 1000) (hk : ∀ k ∈ st, k < th.length) (s : Src) : f_cost_by_states [.d (thD th), .d (lN st)] s = some (.int (cbs th st), s) := by
  have e1 : ∀ (env1 : List Slot) (x y : Slot), env1 = [.fz (thD th), .fz (lN st), x, y] → (compD [3] (seqI (vD 1)) (.nm 3) (DL.ret true) (op2 ixD (op2 ixD (vD 0) (vD 3)) (cD (.int 1)))) ⟨[.fz (thD th), .fz (lN st), x, .un], s⟩ = some (lI (st.map fun k => (th.getD k (0, 0)).2), ⟨[.fz (thD th), .fz (lN st), x, .un], s⟩) := fun env1 x y _ => by
    refine (e_comp (s := s) (env := [.fz (thD th), .fz (lN st), x, .un]) st (fun (k : Nat) => PyData.int (k : Int)) (fun k => .int (th.getD k (0, 0)).2) (e_seqI rfl rfl) rfl (by omega) rfl fun k hk' => ⟨[.fz (thD th), .fz (lN st), x, .fz (.int (k : Nat))], rfl, rfl, ?_⟩).trans ?_
    · exact e_op2 (e_op2 rfl rfl (ix_at pI th k (0, 0) (hk k hk'))) rfl rfl
    · unfold lI
      rw [List.map_map]
      rfl
  unfold cbs
  cases hst : st.getLast? with
  | none =>
    have : st = [] := List.getLast?_eq_none_iff.mp hst
    subst this
    refine e_def (S' := ⟨[.fz (thD th), .fz (lN []), .fz (.int 0), .un], s⟩) (e_seq (S1 := ⟨[.fz (thD th), .fz (lN []), .fz (.int 0), .un], s⟩) (e_asg (S1 := ⟨[.fz (thD th), .fz (lN []), .un, .un], s⟩) (d := .int 0) (e_ifDF (S1 := ⟨[.fz (thD th), .fz (lN []), .un, .un], s⟩) (e_toB (e_op2 rfl (e_lst rfl (by decide)) (ne_lI [] []))) rfl)) (e_ret ?_))
    exact e_op2 rfl (e_callN (e_one (e1 _ _ .un rfl)) (ev_sum _)) rfl
  | some k =>
    have hne : st ≠ [] := fun e => by rw [e] at hst; cases hst
    have hkm : k ∈ st := List.mem_of_getLast? hst
    refine e_def (S' := ⟨[.fz (thD th), .fz (lN st), .fz (.int (th.getD k (0, 0)).1), .un], s⟩) (e_seq (S1 := ⟨[.fz (thD th), .fz (lN st), .fz (.int (th.getD k (0, 0)).1), .un], s⟩) (e_asg (S1 := ⟨[.fz (thD th), .fz (lN st), .un, .un], s⟩) (d := .int (th.getD k (0, 0)).1) (e_ifDT (S1 := ⟨[.fz (thD th), .fz (lN st), .un, .un], s⟩) ?_ ?_)) (e_ret ?_))
    · refine e_toB (e_op2 rfl (e_lst rfl (by decide)) ?_)
      rw [lN_lI]
      refine (ne_lI _ []).trans ?_
      simp [hne]
    · refine e_op2 (e_op2 rfl (e_op2 rfl rfl (y := .int (-1)) (z := .int (k : Nat)) ?_) (ix_at pI th k (0, 0) (hk k hkm))) rfl rfl
      show L2.atI (st.map _) (-1) = _
      rw [atI_last, List.getLast?_map, hst]
      rfl
    · exact e_op2 rfl (e_callN (e_one (e1 _ _ .un rfl)) (ev_sum _)) rfl
theorem ev_range1 {n : MV (List D)} {S S1 : Sta} {j : Int} (h : n S = some ([.int j], S1)) (hb : -(2 ^ 62) ≤ j ∧ j < 2 ^ 62) : rangeI1 n S = some ((List.range j.toNat).map fun (k : Nat) => PyData.int (k : Int), S1) := by
  unfold rangeI1
  rw [bnd_eq h]
  show (if -(2 ^ 62) ≤ j ∧ j < 2 ^ 62 then DL.ret (DL.upTo 0 j) else fun _ => none) S1 = _
  rw [if_pos hb]
  show some (DL.upTo 0 j, S1) = _
  unfold DL.upTo
  simp
theorem ev_range2 {n : MV (List D)} {S S1 : Sta} {i j : Int} (h : n S = some ([.int i, .int j], S1)) (hb : (-(2 ^ 62) ≤ i ∧ i < 2 ^ 62) ∧ -(2 ^ 62) ≤ j ∧ j < 2 ^ 62) : rangeI2 n S = some ((List.range (j - i).toNat).map fun (k : Nat) => PyData.int (i + (k : Int)), S1) := by
  unfold rangeI2
  rw [bnd_eq h]
  show (if (-(2 ^ 62) ≤ i ∧ i < 2 ^ 62) ∧ -(2 ^ 62) ≤ j ∧ j < 2 ^ 62 then DL.ret (DL.upTo i j) else fun _ => none) S1 = _
  rw [if_pos hb]
  rfl
/-- the days 1 .. d -/
abbrev dys (d : Nat) : List Int := (List.range d).map fun (k : Nat) => 1 + (k : Int)
theorem ts_lt {th : List (Int × Int)} (h : Sm th) (d : Int) : ts th d < th.length := by
  have := List.findIdx?_eq_some_iff_getElem.mp (ts_some h d)
  obtain ⟨h1, _⟩ := this
  rw [cst_len] at h1
  exact h1
theorem es_mem {th : List (Int × Int)} (h : Sm th) (d : Int) : es th d ∈ am th d := by
  have hm := (List.max?_eq_some_iff.mp (es_max h d)).1
  obtain ⟨k, hk, e⟩ := List.mem_map.mp hm
  have : k = es th d := by omega
  rw [← this]
  exact hk
theorem es_lt {th : List (Int × Int)} (h : Sm th) (d : Int) : es th d < th.length := List.mem_range.mp (List.mem_filter.mp (es_mem h d)).1
theorem E_told_cost {th : List (Int × Int)} (h : Sm th) (d : Nat) (hd : d ≤ 1000) (s : Src) : f_told_cost [.d (thD th), .d (.int (d : Nat))] s = some (.int (cbs th ((dys d).map (ts th))), s) := by
  refine e_def (S' := ⟨[.fz (thD th), .fz (.int (d : Nat)), .un], s⟩) (e_ret (e_call (S1 := ⟨[.fz (thD th), .fz (.int (d : Nat)), .un], s⟩) (as := [.d (thD th), .d (lN ((dys d).map (ts th)))]) (e_consA rfl (e_consA (xs := []) ?_ rfl)) (E_cbs h _ (by simp [hd]) (fun k hk => ?_) s)))
  · refine (e_comp (s := s) (env := [.fz (thD th), .fz (.int (d : Nat)), .un]) (List.range d) (fun (k : Nat) => PyData.int (1 + (k : Int))) (fun (k : Nat) => PyData.int ((ts th (1 + (k : Int)) : Nat) : Int)) ?_ rfl (by simp; omega) rfl fun k hk => ⟨[.fz (thD th), .fz (.int (d : Nat)), .fz (.int (1 + (k : Int)))], rfl, rfl, ?_⟩).trans ?_
    · refine (ev_range2 (i := 1) (j := (d : Int) + 1) rfl (by omega)).trans ?_
      rw [show ((d : Int) + 1 - 1).toNat = d by omega]
      rfl
    · exact e_call (S1 := ⟨[.fz (thD th), .fz (.int (d : Nat)), .fz (.int (1 + (k : Int)))], s⟩) (as := [.d (thD th), .d (.int (1 + (k : Int)))]) rfl (E_told_state h _ s)
    · unfold lN
      rw [List.map_map, List.map_map]
      rfl
  · obtain ⟨x, _, rfl⟩ := List.mem_map.mp hk
    exact ts_lt h x
theorem E_eager_cost {th : List (Int × Int)} (h : Sm th) (d : Nat) (hd : d ≤ 1000) (s : Src) : f_eager_cost [.d (thD th), .d (.int (d : Nat))] s = some (.int (cbs th ((dys d).map (es th))), s) := by
  refine e_def (S' := ⟨[.fz (thD th), .fz (.int (d : Nat)), .un], s⟩) (e_ret (e_call (S1 := ⟨[.fz (thD th), .fz (.int (d : Nat)), .un], s⟩) (as := [.d (thD th), .d (lN ((dys d).map (es th)))]) (e_consA rfl (e_consA (xs := []) ?_ rfl)) (E_cbs h _ (by simp [hd]) (fun k hk => ?_) s)))
  · refine (e_comp (s := s) (env := [.fz (thD th), .fz (.int (d : Nat)), .un]) (List.range d) (fun (k : Nat) => PyData.int (1 + (k : Int))) (fun (k : Nat) => PyData.int ((es th (1 + (k : Int)) : Nat) : Int)) ?_ rfl (by simp; omega) rfl fun k hk => ⟨[.fz (thD th), .fz (.int (d : Nat)), .fz (.int (1 + (k : Int)))], rfl, rfl, ?_⟩).trans ?_
    · refine (ev_range2 (i := 1) (j := (d : Int) + 1) rfl (by omega)).trans ?_
      rw [show ((d : Int) + 1 - 1).toNat = d by omega]
      rfl
    · exact e_call (S1 := ⟨[.fz (thD th), .fz (.int (d : Nat)), .fz (.int (1 + (k : Int)))], s⟩) (as := [.d (thD th), .d (.int (1 + (k : Int)))]) rfl (E_eager_state h _ s)
    · unfold lN
      rw [List.map_map, List.map_map]
      rfl
  · obtain ⟨x, _, rfl⟩ := List.mem_map.mp hk
    exact es_lt h x
end K46

-- part K46d
set_option Elab.async false
set_option linter.all false
set_option maxRecDepth 100000
set_option maxHeartbeats 1000000
namespace K46
open PySem PySem.Spec PyProof.Rows L2 RZ DL
/-- a table of rows of n costs -/
structure Tb (rows : List (List Int)) (n : Nat) : Prop where
  ne : rows ≠ []
  len : rows.length ≤ 1100
  wid : ∀ r ∈ rows, r.length = n
  n1 : 1 ≤ n
  n2 : n ≤ 1000
  nn : ∀ r ∈ rows, ∀ x ∈ r, 0 ≤ x ∧ x < 2 ^ 30
abbrev tbD (rows : List (List Int)) : D := .tuple (rows.map tI')
/-- the entry of a row -/
def en (rows : List (List Int)) (k i : Nat) : Int := (rows.getD k []).getD i 0
def lcs (rows : List (List Int)) (n : Nat) : List Int := (List.range n).map fun i => mn (rows.map fun r => r.getD i 0)
theorem lcs_len (rows : List (List Int)) (n : Nat) : (lcs rows n).length = n := by simp [lcs]
theorem lcs_at {rows : List (List Int)} {n i : Nat} (h : i < n) : (lcs rows n).getD i 0 = mn (rows.map fun r => r.getD i 0) := by
  unfold lcs
  rw [List.getD_eq_getElem?_getD, List.getElem?_map, List.getElem?_range h]
  rfl
theorem row_len {rows : List (List Int)} {n k : Nat} (h : Tb rows n) (hk : k < rows.length) : (rows.getD k []).length = n := by
  rw [List.getD_eq_getElem?_getD, List.getElem?_eq_getElem hk]
  exact h.wid _ (List.getElem_mem hk)
theorem row_mem {rows : List (List Int)} {k : Nat} (hk : k < rows.length) : rows.getD k [] ∈ rows := by
  rw [List.getD_eq_getElem?_getD, List.getElem?_eq_getElem hk]
  exact List.getElem_mem hk
theorem E_least_costs {rows : List (List Int)} {n : Nat} (h : Tb rows n) (s : Src) : f_least_costs [.d (tbD rows)] s = some (tI' (lcs rows n), s) := by
  have hpos : 0 < rows.length := List.length_pos_iff.mpr h.ne
  have h2 := h.n2
  have h3 := h.len
  refine e_def (S' := ⟨[.fz (tbD rows), .un, .un], s⟩) (e_ret (e_callN (e_one (d := lI (lcs rows n)) ?_) rfl))
  refine (e_comp (s := s) (env := [.fz (tbD rows), .un, .un]) (List.range n) (fun (k : Nat) => PyData.int (k : Int)) (fun i => .int (mn (rows.map fun r => r.getD i 0))) ?_ rfl (by simp; omega) rfl fun i hi => ⟨[.fz (tbD rows), .un, .fz (.int (i : Nat))], rfl, rfl, ?_⟩).trans ?_
  · refine (ev_range1 (j := (n : Int)) (e_one (e_callN (e_one (e_op2 rfl rfl (ix_at tI' rows 0 [] hpos))) ?_)) (by omega)).trans ?_
    · show some (PyData.int (((rows.getD 0 []).map PyData.int).length : Int)) = _
      rw [List.length_map, row_len h hpos]
    · simp
      rfl
  · have hi' : i < n := List.mem_range.mp hi
    refine e_callN (e_one (d := lI (rows.map fun r => r.getD i 0)) ?_) (ev_minL (mn_spec (by simpa using h.ne)).1)
    refine (e_comp (s := s) (env := [.fz (tbD rows), .un, .fz (.int (i : Nat))]) rows tI' (fun r => .int (r.getD i 0)) (e_seqI rfl rfl) rfl (by omega) rfl fun r hr => ⟨[.fz (tbD rows), .fz (tI' r), .fz (.int (i : Nat))], rfl, rfl, ?_⟩).trans ?_
    · exact e_op2 rfl rfl (ix_at PyData.int r i 0 (by rw [h.wid r hr]; exact hi'))
    · unfold lI
      rw [List.map_map]
      rfl
  · unfold lI lcs
    rw [List.map_map]
    rfl
theorem zipL_ints (xs ys : List Int) : zipL (xs.map PyData.int) (ys.map PyData.int) = (xs.zip ys).map pI := by
  unfold zipL
  induction xs generalizing ys with
  | nil => rfl
  | cons x xs ih =>
    cases ys with
    | nil => rfl
    | cons y ys =>
      simp only [List.map_cons, List.zipWith_cons_cons, List.zip_cons_cons]
      rw [ih ys]
theorem ev_zip {n : MV (List D)} {S S1 : Sta} {xs ys : List Int} (h : n S = some ([tI' xs, tI' ys], S1)) : zipI n S = some ((xs.zip ys).map pI, S1) := by
  unfold zipI
  rw [bnd_eq h]
  show some (zipL _ _, S1) = _
  rw [zipL_ints]
/-- row k is nowhere better than row o -/
def nb (rows : List (List Int)) (k o : Nat) : Bool := ((rows.getD k []).zip (rows.getD o [])).all fun p => decide (p.2 ≤ p.1)
theorem E_nb {rows : List (List Int)} {n : Nat} (h : Tb rows n) {k o : Nat} (hk : k < rows.length) (ho : o < rows.length) (s : Src) : f_is_no_better [.d (tbD rows), .d (.int (k : Nat)), .d (.int (o : Nat))] s = some (.bool (nb rows k o), s) := by
  have hl : ((rows.getD k []).zip (rows.getD o [])).length ≤ 1000000 := by
    rw [List.length_zip, row_len h hk, row_len h ho]
    have := h.n2
    omega
  refine e_def (S' := ⟨[.fz (tbD rows), .fz (.int (k : Nat)), .fz (.int (o : Nat)), .un, .un], s⟩) (e_ret (e_callN (e_one (d := .list ((((rows.getD k []).zip (rows.getD o [])).map fun p => decide (p.2 ≤ p.1)).map PyData.bool)) ?_) ?_))
  · refine (e_comp (s := s) (env := [.fz (tbD rows), .fz (.int (k : Nat)), .fz (.int (o : Nat)), .un, .un]) ((rows.getD k []).zip (rows.getD o [])) pI (fun p => .bool (decide (p.2 ≤ p.1))) ?_ rfl hl rfl fun p hp => ⟨[.fz (tbD rows), .fz (.int (k : Nat)), .fz (.int (o : Nat)), .fz (.int p.1), .fz (.int p.2)], rfl, rfl, ?_⟩).trans ?_
    · exact ev_zip (e_cons (e_op2 rfl rfl (ix_at tI' rows k [] hk)) (e_one (e_op2 rfl rfl (ix_at tI' rows o [] ho))))
    · exact e_op2 rfl rfl rfl
    · rw [List.map_map]
      rfl
  · rw [ev_all]
    unfold nb
    rw [List.all_map]
    rfl
theorem nb_iff {rows : List (List Int)} {n : Nat} (h : Tb rows n) {k o : Nat} (hk : k < rows.length) (ho : o < rows.length) : nb rows k o = true ↔ ∀ i, i < n → en rows o i ≤ en rows k i := by
  unfold nb en
  have h1 := row_len h hk
  have h2 := row_len h ho
  generalize rows.getD k [] = a at *
  generalize rows.getD o [] = b at *
  rw [List.all_eq_true]
  constructor
  · intro q i hi
    have ha : i < a.length := by omega
    have hb : i < b.length := by omega
    have := q (a[i], b[i]) (by
      rw [List.mem_iff_getElem?]
      exact ⟨i, by rw [List.getElem?_zip_eq_some]; exact ⟨List.getElem?_eq_getElem ha, List.getElem?_eq_getElem hb⟩⟩)
    rw [List.getD_eq_getElem?_getD, List.getD_eq_getElem?_getD, List.getElem?_eq_getElem ha, List.getElem?_eq_getElem hb]
    simpa using this
  · rintro q ⟨x, y⟩ hp
    obtain ⟨i, hi⟩ := List.getElem?_of_mem hp
    rw [List.getElem?_zip_eq_some] at hi
    have hl := (List.getElem?_eq_some_iff.mp hi.1).1
    have := q i (by omega)
    rw [List.getD_eq_getElem?_getD, List.getD_eq_getElem?_getD, hi.1, hi.2] at this
    simpa using this
/-! ### share numbers -/
theorem E_share_number {p q : Int} (hp : 0 ≤ p) (hq : 0 < q) (hq2 : q < 2 ^ 30) (s : Src) : ∃ g : Int, 0 < g ∧ g ∣ p ∧ g ∣ q ∧ f_share_number [.d (.int p), .d (.int q)] s = some (pI (p / g, q / g), s) := by
  -- the loop
  have loop : ∀ (n : Nat) (a b : Int), b.toNat ≤ n → 0 ≤ b → 0 ≤ a → (0 < a ∨ 0 < b) → ∃ g : Int, 0 < g ∧ g ∣ a ∧ g ∣ b ∧
      whileS (toB (op2 gtI (vD 3) (cD (.int 0)))) (par2 2 3 (consL (vD 3) (consL (op2 modI (vD 2) (vD 3)) (DL.ret [])))) ⟨[.fz (.int p), .fz (.int q), .fz (.int a), .fz (.int b)], s⟩ = some (.nx, ⟨[.fz (.int p), .fz (.int q), .fz (.int g), .fz (.int 0)], s⟩) := by
    intro n
    induction n with
    | zero =>
      intro a b hb h0 ha hor
      obtain rfl : b = 0 := by omega
      refine ⟨a, by omega, Int.dvd_refl a, Int.dvd_zero a, whileS_end (e_toB (e_op2 rfl rfl ?_))⟩
      rfl
    | succ n ih =>
      intro a b hb h0 ha hor
      by_cases hz : b = 0
      · subst hz
        refine ⟨a, by omega, Int.dvd_refl a, Int.dvd_zero a, whileS_end (e_toB (e_op2 rfl rfl ?_))⟩
        rfl
      · have hbp : 0 < b := by omega
        have hm := fmod_bd (a := a) hbp
        obtain ⟨g, g1, g2, g3, g4⟩ := ih b (a.fmod b) (by omega) hm.1 (by omega) (.inl hbp)
        have hdv : g ∣ a := by
          have e : a = b * a.fdiv b + a.fmod b := (Int.mul_fdiv_add_fmod a b).symm
          rw [e]
          exact Int.dvd_add (Int.dvd_mul_of_dvd_left g2) g3
        refine ⟨g, g1, hdv, g2, whileS_go (S1 := ⟨[.fz (.int p), .fz (.int q), .fz (.int a), .fz (.int b)], s⟩) (S2 := ⟨[.fz (.int p), .fz (.int q), .fz (.int b), .fz (.int (a.fmod b))], s⟩) (e_toB (e_op2 rfl rfl ?_)) ?_ g4⟩
        · show some (PyData.bool (decide (0 < b))) = _
          rw [decide_eq_true hbp]
        · unfold par2
          rw [bnd_eq (e_cons rfl (e_one (e_op2 rfl rfl (z := .int (a.fmod b)) ?_)))]
          · rfl
          · show (if b ≠ 0 then some (PyData.int (a.fmod b)) else none) = _
            rw [if_pos hz]
  obtain ⟨g, g1, g2, g3, g4⟩ := loop q.toNat p q (Nat.le_refl _) (by omega) hp (.inr hq)
  have hgq : g ≤ q := Int.le_of_dvd hq g3
  have hlog : g.natAbs.log2 < 9000 := by
    have h0 : g.natAbs ≠ 0 := by omega
    have := (Nat.log2_lt (k := 30) h0).mpr (by omega)
    omega
  refine ⟨g, g1, g2, g3, e_def (S' := ⟨[.fz (.int p), .fz (.int q), .fz (.int g), .fz (.int 0)], s⟩) (e_seq (S1 := ⟨[.fz (.int p), .fz (.int q), .fz (.int p), .fz (.int q)], s⟩) ?_ (e_seq g4 (e_ret (e_tup (e_cons (e_op2 rfl rfl (z := .int (p / g)) ?_) (e_one (e_op2 rfl rfl (z := .int (q / g)) ?_))) (show 2 ≤ 1000000 by decide)))))⟩
  · unfold par2
    rw [bnd_eq (e_cons (e_callN (e_one rfl) (d := .int p) ?_) (e_one rfl))]
    · rfl
    · show some (PyData.int (if p < 0 then -p else p)) = _
      rw [if_neg (by omega)]
  · show (if 0 < g ∧ g.natAbs.log2 < 9000 then some (PyData.int (p / g)) else none) = _
    rw [if_pos ⟨g1, hlog⟩]
  · show (if 0 < g ∧ g.natAbs.log2 < 9000 then some (PyData.int (q / g)) else none) = _
    rw [if_pos ⟨g1, hlog⟩]
/-- what is small -/
def sml (i : Int) : Prop := 0 ≤ i ∧ i < 2 ^ 40
theorem sml_mul {i j : Int} (h : sml i) : mulO i j := .inl (by unfold sml at h; omega)
theorem E_greater_share {a b x y : Int} (ha : sml a) (hx : sml x) (s : Src) : f_greater_share [.d (pI (a, b)), .d (pI (x, y))] s = some (if a * y < x * b then pI (x, y) else pI (a, b), s) := by
  have e : f_is_less_share [.d (pI (a, b)), .d (pI (x, y))] s = some (.bool (decide (a * y < x * b)), s) :=
    e_def (S' := ⟨[.fz (pI (a, b)), .fz (pI (x, y))], s⟩) (e_ret (e_op2 (e_op2 (e_op2 rfl rfl rfl) (e_op2 rfl rfl rfl) (ev_mul (sml_mul ha))) (e_op2 (e_op2 rfl rfl rfl) (e_op2 rfl rfl rfl) (ev_mul (sml_mul hx))) rfl))
  have e2 : callD f_is_less_share (consA (vD 0) (consA (vD 1) (DL.ret []))) ⟨[.fz (pI (a, b)), .fz (pI (x, y))], s⟩ = some (.bool (decide (a * y < x * b)), ⟨[.fz (pI (a, b)), .fz (pI (x, y))], s⟩) :=
    e_call (S1 := ⟨[.fz (pI (a, b)), .fz (pI (x, y))], s⟩) (as := [.d (pI (a, b)), .d (pI (x, y))]) rfl e
  by_cases h : a * y < x * b
  · rw [if_pos h]
    rw [decide_eq_true h] at e2
    exact e_def (S' := ⟨[.fz (pI (a, b)), .fz (pI (x, y))], s⟩) (e_ret (e_ifDT (e_toB e2) rfl))
  · rw [if_neg h]
    rw [decide_eq_false h] at e2
    exact e_def (S' := ⟨[.fz (pI (a, b)), .fz (pI (x, y))], s⟩) (e_ret (e_ifDF (e_toB e2) rfl))
end K46

-- part K46e
set_option Elab.async false
set_option linter.all false
set_option maxRecDepth 100000
set_option maxHeartbeats 1000000
namespace K46
open PySem PySem.Spec PyProof.Rows L2 RZ DL
theorem en_nn {rows : List (List Int)} {n k i : Nat} (h : Tb rows n) (hk : k < rows.length) (hi : i < n) : 0 ≤ en rows k i ∧ en rows k i < 2 ^ 30 := by
  have hl := row_len h hk
  unfold en
  rw [List.getD_eq_getElem?_getD (l := rows.getD k []), List.getElem?_eq_getElem (by omega)]
  exact h.nn _ (row_mem hk) _ (List.getElem_mem (by omega))
/-- the least of the place i -/
def le' (rows : List (List Int)) (i : Nat) : Int := mn (rows.map fun r => r.getD i 0)
theorem le_spec {rows : List (List Int)} {n i : Nat} (h : Tb rows n) (hi : i < n) : (∃ k, k < rows.length ∧ le' rows i = en rows k i) ∧ ∀ k, k < rows.length → le' rows i ≤ en rows k i := by
  have hne : rows.map (fun r => r.getD i 0) ≠ [] := by simpa using h.ne
  obtain ⟨_, a, b⟩ := mn_spec hne
  constructor
  · obtain ⟨r, hr, e⟩ := List.mem_map.mp a
    obtain ⟨k, hk⟩ := List.getElem?_of_mem hr
    have hl := (List.getElem?_eq_some_iff.mp hk).1
    refine ⟨k, hl, ?_⟩
    unfold le' en
    rw [← e, List.getD_eq_getElem?_getD (l := rows), hk]
    rfl
  · intro k hk
    unfold le' en
    exact b _ (List.mem_map.mpr ⟨_, row_mem hk, rfl⟩)
theorem le_bd {rows : List (List Int)} {n i : Nat} (h : Tb rows n) (hi : i < n) : 0 ≤ le' rows i ∧ le' rows i < 2 ^ 30 := by
  obtain ⟨⟨k, hk, e⟩, _⟩ := le_spec h hi
  rw [e]
  exact en_nn h hk hi
theorem lcs_le {rows : List (List Int)} {n i : Nat} (hi : i < n) : (lcs rows n).getD i 0 = le' rows i := lcs_at hi
theorem zip_at {rows : List (List Int)} {n k : Nat} (h : Tb rows n) (hk : k < rows.length) : (rows.getD k []).zip (lcs rows n) = (List.range n).map fun i => (en rows k i, le' rows i) := by
  have hl := row_len h hk
  refine List.ext_getElem? fun i => ?_
  by_cases hi : i < n
  · rw [List.getElem?_map, List.getElem?_range hi]
    refine List.getElem?_zip_eq_some.mpr ⟨?_, ?_⟩
    · show (rows.getD k [])[i]? = some (en rows k i)
      unfold en
      rw [List.getD_eq_getElem?_getD (l := rows.getD k []), List.getElem?_eq_getElem (by omega)]
      rfl
    · show (lcs rows n)[i]? = some (le' rows i)
      rw [← lcs_le hi, List.getD_eq_getElem?_getD, List.getElem?_eq_getElem (by rw [lcs_len]; exact hi)]
      rfl
  · rw [List.getElem?_eq_none (by rw [List.length_zip, lcs_len]; omega), List.getElem?_eq_none (by simp; omega)]
/-! ### way_share -/
structure WS (rows : List (List Int)) (n k i : Nat) (a b : Int) : Prop where
  b0 : 0 < b
  sa : sml a
  sb : sml b
  ok : ∀ j, j < i → en rows k j * b ≤ le' rows j * a ∧ (le' rows j = 0 → en rows k j = 0)
  two : (∀ j, j < n → en rows k j ≤ 2 * le' rows j) → a ≤ 2 * b
theorem ws_step {rows : List (List Int)} {n k i : Nat} {a b g : Int} (h : Tb rows n) (hk : k < rows.length) (hi : i < n) (w : WS rows n k i a b) (hL : 0 < le' rows i) (g0 : 0 < g) (g1 : g ∣ en rows k i) (g2 : g ∣ le' rows i) :
    if a * (le' rows i / g) < en rows k i / g * b then WS rows n k (i + 1) (en rows k i / g) (le' rows i / g) else WS rows n k (i + 1) a b := by
  obtain ⟨r', hr⟩ := g1
  obtain ⟨l', hl⟩ := g2
  have e1 : en rows k i / g = r' := by rw [hr]; exact Int.mul_ediv_cancel_left _ (by omega)
  have e2 : le' rows i / g = l' := by rw [hl]; exact Int.mul_ediv_cancel_left _ (by omega)
  have bd := en_nn h hk hi
  have bd2 := le_bd h hi
  have hl0 : 0 < l' := by
    rw [hl] at hL
    exact Int.pos_of_mul_pos_right hL (by omega) |> fun x => by first | exact x | omega
  have hr0 : 0 ≤ r' := by
    have : 0 ≤ g * r' := by omega
    by_cases hneg : r' < 0
    · have := Int.mul_neg_of_pos_of_neg g0 hneg
      omega
    · omega
  have hrb : r' ≤ g * r' := by
    have := Int.mul_le_mul_of_nonneg_right (show (1 : Int) ≤ g by omega) hr0
    omega
  have hlb : l' ≤ g * l' := by
    have := Int.mul_le_mul_of_nonneg_right (show (1 : Int) ≤ g by omega) (show 0 ≤ l' by omega)
    omega
  rw [e1, e2]
  split
  · rename_i hlt
    refine ⟨hl0, ⟨hr0, by omega⟩, ⟨by omega, by omega⟩, fun j hj => ?_, fun h2 => ?_⟩
    · by_cases hji : j = i
      · subst hji
        rw [hr, hl]
        refine ⟨Int.le_of_eq ?_, fun e => ?_⟩
        · rw [Int.mul_assoc, Int.mul_assoc, Int.mul_comm r' l']
        · exfalso
          have := Int.mul_pos g0 hl0
          omega
      · obtain ⟨o1, o2⟩ := w.ok j (by omega)
        refine ⟨?_, o2⟩
        have hLj := (le_bd h (show j < n by omega)).1
        -- en_j * l' * b ≤ le_j * r' * b
        have s1 : en rows k j * b * l' ≤ le' rows j * a * l' := Int.mul_le_mul_of_nonneg_right o1 (by omega)
        have s2 : le' rows j * (a * l') ≤ le' rows j * (r' * b) := Int.mul_le_mul_of_nonneg_left (Int.le_of_lt hlt) hLj
        refine Int.le_of_mul_le_mul_right (a := b) ?_ w.b0
        have q1 : en rows k j * l' * b = en rows k j * b * l' := by rw [Int.mul_assoc, Int.mul_comm l' b, Int.mul_assoc]
        have q2 : le' rows j * r' * b = le' rows j * (r' * b) := Int.mul_assoc _ _ _
        have q3 : le' rows j * a * l' = le' rows j * (a * l') := Int.mul_assoc _ _ _
        omega
    · have := h2 i hi
      rw [hr, hl] at this
      have q : 2 * (g * l') = g * (2 * l') := by rw [← Int.mul_assoc, Int.mul_comm 2 g, Int.mul_assoc]
      rw [q] at this
      exact Int.le_of_mul_le_mul_left this g0
  · rename_i hge
    refine ⟨w.b0, w.sa, w.sb, fun j hj => ?_, w.two⟩
    by_cases hji : j = i
    · subst hji
      refine ⟨?_, fun e => by omega⟩
      rw [hr, hl]
      have : r' * b ≤ a * l' := by omega
      have := Int.mul_le_mul_of_nonneg_left this (show 0 ≤ g by omega)
      have q1 : g * r' * b = g * (r' * b) := Int.mul_assoc _ _ _
      have q2 : g * l' * a = g * (a * l') := by rw [Int.mul_assoc, Int.mul_comm l' a]
      omega
    · exact w.ok j (by omega)
theorem E_way_share {rows : List (List Int)} {n : Nat} (h : Tb rows n) {k : Nat} (hk : k < rows.length) (s : Src) : ∃ r, f_way_share [.d (tbD rows), .d (.int (k : Nat))] s = some (r, s) ∧
    ((r = .none ∧ ∃ j, j < n ∧ le' rows j = 0 ∧ 0 < en rows k j) ∨ ∃ a b, r = pI (a, b) ∧ WS rows n k n a b) := by
  have hit : zipI (consL (op2 ixD (vD 0) (vD 1)) (consL (callD f_least_costs (consA (vD 0) (DL.ret []))) (DL.ret []))) ⟨[.fz (tbD rows), .fz (.int (k : Nat)), .fz (pI (1, 1)), .un, .un], s⟩ = some (((rows.getD k []).zip (lcs rows n)).map pI, ⟨[.fz (tbD rows), .fz (.int (k : Nat)), .fz (pI (1, 1)), .un, .un], s⟩) :=
    ev_zip (e_cons (e_op2 rfl rfl (ix_at tI' rows k [] hk)) (e_one (e_call (S1 := ⟨[.fz (tbD rows), .fz (.int (k : Nat)), .fz (pI (1, 1)), .un, .un], s⟩) (as := [.d (tbD rows)]) rfl (E_least_costs h s))))
  rw [zip_at h hk, List.map_map] at hit
  have loop := e_forR (p := .tp [.nm 3, .nm 4]) (b := (seqS (ifS (andT (toB (op2 eqD (vD 4) (cD (.int 0)))) (toB (op2 gtI (vD 3) (cD (.int 0))))) (retS (cD .none)) (DL.ret .nx))
    (ifS (toB (op2 gtI (vD 4) (cD (.int 0)))) (asgS 2 (callD f_greater_share (consA (vD 2) (consA (callD f_share_number (consA (vD 3) (consA (vD 4) (DL.ret [])))) (DL.ret []))))) (DL.ret .nx))))
    (fun i S => i ≤ n ∧ ∃ a b x y, S = ⟨[.fz (tbD rows), .fz (.int (k : Nat)), .fz (pI (a, b)), x, y], s⟩ ∧ WS rows n k i a b) (fun d S => d = .none ∧ S.src = s ∧ ∃ j, j < n ∧ le' rows j = 0 ∧ 0 < en rows k j)
    ((List.range n).map fun i => pI (en rows k i, le' rows i)) 0 ⟨[.fz (tbD rows), .fz (.int (k : Nat)), .fz (pI (1, 1)), .un, .un], s⟩ ⟨Nat.zero_le _, 1, 1, .un, .un, rfl, ⟨by decide, by unfold sml; decide, by unfold sml; decide, fun j hj => absurd hj (Nat.not_lt_zero _), fun _ => by decide⟩⟩ ?_
  · obtain ⟨o, S', e1, e2⟩ := loop
    rcases e2 with ⟨rfl, _, a, b, x, y, rfl, w⟩ | ⟨r, rfl, rfl, e3, e4⟩
    · refine ⟨pI (a, b), e_def (S' := ⟨[.fz (tbD rows), .fz (.int (k : Nat)), .fz (pI (a, b)), x, y], s⟩) (e_seq (S1 := ⟨[.fz (tbD rows), .fz (.int (k : Nat)), .fz (pI (1, 1)), .un, .un], s⟩) (e_asg (S1 := ⟨[.fz (tbD rows), .fz (.int (k : Nat)), .un, .un, .un], s⟩) (e_tup (e_cons rfl (e_one rfl)) (by decide))) (e_seq (e_forS hit e1) (e_ret rfl))), .inr ⟨a, b, rfl, ?_⟩⟩
      simpa using w
    · refine ⟨.none, ?_, .inl ⟨rfl, e4⟩⟩
      rw [← e3]
      have := e_def (n := 5) (b := d_way_share) (as := [.d (tbD rows), .d (.int (k : Nat))]) (s := s) (S' := S') (d := .none) (e_seq (S1 := ⟨[.fz (tbD rows), .fz (.int (k : Nat)), .fz (pI (1, 1)), .un, .un], s⟩) (e_asg (S1 := ⟨[.fz (tbD rows), .fz (.int (k : Nat)), .un, .un, .un], s⟩) (e_tup (e_cons rfl (e_one rfl)) (by decide))) (e_seqR (e_forS hit e1)))
      rw [← e3] at this
      rw [e3] at this ⊢
      exact this
  · rintro i d S hi ⟨_, a, b, x, y, rfl, w⟩
    rw [List.getElem?_map] at hi
    by_cases hin : i < n
    · rw [List.getElem?_range hin] at hi
      have hi' : d = pI (en rows k i, le' rows i) := (Option.some.inj hi).symm
      subst hi'
      have hi0 : 0 + i = i := Nat.zero_add i
      rw [hi0] at w ⊢
      have bd := en_nn h hk hin
      have bd2 := le_bd h hin
      generalize hc : en rows k i = cc at *
      generalize hl : le' rows i = ll at *
      refine ⟨[.fz (tbD rows), .fz (.int (k : Nat)), .fz (pI (a, b)), .fz (.int cc), .fz (.int ll)], ?_⟩
      have t1 : toB (op2 eqD (vD 4) (cD (.int 0))) ⟨[.fz (tbD rows), .fz (.int (k : Nat)), .fz (pI (a, b)), .fz (.int cc), .fz (.int ll)], s⟩ = some (decide (ll = 0), ⟨[.fz (tbD rows), .fz (.int (k : Nat)), .fz (pI (a, b)), .fz (.int cc), .fz (.int ll)], s⟩) := e_toB (e_op2 rfl rfl (eq_int _ _))
      have t2 : toB (op2 gtI (vD 3) (cD (.int 0))) ⟨[.fz (tbD rows), .fz (.int (k : Nat)), .fz (pI (a, b)), .fz (.int cc), .fz (.int ll)], s⟩ = some (decide (0 < cc), ⟨[.fz (tbD rows), .fz (.int (k : Nat)), .fz (pI (a, b)), .fz (.int cc), .fz (.int ll)], s⟩) := e_toB (e_op2 rfl rfl rfl)
      have t3 : toB (op2 gtI (vD 4) (cD (.int 0))) ⟨[.fz (tbD rows), .fz (.int (k : Nat)), .fz (pI (a, b)), .fz (.int cc), .fz (.int ll)], s⟩ = some (decide (0 < ll), ⟨[.fz (tbD rows), .fz (.int (k : Nat)), .fz (pI (a, b)), .fz (.int cc), .fz (.int ll)], s⟩) := e_toB (e_op2 rfl rfl rfl)
      by_cases hL : ll = 0
      · rw [decide_eq_true hL] at t1
        by_cases hC : 0 < cc
        · rw [decide_eq_true hC] at t2
          refine ⟨.rt .none, _, rfl, e_seqR (e_ifT (e_and t1 (fun _ => t2) (fun z => nomatch z)) (e_ret rfl)), .inr ⟨.none, rfl, rfl, rfl, i, hin, ?_, ?_⟩⟩
          · rw [hl]
            exact hL
          · rw [hc]
            exact hC
        · rw [decide_eq_false hC] at t2
          rw [decide_eq_false (by omega)] at t3
          refine ⟨.nx, _, rfl, e_seq (e_ifF (e_and t1 (fun _ => t2) (fun z => nomatch z)) rfl) (e_ifF t3 rfl), .inl ⟨rfl, hin, a, b, _, _, rfl, w.b0, w.sa, w.sb, fun j hj => ?_, w.two⟩⟩
          by_cases hji : j = i
          · subst hji
            rw [hc, hl, hL]
            have : cc = 0 := by omega
            rw [this]
            simp
          · exact w.ok j (by omega)
      · rw [decide_eq_false hL] at t1
        rw [decide_eq_true (by omega)] at t3
        obtain ⟨g, g0, g1, g2, ge⟩ := E_share_number (p := cc) (q := ll) bd.1 (by omega) bd2.2 s
        have st := ws_step (g := g) h hk hin w (by rw [hl]; omega) g0 (by rw [hc]; exact g1) (by rw [hl]; exact g2)
        rw [hc, hl] at st
        have hle : cc / g ≤ cc := Int.ediv_le_self _ bd.1
        have hge0 : 0 ≤ cc / g := Int.ediv_nonneg bd.1 (by omega)
        have gr := E_greater_share (a := a) (b := b) (x := cc / g) (y := ll / g) w.sa ⟨hge0, by omega⟩ s
        have ev : callD f_greater_share (consA (vD 2) (consA (callD f_share_number (consA (vD 3) (consA (vD 4) (DL.ret [])))) (DL.ret []))) ⟨[.fz (tbD rows), .fz (.int (k : Nat)), .fz (pI (a, b)), .fz (.int cc), .fz (.int ll)], s⟩ = some (if a * (ll / g) < cc / g * b then pI (cc / g, ll / g) else pI (a, b), ⟨[.fz (tbD rows), .fz (.int (k : Nat)), .fz (pI (a, b)), .fz (.int cc), .fz (.int ll)], s⟩) :=
          e_call (S1 := ⟨[.fz (tbD rows), .fz (.int (k : Nat)), .fz (pI (a, b)), .fz (.int cc), .fz (.int ll)], s⟩) (as := [.d (pI (a, b)), .d (pI (cc / g, ll / g))]) (e_consA rfl (e_consA (xs := []) (e_call (S1 := ⟨[.fz (tbD rows), .fz (.int (k : Nat)), .fz (pI (a, b)), .fz (.int cc), .fz (.int ll)], s⟩) (as := [.d (.int cc), .d (.int ll)]) rfl ge) rfl)) gr
        refine ⟨.nx, _, rfl, e_seq (e_ifF (e_and t1 (fun z => nomatch z) (fun _ => ⟨rfl, rfl⟩)) rfl) (e_ifT t3 (e_asg ev)), .inl ⟨rfl, hin, ?_⟩⟩
        by_cases hlt : a * (ll / g) < cc / g * b
        · rw [if_pos hlt] at st ⊢
          exact ⟨_, _, _, _, rfl, st⟩
        · rw [if_neg hlt] at st ⊢
          exact ⟨_, _, _, _, rfl, st⟩
    · rw [List.getElem?_eq_none (by simp; omega)] at hi
      cases hi
end K46

-- part K46f
set_option Elab.async false
set_option linter.all false
set_option maxRecDepth 100000
set_option maxHeartbeats 1000000
namespace K46
open PySem PySem.Spec PyProof.Rows L2 RZ DL
theorem enumL_map {α : Type} (f : α → D) (xs : List α) (z : α) : enumL (xs.map f) = (List.range xs.length).map fun (k : Nat) => PyData.tuple [.int k, f (xs.getD k z)] := by
  refine List.ext_getElem? fun i => ?_
  by_cases hi : i < xs.length
  · rw [enumL_get (x := f xs[i]) (by rw [List.getElem?_map, List.getElem?_eq_getElem hi]; rfl), List.getElem?_map, List.getElem?_range hi]
    simp [List.getD_eq_getElem?_getD, hi]
  · rw [List.getElem?_eq_none (by rw [enumL_len, List.length_map]; omega), List.getElem?_eq_none (by simp; omega)]
/-- where row k costs more than c0 / c1 of the least -/
def ca (rows : List (List Int)) (n k : Nat) (c0 c1 : Int) : List Nat := (List.range n).filter fun i => decide (le' rows i * c0 < en rows k i * c1)
theorem ca_nil {rows : List (List Int)} {n k : Nat} {c0 c1 : Int} : ca rows n k c0 c1 = [] ↔ ∀ i, i < n → en rows k i * c1 ≤ le' rows i * c0 := by
  unfold ca
  rw [List.filter_eq_nil_iff]
  constructor
  · intro h i hi
    have := h i (List.mem_range.mpr hi)
    simp at this
    exact this
  · intro h i hi
    have := h i (List.mem_range.mp hi)
    simp
    exact this
theorem E_cases_above {rows : List (List Int)} {n : Nat} (h : Tb rows n) {k : Nat} (hk : k < rows.length) {c0 c1 : Int} (h0 : sml c0) (h1 : sml c1) (s : Src) : f_cases_above [.d (tbD rows), .d (.int (k : Nat)), .d (pI (c0, c1))] s = some (lN (ca rows n k c0 c1), s) := by
  have h2 := h.n2
  refine e_def (S' := ⟨[.fz (tbD rows), .fz (.int (k : Nat)), .fz (pI (c0, c1)), .un, .un, .un, .un], s⟩) (e_ret ?_)
  refine (e_compIf (s := s) (env := [.fz (tbD rows), .fz (.int (k : Nat)), .fz (pI (c0, c1)), .un, .un, .un, .un]) (List.range n) (fun (i : Nat) => PyData.tuple [.int i, pI (en rows k i, le' rows i)]) (fun i => decide (le' rows i * c0 < en rows k i * c1)) (fun i => .int (i : Nat)) ?_ rfl (by simp; omega) rfl fun i hi => ⟨[.fz (tbD rows), .fz (.int (k : Nat)), .fz (pI (c0, c1)), .un, .fz (.int (i : Nat)), .fz (.int (en rows k i)), .fz (.int (le' rows i))], rfl, rfl, ?_, fun _ => rfl⟩).trans ?_
  · unfold enumZI
    have ez : zipG (consL (op2 ixD (vD 0) (vD 1)) (consL (callD f_least_costs (consA (vD 0) (DL.ret []))) (DL.ret []))) ⟨[.fz (tbD rows), .fz (.int (k : Nat)), .fz (pI (c0, c1)), .un, .un, .un, .un], s⟩ = some (((rows.getD k []).zip (lcs rows n)).map pI, ⟨[.fz (tbD rows), .fz (.int (k : Nat)), .fz (pI (c0, c1)), .un, .un, .un, .un], s⟩) := by
      unfold zipG
      rw [bnd_eq (e_cons (e_op2 rfl rfl (ix_at tI' rows k [] hk)) (e_one (e_call (S1 := ⟨[.fz (tbD rows), .fz (.int (k : Nat)), .fz (pI (c0, c1)), .un, .un, .un, .un], s⟩) (as := [.d (tbD rows)]) rfl (E_least_costs h s))))]
      show some (zipL ((rows.getD k []).map PyData.int) ((lcs rows n).map PyData.int), _) = _
      rw [zipL_ints]
    show bnd (zipG _) _ ⟨[.fz (tbD rows), .fz (.int (k : Nat)), .fz (pI (c0, c1)), .un, .un, .un, .un], s⟩ = _
    rw [bnd_eq ez]
    show (if 3 < 7 then some (enumL (((rows.getD k []).zip (lcs rows n)).map pI), (⟨[.fz (tbD rows), .fz (.int (k : Nat)), .fz (pI (c0, c1)), .un, .un, .un, .un], s⟩ : Sta)) else none) = _
    rw [if_pos (by decide), enumL_map pI _ (0, 0), zip_at h hk]
    congr 2
    rw [List.length_map, List.length_range]
    refine List.map_congr_left fun i hi => ?_
    have hi' := List.mem_range.mp hi
    rw [List.getD_eq_getElem?_getD, List.getElem?_map, List.getElem?_range hi']
    rfl
  · have hi' := List.mem_range.mp hi
    exact e_toB (e_op2 (e_op2 rfl (e_op2 rfl rfl rfl) (ev_mul (.inr (by unfold sml at h1; omega)))) (e_op2 rfl (e_op2 rfl rfl rfl) (ev_mul (.inr (by unfold sml at h0; omega)))) rfl)
  · rfl
theorem E_share_paper {rows : List (List Int)} {n : Nat} (h : Tb rows n) {c0 c1 : Int} (h0 : sml c0) (h1 : sml c1) (hg : ∃ k, k < rows.length ∧ ca rows n k c0 c1 = []) (s : Src) : ∃ g : Int, f_share_paper [.d (tbD rows), .d (pI (c0, c1))] s = some (.tuple [.str "way", .int g], s) := by
  have h3 := h.len
  have hrows : (compD [4] (rangeI1 (consL (callN lenD (consL (vD 0) (DL.ret []))) (DL.ret []))) (.nm 4) (DL.ret true) (callD f_cases_above (consA (vD 0) (consA (vD 4) (consA (vD 1) (DL.ret [])))))) ⟨[.fz (tbD rows), .fz (pI (c0, c1)), .un, .un, .un, .un], s⟩ = some (.list ((List.range rows.length).map fun k => lN (ca rows n k c0 c1)), ⟨[.fz (tbD rows), .fz (pI (c0, c1)), .un, .un, .un, .un], s⟩) := by
    refine e_comp (s := s) (env := [.fz (tbD rows), .fz (pI (c0, c1)), .un, .un, .un, .un]) (List.range rows.length) (fun (k : Nat) => PyData.int (k : Int)) (fun k => lN (ca rows n k c0 c1)) ?_ rfl (by simp; omega) rfl fun k hk => ⟨[.fz (tbD rows), .fz (pI (c0, c1)), .un, .un, .fz (.int (k : Nat)), .un], rfl, rfl, ?_⟩
    · refine (ev_range1 (j := (rows.length : Int)) (e_one (e_callN (e_one rfl) ?_)) (by omega)).trans ?_
      · show some (PyData.int ((rows.map tI').length : Int)) = _
        rw [List.length_map]
      · simp
    · exact e_call (S1 := ⟨[.fz (tbD rows), .fz (pI (c0, c1)), .un, .un, .fz (.int (k : Nat)), .un], s⟩) (as := [.d (tbD rows), .d (.int (k : Nat)), .d (pI (c0, c1))]) rfl (E_cases_above h (List.mem_range.mp hk) h0 h1 s)
  generalize hR : ((List.range rows.length).map fun k => lN (ca rows n k c0 c1)) = R at hrows
  have hen : enumL R = (List.range rows.length).map fun (k : Nat) => PyData.tuple [.int k, lN (ca rows n k c0 c1)] := by
    rw [← hR, enumL_map (fun k => lN (ca rows n k c0 c1)) _ 0, List.length_range]
    refine List.map_congr_left fun i hi => ?_
    have hi' := List.mem_range.mp hi
    rw [List.getD_eq_getElem?_getD, List.getElem?_range hi']
    rfl
  have hgood : (compD [4, 5] (enumI (consL (vD 2) (DL.ret []))) (.tp [.nm 4, .nm 5]) (toB (op2 eqD (vD 5) (lstD (DL.ret [])))) (vD 4)) ⟨[.fz (tbD rows), .fz (pI (c0, c1)), .own R, .un, .un, .un], s⟩ = some (lN ((List.range rows.length).filter fun k => decide (ca rows n k c0 c1 = [])), ⟨[.fz (tbD rows), .fz (pI (c0, c1)), .fz (.list R), .un, .un, .un], s⟩) := by
    refine (e_compIf (s := s) (env := [.fz (tbD rows), .fz (pI (c0, c1)), .fz (.list R), .un, .un, .un]) (List.range rows.length) (fun (k : Nat) => PyData.tuple [.int k, lN (ca rows n k c0 c1)]) (fun k => decide (ca rows n k c0 c1 = [])) (fun k => .int (k : Nat)) ?_ rfl (by simp; omega) rfl fun k hk => ⟨[.fz (tbD rows), .fz (pI (c0, c1)), .fz (.list R), .un, .fz (.int (k : Nat)), .fz (lN (ca rows n k c0 c1))], rfl, rfl, ?_, fun _ => rfl⟩).trans rfl
    · unfold enumI
      rw [bnd_eq (e_one (show vD 2 ⟨[.fz (tbD rows), .fz (pI (c0, c1)), .own R, .un, .un, .un], s⟩ = some (.list R, ⟨[.fz (tbD rows), .fz (pI (c0, c1)), .fz (.list R), .un, .un, .un], s⟩) from rfl))]
      show some (enumL R, _) = _
      rw [hen]
    · refine e_toB (e_op2 rfl (e_lst rfl (by decide)) ?_)
      rw [lN_lI]
      refine (eq_lI _ []).trans ?_
      simp
  obtain ⟨k0, hk0, hc0⟩ := hg
  generalize hG : (List.range rows.length).filter (fun k => decide (ca rows n k c0 c1 = [])) = G at hgood
  have hGne : G ≠ [] := by
    rw [← hG]
    exact List.ne_nil_of_mem (List.mem_filter.mpr ⟨List.mem_range.mpr hk0, by simp [hc0]⟩)
  match G, hGne with
  | g0 :: G', _ =>
    refine ⟨(g0 : Int), e_def (S' := ⟨[.fz (tbD rows), .fz (pI (c0, c1)), .fz (.list R), .fz (lN (g0 :: G')), .un, .un], s⟩) (e_seq (S1 := ⟨[.fz (tbD rows), .fz (pI (c0, c1)), .own R, .un, .un, .un], s⟩) (e_asgN hrows) (e_seq (S1 := ⟨[.fz (tbD rows), .fz (pI (c0, c1)), .fz (.list R), .own ((g0 :: G').map fun (k : Nat) => PyData.int (k : Int)), .un, .un], s⟩) (e_asgN hgood) (e_ret (e_ifDT (S1 := ⟨[.fz (tbD rows), .fz (pI (c0, c1)), .fz (.list R), .fz (lN (g0 :: G')), .un, .un], s⟩) ?_ (e_tup (e_cons rfl (e_one (e_op2 rfl rfl (ix_atL (fun (k : Nat) => PyData.int (k : Int)) (g0 :: G') 0 0 (by simp))))) (show 2 ≤ 1000000 by decide))))))⟩
    refine e_toB (e_op2 (x := lN (g0 :: G')) rfl (e_lst rfl (by decide)) ?_)
    rw [lN_lI]
    refine (ne_lI _ []).trans ?_
    simp
theorem E_is_cost (i : Int) (hi : 0 ≤ i) (s : Src) : f_is_cost [.d (.int i)] s = some (.bool true, s) := by
  have k1 : isiD "int" (.int i) = some (.bool true) := by
    show (kitB "int" "int").map PyData.bool = _
    rw [show kitB "int" "int" = some true from by decide +kernel]
    rfl
  have k2 : isiD "bool" (.int i) = some (.bool false) := by
    show (kitB "int" "bool").map PyData.bool = _
    rw [show kitB "int" "bool" = some false from by decide +kernel]
    rfl
  refine e_def (S' := ⟨[.fz (.int i)], s⟩) (e_ret ?_)
  unfold andV
  rw [bnd_eq (e_toB (e_op1 rfl k1)), if_pos rfl]
  rw [bnd_eq (S1 := ⟨[.fz (.int i)], s⟩) (x := true) ?_, if_pos rfl]
  · refine e_op2 rfl rfl ?_
    show some (PyData.bool (decide (0 ≤ i))) = _
    rw [decide_eq_true hi]
  · refine e_toB ?_
    unfold notV
    rw [bnd_eq (e_toB (e_op1 rfl k2))]
    rfl
theorem eq_way : eqD (.str "way") (.str "way") = some (.bool true) := by
  unfold eqD
  rw [if_pos ⟨by decide +kernel, by decide +kernel⟩]
  congr 2
theorem ne_way : neD (.str "way") (.str "way") = some (.bool false) := by
  unfold neD
  rw [if_pos ⟨by decide +kernel, by decide +kernel⟩]
  congr 2
theorem E_judge_share {rows : List (List Int)} {n : Nat} (h : Tb rows n) {k : Nat} (hk : k < rows.length) {c0 c1 : Int} (h0 : sml c0) (h1 : sml c1) (hc : ca rows n k c0 c1 = []) (s : Src) : f_judge_share [.d (tbD rows), .d (pI (c0, c1)), .d (.tuple [.str "way", .int (k : Nat)])] s = some (.none, s) := by
  have k1 : isiD "tuple" (.tuple [.str "way", .int (k : Nat)]) = some (.bool true) := by
    show (kitB "tuple" "tuple").map PyData.bool = _
    rw [show kitB "tuple" "tuple" = some true from by decide +kernel]
    rfl
  have k2 : isiD "str" (.str "way") = some (.bool true) := by
    show (kitB "str" "str").map PyData.bool = _
    rw [show kitB "str" "str" = some true from by decide +kernel]
    rfl
  have hca := E_cases_above h hk h0 h1 s
  rw [hc] at hca
  generalize hv : PyData.tuple [.str "way", .int (k : Nat)] = v at *
  have i0 : ixD v (.int 0) = some (.str "way") := by rw [← hv]; rfl
  have i1 : ixD v (.int 1) = some (.int (k : Nat)) := by rw [← hv]; rfl
  have hlenv : lenD [v] = some (.int 2) := by rw [← hv]; rfl
  generalize hE : ([.fz (tbD rows), .fz (pI (c0, c1)), .fz v, .un, .un, .un, .un] : List Slot) = env0
  have v2 : vD 2 ⟨env0, s⟩ = some (v, ⟨env0, s⟩) := by rw [← hE]; rfl
  have v0 : vD 0 ⟨env0, s⟩ = some (tbD rows, ⟨env0, s⟩) := by rw [← hE]; rfl
  have v1 : vD 1 ⟨env0, s⟩ = some (pI (c0, c1), ⟨env0, s⟩) := by rw [← hE]; rfl
  have at0 : op2 ixD (vD 2) (cD (.int 0)) ⟨env0, s⟩ = some (.str "way", ⟨env0, s⟩) := e_op2 v2 rfl i0
  have at1 : op2 ixD (vD 2) (cD (.int 1)) ⟨env0, s⟩ = some (.int (k : Nat), ⟨env0, s⟩) := e_op2 v2 rfl i1
  refine e_def (S' := ⟨env0.set 3 (.fz (.list [])), s⟩) ?_
  show d_judge_share ⟨[.fz (tbD rows), .fz (pI (c0, c1)), .fz v, .un, .un, .un, .un], s⟩ = _
  rw [hE]
  refine e_seq (S1 := ⟨env0, s⟩) (e_ifF (S1 := ⟨env0, s⟩) ?_ rfl) (e_seqR (e_ifT (S1 := ⟨env0, s⟩) ?_ ?_))
  · refine e_or (k := false) (e_not (k := true) (e_toB (e_op1 v2 k1))) (fun _ => e_or (k := false) (e_toB (e_op2 (e_callN (e_one v2) hlenv) rfl (ne_int 2 2))) (fun _ => e_not (k := true) (e_toB (e_op1 at0 k2))) (fun z => nomatch z)) (fun z => nomatch z)
  · refine e_and (k := true) (e_toB (e_op2 at0 rfl eq_way)) (fun _ => e_and (k := true) (e_toB (e_call (S1 := ⟨env0, s⟩) (as := [.d (.int (k : Nat))]) (e_consA (xs := []) at1 rfl) (E_is_cost _ (by omega) s))) (fun _ => e_toB (e_op2 at1 (e_callN (e_one v0) (d := .int (rows.length : Nat)) ?_) ?_)) (fun z => nomatch z)) (fun z => nomatch z)
    · show some (PyData.int ((rows.map tI').length : Int)) = _
      rw [List.length_map]
    · show some (PyData.bool (decide ((k : Int) < (rows.length : Int)))) = _
      rw [decide_eq_true (by omega)]
  · refine e_seq (S1 := ⟨env0.set 3 (.fz (.list [])), s⟩) (e_asg (S1 := ⟨env0, s⟩) (d := .list []) ?_) (e_ret (e_ifDF (S1 := ⟨env0.set 3 (.fz (.list [])), s⟩) ?_ rfl))
    · exact e_call (S1 := ⟨env0, s⟩) (as := [.d (tbD rows), .d (.int (k : Nat)), .d (pI (c0, c1))]) (e_consA v0 (e_consA at1 (e_consA (xs := []) v1 rfl))) hca
    · refine e_toB (e_op2 (x := lI []) ?_ (e_lst rfl (by decide)) (ne_lI [] []))
      rw [← hE]
      rfl
end K46

-- part K46g
set_option Elab.async false
set_option linter.all false
set_option maxRecDepth 100000
set_option maxHeartbeats 1000000
namespace K46
open PySem PySem.Spec PyProof.Rows L2 RZ DL
/-! ### renting -/
def sD : Option Int → D
  | none => .none
  | some s => .int s
def rcv (b : Int) (s : Option Int) (d : Int) : Int := match s with
  | none => d
  | some s => if d < s then d else s - 1 + b
theorem E_rent_cost (b : Int) (w : Option Int) (d : Int) (s : Src) : f_rent_cost [.d (.int b), .d (sD w), .d (.int d)] s = some (.int (rcv b w d), s) := by
  cases w with
  | none => exact e_def (S' := ⟨[.fz (.int b), .fz .none, .fz (.int d)], s⟩) (e_ret (e_ifDT (S1 := ⟨[.fz (.int b), .fz .none, .fz (.int d)], s⟩) (e_or (k := true) (e_toB (e_op2 rfl rfl rfl)) (fun z => nomatch z) (fun _ => ⟨rfl, rfl⟩)) rfl))
  | some w =>
    unfold rcv
    by_cases h : d < w
    · simp only [if_pos h]
      refine e_def (S' := ⟨[.fz (.int b), .fz (.int w), .fz (.int d)], s⟩) (e_ret (e_ifDT (S1 := ⟨[.fz (.int b), .fz (.int w), .fz (.int d)], s⟩) (e_or (k := false) (e_toB (e_op2 rfl rfl rfl)) (fun _ => e_toB (e_op2 rfl rfl ?_)) (fun z => nomatch z)) rfl))
      show some (PyData.bool (decide (d < w))) = _
      rw [decide_eq_true h]
    · simp only [if_neg h]
      refine e_def (S' := ⟨[.fz (.int b), .fz (.int w), .fz (.int d)], s⟩) (e_ret (e_ifDF (S1 := ⟨[.fz (.int b), .fz (.int w), .fz (.int d)], s⟩) (e_or (k := false) (e_toB (e_op2 rfl rfl rfl)) (fun _ => e_toB (e_op2 rfl rfl ?_)) (fun z => nomatch z)) (e_op2 (e_op2 rfl rfl rfl) rfl rfl)))
      show some (PyData.bool (decide (d < w))) = _
      rw [decide_eq_false h]
def wys (h : Nat) : List (Option Int) := (dys h).map some ++ [none]
def rtb (b : Int) (h : Nat) : List (List Int) := (wys h).map fun w => (dys h).map (rcv b w)
theorem E_rent_table (b : Int) (h : Nat) (hh : h ≤ 1000) (s : Src) : f_rent_table [.d (.int b), .d (.int 1), .d (.int (h : Nat))] s = some (tbD (rtb b h), s) := by
  have hw : (wys h).length = h + 1 := by simp [wys]
  have ways : lstD (starRL (rgM2 (cD (.int 1)) (op2 addA (vD 2) (cD (.int 1)))) (consL (cD .none) (DL.ret []))) ⟨[.fz (.int b), .fz (.int 1), .fz (.int (h : Nat)), .un, .un, .un], s⟩ = some (.list ((wys h).map sD), ⟨[.fz (.int b), .fz (.int 1), .fz (.int (h : Nat)), .un, .un, .un], s⟩) := by
    refine e_lst ?_ (by rw [List.length_map, hw]; omega)
    unfold starRL
    have e1 : rgM2 (cD (.int 1)) (op2 addA (vD 2) (cD (.int 1))) ⟨[.fz (.int b), .fz (.int 1), .fz (.int (h : Nat)), .un, .un, .un], s⟩ = some ((1, (h : Int) + 1), ⟨[.fz (.int b), .fz (.int 1), .fz (.int (h : Nat)), .un, .un, .un], s⟩) := rfl
    rw [bnd_eq e1]
    have hb : RgB 1 ((h : Int) + 1) := ⟨by omega, by omega, by omega⟩
    show (if RgB 1 ((h : Int) + 1) then _ else _ : MV (List D)) _ = _
    rw [if_pos hb, bnd_eq (e_one rfl)]
    show some (DL.upTo 1 ((h : Int) + 1) ++ [PyData.none], _) = _
    unfold DL.upTo wys
    rw [show ((h : Int) + 1 - 1).toNat = h by omega, List.map_append, List.map_map, List.map_map]
    rfl
  refine e_def (S' := ⟨[.fz (.int b), .fz (.int 1), .fz (.int (h : Nat)), .fz (.list ((wys h).map sD)), .un, .un], s⟩) (e_seq (S1 := ⟨[.fz (.int b), .fz (.int 1), .fz (.int (h : Nat)), .fz (.list ((wys h).map sD)), .un, .un], s⟩) (e_asg ways) (e_ret (e_callN (e_one (d := .list ((rtb b h).map tI')) ?_) rfl)))
  refine (e_comp (s := s) (env := [.fz (.int b), .fz (.int 1), .fz (.int (h : Nat)), .fz (.list ((wys h).map sD)), .un, .un]) (wys h) sD (fun w => tI' ((dys h).map (rcv b w))) (e_seqI rfl rfl) rfl (by rw [hw]; omega) rfl fun w _ => ⟨[.fz (.int b), .fz (.int 1), .fz (.int (h : Nat)), .fz (.list ((wys h).map sD)), .un, .fz (sD w)], rfl, rfl, ?_⟩).trans ?_
  · refine e_callN (e_one (d := lI ((dys h).map (rcv b w))) ?_) rfl
    refine (e_comp (s := s) (env := [.fz (.int b), .fz (.int 1), .fz (.int (h : Nat)), .fz (.list ((wys h).map sD)), .un, .fz (sD w)]) (List.range h) (fun (k : Nat) => PyData.int (1 + (k : Int))) (fun (k : Nat) => PyData.int (rcv b w (1 + (k : Int)))) ?_ rfl (by simp; omega) rfl fun k hk => ⟨[.fz (.int b), .fz (.int 1), .fz (.int (h : Nat)), .fz (.list ((wys h).map sD)), .fz (.int (1 + (k : Int))), .fz (sD w)], rfl, rfl, ?_⟩).trans ?_
    · refine (ev_range2 (i := 1) (j := (h : Int) + 1) rfl (by omega)).trans ?_
      rw [show ((h : Int) + 1 - 1).toNat = h by omega]
    · exact e_call (S1 := ⟨[.fz (.int b), .fz (.int 1), .fz (.int (h : Nat)), .fz (.list ((wys h).map sD)), .fz (.int (1 + (k : Int))), .fz (sD w)], s⟩) (as := [.d (.int b), .d (sD w), .d (.int (1 + (k : Int)))]) rfl (E_rent_cost b w _ s)
    · unfold lI
      rw [List.map_map, List.map_map]
      rfl
  · unfold rtb
    rw [List.map_map]
    rfl
/-! ### kept_ways -/
theorem down_all (m : Nat) : DL.downTo ((m : Int) - 1) (-1) = (List.range m).map fun (i : Nat) => PyData.int ((m : Int) - 1 - (i : Int)) := by
  have e : ((m : Int) - 1 - -1).toNat = m := by omega
  unfold DL.downTo
  rw [e]
  refine List.map_congr_left fun i _ => ?_
  have e2 : (m : Int) - 1 + (i : Int) * -1 = (m : Int) - 1 - (i : Int) := by omega
  rw [e2]
structure KW (rows : List (List Int)) (n : Nat) (i : Nat) (left : List Nat) : Prop where
  ne : left ≠ []
  lt : ∀ l ∈ left, l < rows.length
  nd : left.Nodup
  low : ∀ k, k + i < rows.length → k ∈ left
  dom : ∀ o, o < rows.length → ∃ l ∈ left, ∀ j, j < n → en rows l j ≤ en rows o j
theorem E_kept_ways {rows : List (List Int)} {n : Nat} (h : Tb rows n) (s : Src) : ∃ left : List Nat, f_kept_ways [.d (tbD rows)] s = some (.tuple (left.map fun (k : Nat) => PyData.int (k : Int)), s) ∧ KW rows n rows.length left := by
  have hpos : 0 < rows.length := List.length_pos_iff.mpr h.ne
  have h3 := h.len
  let m := rows.length
  let iN : List Nat → List D := fun l => l.map fun (k : Nat) => PyData.int (k : Int)
  have hlen : ∀ env : List Slot, env[0]? = some (.fz (tbD rows)) → callN lenD (consL (vD 0) (DL.ret [])) ⟨env, s⟩ = some (.int (rows.length : Nat), ⟨env, s⟩) := fun env he => by
    refine e_callN (e_one (d := tbD rows) ?_) ?_
    · unfold vD
      show (match env[0]? with | some (.fz d) => _ | some (.own ds) => _ | _ => _) = _
      rw [he]
    · show some (PyData.int ((rows.map tI').length : Int)) = _
      rw [List.length_map]
  have first : (rngD .list (rgM1 (callN lenD (consL (vD 0) (DL.ret []))))) ⟨[.fz (tbD rows), .un, .un, .un], s⟩ = some (.list (iN (List.range rows.length)), ⟨[.fz (tbD rows), .un, .un, .un], s⟩) := by
    unfold rngD
    have e1 : rgM1 (callN lenD (consL (vD 0) (DL.ret []))) ⟨[.fz (tbD rows), .un, .un, .un], s⟩ = some ((0, (rows.length : Int)), ⟨[.fz (tbD rows), .un, .un, .un], s⟩) := by
      unfold rgM1
      rw [bnd_eq (hlen _ rfl)]
      rfl
    rw [bnd_eq e1]
    have hb : RgB 0 (rows.length : Int) := ⟨by omega, by omega, by omega⟩
    show (if RgB 0 (rows.length : Int) then _ else _ : MV D) _ = _
    rw [if_pos hb]
    show some (PyData.list (DL.upTo 0 (rows.length : Int)), _) = _
    unfold DL.upTo
    simp [iN]
  have hdown := down_all rows.length
  have hit : (rangeI3 (consL (op2 subI (callN lenD (consL (vD 0) (DL.ret []))) (cD (.int 1))) (consL (op1 negD (cD (.int 1))) (consL (op1 negD (cD (.int 1))) (DL.ret []))))) ⟨[.fz (tbD rows), .own (iN (List.range rows.length)), .un, .un], s⟩ = some ((List.range rows.length).map fun (i : Nat) => PyData.int ((rows.length : Int) - 1 - (i : Int)), ⟨[.fz (tbD rows), .own (iN (List.range rows.length)), .un, .un], s⟩) := by
    unfold rangeI3
    rw [bnd_eq (e_cons (e_op2 (hlen _ rfl) rfl rfl) (e_cons rfl (e_one rfl)))]
    show (if (-1 : Int) = -1 ∧ (-(2 ^ 62) ≤ (rows.length : Int) - 1 ∧ (rows.length : Int) - 1 < 2 ^ 62) ∧ -(2 ^ 62) ≤ (-1 : Int) ∧ (-1 : Int) < 2 ^ 62 then DL.ret (DL.downTo ((rows.length : Int) - 1) (-1)) else fun _ => none) _ = _
    rw [if_pos ⟨rfl, ⟨by omega, by omega⟩, by decide, by decide⟩]
    rw [hdown]
    rfl
  have loop := e_for (p := .nm 2) (b := (ifS (peekT 1 (toB (callN anyD (consL (compD [3] (seqI (vD 1)) (.nm 3) (toB (op2 neD (vD 3) (vD 2))) (callD f_is_no_better (consA (vD 0) (consA (vD 2) (consA (vD 3) (DL.ret [])))))) (DL.ret []))))) (remS 1 (vD 2)) (DL.ret .nx)))
    (fun i S => i ≤ rows.length ∧ ∃ left x, S = ⟨[.fz (tbD rows), .own (iN left), x, .un], s⟩ ∧ KW rows n i left ∧ x.isOwn = false)
    ((List.range rows.length).map fun (i : Nat) => PyData.int ((rows.length : Int) - 1 - (i : Int))) 0 ⟨[.fz (tbD rows), .own (iN (List.range rows.length)), .un, .un], s⟩
    ⟨Nat.zero_le _, List.range rows.length, .un, rfl, ⟨by simp; exact h.ne, fun l hl => List.mem_range.mp hl, List.nodup_range, fun k hk => List.mem_range.mpr (by omega), fun o ho => ⟨o, List.mem_range.mpr ho, fun _ _ => Int.le_refl _⟩⟩, rfl⟩ ?_
  · obtain ⟨S', e1, _, left, x, rfl, kw, _⟩ := loop
    have hz : 0 + ((List.range rows.length).map fun (i : Nat) => PyData.int ((rows.length : Int) - 1 - (i : Int))).length = rows.length := by simp
    rw [hz] at kw
    exact ⟨left, e_def (S' := ⟨[.fz (tbD rows), .fz (.list (iN left)), x, .un], s⟩) (e_seq (e_asgN first) (e_seq (e_forS hit e1) (e_ret (e_callN (e_one rfl) rfl)))), kw⟩
  · rintro i d S hi ⟨_, left, x, rfl, kw, hx⟩
    rw [List.getElem?_map] at hi
    by_cases hin : i < rows.length
    · rw [List.getElem?_range hin] at hi
      have hi' : d = PyData.int ((rows.length : Int) - 1 - (i : Int)) := (Option.some.inj hi).symm
      have hkk : ((rows.length : Int) - 1 - (i : Int)) = ((rows.length - 1 - i : Nat) : Int) := by omega
      rw [hkk] at hi'
      subst hi'
      generalize hk : rows.length - 1 - i = k at *
      have hkl : k < rows.length := by omega
      rw [Nat.zero_add] at kw ⊢
      have kin : k ∈ left := kw.low k (by omega)
      refine ⟨[.fz (tbD rows), .own (iN left), .fz (.int (k : Nat)), .un], ?_⟩
      -- the test
      have hcomp : compD [3] (seqI (vD 1)) (.nm 3) (toB (op2 neD (vD 3) (vD 2))) (callD f_is_no_better (consA (vD 0) (consA (vD 2) (consA (vD 3) (DL.ret []))))) ⟨[.fz (tbD rows), .fz (.list (iN left)), .fz (.int (k : Nat)), .un], s⟩ = some (.list (((left.filter fun o => decide (o ≠ k)).map fun o => nb rows k o).map PyData.bool), ⟨[.fz (tbD rows), .fz (.list (iN left)), .fz (.int (k : Nat)), .un], s⟩) := by
        have hll : left.length ≤ 1000000 := by
          have := kw.nd.length_le_of_subset (l₂ := List.range rows.length) fun l hl => List.mem_range.mpr (kw.lt l hl)
          rw [List.length_range] at this
          omega
        refine (e_compIf (s := s) (env := [.fz (tbD rows), .fz (.list (iN left)), .fz (.int (k : Nat)), .un]) left (fun (o : Nat) => PyData.int (o : Int)) (fun o => decide (o ≠ k)) (fun o => .bool (nb rows k o)) (e_seqI rfl rfl) rfl hll rfl fun o ho => ⟨[.fz (tbD rows), .fz (.list (iN left)), .fz (.int (k : Nat)), .fz (.int (o : Nat))], rfl, rfl, ?_, fun _ => ?_⟩).trans ?_
        · refine e_toB (e_op2 rfl rfl ((DL.ne_int _ _).trans ?_))
          by_cases hok : o = k
          · simp [hok]
          · have : (o : Int) ≠ (k : Int) := by omega
            simp [hok, this]
        · exact e_call (S1 := ⟨[.fz (tbD rows), .fz (.list (iN left)), .fz (.int (k : Nat)), .fz (.int (o : Nat))], s⟩) (as := [.d (tbD rows), .d (.int (k : Nat)), .d (.int (o : Nat))]) rfl (E_nb h hkl (kw.lt o ho) s)
        · rw [List.map_map]
          rfl
      have htest : peekT 1 (toB (callN anyD (consL (compD [3] (seqI (vD 1)) (.nm 3) (toB (op2 neD (vD 3) (vD 2))) (callD f_is_no_better (consA (vD 0) (consA (vD 2) (consA (vD 3) (DL.ret [])))))) (DL.ret [])))) ⟨[.fz (tbD rows), .own (iN left), .fz (.int (k : Nat)), .un], s⟩ = some (((left.filter fun o => decide (o ≠ k)).map fun o => nb rows k o).any id, ⟨[.fz (tbD rows), .own (iN left), .fz (.int (k : Nat)), .un], s⟩) :=
        peekT_eq (ds := iN left) rfl (e_toB (e_callN (e_one hcomp) (ev_any _))) rfl
      cases hany : ((left.filter fun o => decide (o ≠ k)).map fun o => nb rows k o).any id with
      | false =>
        rw [hany] at htest
        refine ⟨_, rfl, e_ifF htest rfl, hin, left, _, rfl, ⟨kw.ne, kw.lt, kw.nd, fun j hj => kw.low j (by omega), kw.dom⟩, rfl⟩
      | true =>
        rw [hany] at htest
        obtain ⟨bb, hb1, hb2⟩ := List.any_eq_true.mp hany
        obtain ⟨o, ho, rfl⟩ := List.mem_map.mp hb1
        have ho1 := (List.mem_filter.mp ho).1
        have ho2 : o ≠ k := by
          have := (List.mem_filter.mp ho).2
          simpa using this
        have hnb := (nb_iff h hkl (kw.lt o ho1)).mp hb2
        -- the place of k
        have hfi : ∃ j, (left.map fun (q : Nat) => (q : Int)).findIdx? (fun a => a == ((k : Nat) : Int)) = some j ∧ j < left.length ∧ left[j]? = some k := by
          cases hz : (left.map fun (q : Nat) => (q : Int)).findIdx? (fun a => a == ((k : Nat) : Int)) with
          | none =>
            have := List.findIdx?_eq_none_iff.mp hz ((k : Nat) : Int) (List.mem_map.mpr ⟨k, kin, rfl⟩)
            simp at this
          | some j =>
            obtain ⟨q1, q2, _⟩ := List.findIdx?_eq_some_iff_getElem.mp hz
            have hl2 : j < left.length := by simpa using q1
            refine ⟨j, rfl, hl2, ?_⟩
            rw [List.getElem?_eq_getElem hl2]
            simp at q2
            have q3 : left[j] = k := by omega
            rw [q3]
        obtain ⟨j, hj1, hj2, hj3⟩ := hfi
        have hmem : ∀ q, q ∈ left.eraseIdx j ↔ q ∈ left ∧ q ≠ k := by
          intro q
          have hnd := kw.nd
          have hjk : left[j] = k := by
            rw [List.getElem?_eq_getElem hj2] at hj3
            exact Option.some.inj hj3
          rw [List.mem_eraseIdx_iff_getElem]
          constructor
          · rintro ⟨i', hi', hne, rfl⟩
            refine ⟨List.getElem_mem _, fun e => hne ?_⟩
            exact (List.getElem_inj hnd).mp (e.trans hjk.symm)
          · rintro ⟨hq, hqk⟩
            obtain ⟨i', hi', rfl⟩ := List.getElem_of_mem hq
            exact ⟨i', hi', fun e => hqk (by subst e; exact hjk), rfl⟩
        have hrem : remS 1 (vD 2) ⟨[.fz (tbD rows), .own (iN left), .fz (.int (k : Nat)), .un], s⟩ = some (.nx, ⟨[.fz (tbD rows), .own (iN (left.eraseIdx j)), .fz (.int (k : Nat)), .un], s⟩) := by
          unfold remS
          show bnd (vD 2) _ _ = _
          rw [bnd_eq (show vD 2 ⟨[.fz (tbD rows), .own (iN left), .fz (.int (k : Nat)), .un], s⟩ = some (.int (k : Nat), ⟨[.fz (tbD rows), .own (iN left), .fz (.int (k : Nat)), .un], s⟩) from rfl)]
          have hints : intsOf (iN left) = some (left.map fun (q : Nat) => (q : Int)) := by
            have : iN left = (left.map fun (q : Nat) => (q : Int)).map PyData.int := by
              rw [List.map_map]
              rfl
            rw [this, intsOf_map]
          show (match intsOf (iN left) with | some ns => (match ns.findIdx? (fun a => a == ((k : Nat) : Int)) with | some j => some (Out.nx, (⟨[.fz (tbD rows), .own ((ns.eraseIdx j).map PyData.int), .fz (.int (k : Nat)), .un], s⟩ : Sta)) | none => none) | none => none) = _
          rw [hints]
          show (match (left.map fun (q : Nat) => (q : Int)).findIdx? (fun a => a == ((k : Nat) : Int)) with | some j => some (Out.nx, (⟨[.fz (tbD rows), .own (((left.map fun (q : Nat) => (q : Int)).eraseIdx j).map PyData.int), .fz (.int (k : Nat)), .un], s⟩ : Sta)) | none => none) = _
          rw [hj1]
          show some (Out.nx, (⟨[.fz (tbD rows), .own (((left.map fun (q : Nat) => (q : Int)).eraseIdx j).map PyData.int), .fz (.int (k : Nat)), .un], s⟩ : Sta)) = _
          rw [map_eraseIx, List.map_map]
          rfl
        refine ⟨_, rfl, e_ifT htest hrem, hin, left.eraseIdx j, _, rfl, ⟨?_, fun l hl => kw.lt l ((hmem l).mp hl).1, kw.nd.eraseIdx j, fun q hq => (hmem q).mpr ⟨kw.low q (by omega), by omega⟩, fun q hq => ?_⟩, rfl⟩
        · exact List.ne_nil_of_mem ((hmem o).mpr ⟨ho1, ho2⟩)
        · obtain ⟨l, hl1, hl2⟩ := kw.dom q hq
          by_cases hlk : l = k
          · subst hlk
            exact ⟨o, (hmem o).mpr ⟨ho1, ho2⟩, fun j' hj' => Int.le_trans (hnb j' hj') (hl2 j' hj')⟩
          · exact ⟨l, (hmem l).mpr ⟨hl1, hlk⟩, hl2⟩
    · rw [List.getElem?_eq_none (by simp; omega)] at hi
      cases hi
end K46

-- part K46h
set_option Elab.async false
set_option linter.all false
set_option maxRecDepth 100000
set_option maxHeartbeats 1000000
namespace K46
open PySem PySem.Spec PyProof.Rows L2 RZ DL
/-- things to rent: prices rise, rents fall -/
structure ThOk (th : List (Int × Int)) : Prop where
  ne : th ≠ []
  len : th.length ≤ 6
  h0 : (th.getD 0 (0, 0)).1 = 0
  up : th.Pairwise fun x y => x.1 < y.1 ∧ y.2 < x.2
  bd : ∀ q ∈ th, (0 ≤ q.1 ∧ q.1 ≤ 200) ∧ 0 ≤ q.2 ∧ q.2 ≤ 40
theorem ThOk.sm {th : List (Int × Int)} (h : ThOk th) : Sm th := ⟨h.ne, by have := h.len; omega, fun p hp => by have := h.bd p hp; omega⟩
theorem E_is_thing {p : Int × Int} (h : 0 ≤ p.1) (h2 : 0 ≤ p.2) (s : Src) : f_is_thing [.d (pI p)] s = some (.bool true, s) := by
  have k1 : isiD "tuple" (pI p) = some (.bool true) := by
    show (kitB "tuple" "tuple").map PyData.bool = _
    rw [show kitB "tuple" "tuple" = some true from by decide +kernel]
    rfl
  refine e_def (S' := ⟨[.fz (pI p), .un], s⟩) (e_ret ?_)
  unfold andV
  rw [bnd_eq (e_toB (e_op1 rfl k1)), if_pos rfl]
  rw [bnd_eq (S1 := ⟨[.fz (pI p), .un], s⟩) (x := true) (e_toB (e_op2 (e_callN (e_one rfl) (d := .int 2) rfl) rfl (DL.eq_int 2 2))), if_pos rfl]
  refine e_callN (e_one (d := .list ([true, true].map PyData.bool)) ?_) ((ev_all _).trans rfl)
  refine (e_comp (s := s) (env := [.fz (pI p), .un]) [p.1, p.2] PyData.int (fun _ => .bool true) (e_seqI rfl rfl) rfl (by simp) rfl fun x hx => ⟨[.fz (pI p), .fz (.int x)], rfl, rfl, ?_⟩).trans rfl
  have hx0 : 0 ≤ x := by
    simp at hx
    rcases hx with rfl | rfl <;> assumption
  exact e_call (S1 := ⟨[.fz (pI p), .fz (.int x)], s⟩) (as := [.d (.int x)]) rfl (E_is_cost x hx0 s)
theorem cut_from1 {xs : List D} : cutD xs (some 1) none = xs.drop 1 := by
  unfold DL.cutD
  rw [show (some 1 : Option Int) = some ((1 : Nat) : Int) from rfl, HT.sIx_nat, HT.sIx_none]
  cases xs with
  | nil => rfl
  | cons x xs =>
    have e : min 1 (x :: xs).length = 1 := by simp
    rw [e]
    exact List.take_of_length_le (by simp)
theorem cut_to {xs : List D} {d : Nat} (h : d ≤ xs.length) : cutD xs none (some (d : Int)) = xs.take d := by
  unfold DL.cutD
  rw [HT.sIx_nat, HT.sIx_none]
  show ((xs.drop 0).take (min d xs.length - 0)) = _
  rw [List.drop_zero, Nat.min_eq_left h, Nat.sub_zero]
theorem lay_pairs : ∀ th : List (Int × Int), PyData.canLayAll0 (th.map pI) = true
  | [] => by simp [PyData.canLayAll0]
  | x :: a => by simp [PyData.canLayAll0, PyData.canLay0, lay_pairs a]
theorem dep_pairs : ∀ th : List (Int × Int), PyData.depthAll (th.map pI) ≤ 1
  | [] => by simp [PyData.depthAll]
  | x :: a => by
    have := dep_pairs a
    simp [PyData.depthAll, PyData.depth]
    omega
theorem ok_thD (th : List (Int × Int)) : okD (thD th) = true := by
  unfold okD
  have := dep_pairs th
  simp [PyData.canLay0, PyData.depth, lay_pairs]
  omega
theorem E_are_things {th : List (Int × Int)} (h : ThOk th) (s : Src) : f_are_things [.d (thD th)] s = some (.bool true, s) := by
  have hl := h.len
  have k1 : isiD "tuple" (thD th) = some (.bool true) := by
    show (kitB "tuple" "tuple").map PyData.bool = _
    rw [show kitB "tuple" "tuple" = some true from by decide +kernel]
    rfl
  have hpos : 0 < th.length := List.length_pos_iff.mpr h.ne
  generalize hE : ([.fz (thD th), .un, .un, .un, .un] : List Slot) = env0
  have v0 : vD 0 ⟨env0, s⟩ = some (thD th, ⟨env0, s⟩) := by rw [← hE]; rfl
  have hall : compD [2] (seqI (vD 0)) (.nm 2) (DL.ret true) (callD f_is_thing (consA (vD 2) (DL.ret []))) ⟨env0, s⟩ = some (.list ((th.map fun _ => true).map PyData.bool), ⟨env0, s⟩) := by
    rw [← hE]
    refine (e_comp (s := s) (env := [.fz (thD th), .un, .un, .un, .un]) th pI (fun _ => .bool true) (e_seqI rfl rfl) rfl (by omega) rfl fun p hp => ⟨[.fz (thD th), .un, .fz (pI p), .un, .un], rfl, rfl, ?_⟩).trans ?_
    · exact e_call (S1 := ⟨[.fz (thD th), .un, .fz (pI p), .un, .un], s⟩) (as := [.d (pI p)]) rfl (E_is_thing (h.bd p hp).1.1 (h.bd p hp).2.1 s)
    · rw [List.map_map]
      rfl
  have hallT : (th.map fun _ => true).all id = true := by simp
  have heq : eqD (thD th) (.tuple []) = some (.bool false) := by
    unfold eqD
    rw [if_pos ⟨ok_thD th, by decide +kernel⟩]
    congr 2
    match th, h.ne with
    | x :: th, _ => simp [PyData.eqv, PyData.eqvAll]
  have hz : zipG (consL (vD 0) (consL (sliceD (vD 0) (someI (cD (.int 1))) (DL.ret none)) (DL.ret []))) ⟨env0, s⟩ = some ((th.zip (th.drop 1)).map fun q => PyData.tuple [pI q.1, pI q.2], ⟨env0, s⟩) := by
    have hsl : sliceD (vD 0) (someI (cD (.int 1))) (DL.ret none) ⟨env0, s⟩ = some (.tuple ((th.drop 1).map pI), ⟨env0, s⟩) := by
      unfold sliceD
      rw [bnd_eq v0, bnd_eq (show someI (cD (.int 1)) ⟨env0, s⟩ = some (some 1, ⟨env0, s⟩) from rfl), bnd_eq (show (DL.ret (none : Option Int)) (⟨env0, s⟩ : Sta) = some (none, ⟨env0, s⟩) from rfl)]
      show some (PyData.tuple (cutD (th.map pI) (some 1) none), _) = _
      rw [cut_from1, List.map_drop]
    unfold zipG
    rw [bnd_eq (e_cons v0 (e_one hsl))]
    show some (zipL (th.map pI) ((th.drop 1).map pI), _) = _
    unfold zipL
    rw [List.zipWith_map, List.zip, List.map_zipWith]
  have hzl : (th.zip (th.drop 1)).length ≤ 1000000 := by
    rw [List.length_zip]
    omega
  have hlst : lstOf (zipG (consL (vD 0) (consL (sliceD (vD 0) (someI (cD (.int 1))) (DL.ret none)) (DL.ret [])))) ⟨env0, s⟩ = some (.list ((th.zip (th.drop 1)).map fun q => PyData.tuple [pI q.1, pI q.2]), ⟨env0, s⟩) := by
    unfold lstOf
    rw [bnd_eq hz]
    show (if ((th.zip (th.drop 1)).map fun q => PyData.tuple [pI q.1, pI q.2]).length ≤ 1000000 then _ else _ : MV D) _ = _
    rw [if_pos (by rw [List.length_map]; exact hzl)]
    rfl
  generalize hP : ((th.zip (th.drop 1)).map fun q => PyData.tuple [pI q.1, pI q.2]) = Pp at hlst
  refine e_def (S' := ⟨[.fz (thD th), .fz (.list Pp), .un, .un, .un], s⟩) ?_
  show d_are_things ⟨[.fz (thD th), .un, .un, .un, .un], s⟩ = _
  rw [hE]
  refine e_seq (S1 := ⟨env0, s⟩) (e_ifF (S1 := ⟨env0, s⟩) ?_ rfl) (e_seq (S1 := ⟨[.fz (thD th), .fz (.list Pp), .un, .un, .un], s⟩) ?_ (e_ret ?_))
  · exact e_or (k := false) (e_not (k := true) (e_toB (e_op1 v0 k1))) (fun _ => e_or (k := false) (e_toB (e_op2 v0 (e_tup rfl (by decide)) heq)) (fun _ => e_not (k := true) (e_toB (e_callN (e_one hall) ((ev_all _).trans (by rw [hallT]))))) (fun z => nomatch z)) (fun z => nomatch z)
  · refine (e_asg hlst).trans ?_
    rw [← hE]
    rfl
  · unfold andV
    rw [bnd_eq (S1 := ⟨[.fz (thD th), .fz (.list Pp), .un, .un, .un], s⟩) (x := true) (e_toB (e_op2 (e_op2 (e_op2 rfl rfl (ix_at pI th 0 (0, 0) hpos)) rfl rfl) rfl ((DL.eq_int _ _).trans (by rw [h.h0]; rfl)))), if_pos rfl]
    have hadj : ∀ q ∈ th.zip (th.drop 1), q.1.1 < q.2.1 ∧ q.2.2 < q.1.2 := fun q hq => by
      obtain ⟨i, hi⟩ := List.getElem?_of_mem hq
      rw [List.getElem?_zip_eq_some] at hi
      obtain ⟨a1, a2⟩ := hi
      rw [List.getElem?_drop] at a2
      have l1 := (List.getElem?_eq_some_iff.mp a1).1
      have l2 := (List.getElem?_eq_some_iff.mp a2).1
      have := (List.pairwise_iff_getElem.mp h.up) i (1 + i) l1 l2 (by omega)
      rw [List.getElem?_eq_getElem l1] at a1
      rw [List.getElem?_eq_getElem l2] at a2
      rw [← Option.some.inj a1, ← Option.some.inj a2]
      exact this
    have hallT2 : ((th.zip (th.drop 1)).map fun _ => true).all id = true := by simp
    refine e_callN (e_one (d := .list (((th.zip (th.drop 1)).map fun _ => true).map PyData.bool)) ?_) ((ev_all _).trans (by rw [hallT2]))
    refine (e_comp (s := s) (env := [.fz (thD th), .fz (.list Pp), .un, .un, .un]) (th.zip (th.drop 1)) (fun q => PyData.tuple [pI q.1, pI q.2]) (fun _ => .bool true) (e_seqI (d := .list Pp) rfl (by rw [hP]; rfl)) rfl hzl rfl fun q hq => ⟨[.fz (thD th), .fz (.list Pp), .un, .fz (pI q.1), .fz (pI q.2)], rfl, rfl, ?_⟩).trans ?_
    · obtain ⟨q1, q2⟩ := hadj q hq
      rw [bnd_eq (S1 := ⟨[.fz (thD th), .fz (.list Pp), .un, .fz (pI q.1), .fz (pI q.2)], s⟩) (x := true) (e_toB (e_op2 (e_op2 rfl rfl rfl) (e_op2 rfl rfl rfl) (show some (PyData.bool (decide (q.1.1 < q.2.1))) = _ by rw [decide_eq_true q1]))), if_pos rfl]
      refine e_op2 (e_op2 rfl rfl rfl) (e_op2 rfl rfl rfl) ?_
      show some (PyData.bool (decide (q.2.2 < q.1.2))) = _
      rw [decide_eq_true q2]
    · rw [List.map_map]
      rfl
/-! ### _law_state, _law_cost -/
theorem am_sorted (th : List (Int × Int)) (d : Int) : (am th d).Pairwise (· < ·) := List.Pairwise.filter _ List.pairwise_lt_range
theorem ts_mem {th : List (Int × Int)} (h : Sm th) (d : Int) : ts th d ∈ am th d ∧ ∀ k ∈ am th d, ts th d ≤ k := by
  obtain ⟨h1, h2, h3⟩ := List.findIdx?_eq_some_iff_getElem.mp (ts_some h d)
  refine ⟨List.mem_filter.mpr ⟨List.mem_range.mpr (ts_lt h d), ?_⟩, fun k hk => ?_⟩
  · rw [List.getElem?_eq_getElem h1]
    simpa using h2
  · obtain ⟨k1, k2⟩ := List.mem_filter.mp hk
    have hkl : k < (cst th d).length := by
      rw [cst_len]
      exact List.mem_range.mp k1
    rw [List.getElem?_eq_getElem hkl] at k2
    by_cases hlt : k < ts th d
    · have := h3 k hlt
      simp at k2
      simp [k2] at this
    · omega
theorem am_head {th : List (Int × Int)} (h : Sm th) (d : Int) : (am th d)[0]? = some (ts th d) := by
  obtain ⟨t1, t2⟩ := ts_mem h d
  have hs := am_sorted th d
  match hA : am th d with
  | [] => exact absurd hA (am_ne h d)
  | a :: l =>
    rw [hA] at t1 t2 hs
    have := t2 a List.mem_cons_self
    rcases List.mem_cons.mp t1 with e | e
    · rw [e]
      rfl
    · have := (List.pairwise_cons.mp hs).1 _ e
      omega
theorem am_last {th : List (Int × Int)} (h : Sm th) (d : Int) : (am th d).getLast? = some (es th d) := by
  have e1 := es_mem h d
  have e2 : ∀ k ∈ am th d, k ≤ es th d := fun k hk => by
    have := (List.max?_eq_some_iff.mp (es_max h d)).2 (k : Int) (List.mem_map.mpr ⟨k, hk, rfl⟩)
    omega
  have hs := am_sorted th d
  have hne := am_ne h d
  have hp : 0 < (am th d).length := List.length_pos_iff.mpr hne
  have hlast : (am th d).length - 1 < (am th d).length := by omega
  rw [List.getLast?_eq_getElem?, List.getElem?_eq_getElem hlast]
  have l1 := e2 _ (List.getElem_mem hlast)
  obtain ⟨i, hi, he⟩ := List.getElem_of_mem e1
  by_cases hii : i = (am th d).length - 1
  · subst hii
    rw [he]
  · have := (List.pairwise_iff_getElem.mp hs) i ((am th d).length - 1) hi hlast (by omega)
    omega
theorem E_law_state {th : List (Int × Int)} (h : Sm th) (d : Int) (hd : d.natAbs < 2 ^ 40) (e : Bool) (s : Src) : f__law_state [.d (thD th), .d (.int d), .d (.bool e)] s = some (.int ((if e then es th d else ts th d : Nat) : Int), s) := by
  have hlen := h.len
  have sums : compD [5, 6] (seqI (vD 0)) (.tp [.nm 5, .nm 6]) (DL.ret true) (op2 addA (vD 5) (op2 mulS (vD 1) (vD 6))) ⟨[.fz (thD th), .fz (.int d), .fz (.bool e), .un, .un, .un, .un, .un, .un], s⟩ = some (lI (cst th d), ⟨[.fz (thD th), .fz (.int d), .fz (.bool e), .un, .un, .un, .un, .un, .un], s⟩) := by
    refine (e_comp (s := s) (env := [.fz (thD th), .fz (.int d), .fz (.bool e), .un, .un, .un, .un, .un, .un]) th pI (fun p => .int (p.1 + p.2 * d)) (e_seqI (d := thD th) rfl rfl) rfl (by omega) rfl fun p hp => ⟨[.fz (thD th), .fz (.int d), .fz (.bool e), .un, .un, .fz (.int p.1), .fz (.int p.2), .un, .un], rfl, rfl, ?_⟩).trans ?_
    · refine e_op2 (y := .int (d * p.2)) rfl (e_op2 rfl rfl (ev_mul (.inr (Nat.lt_trans (h.r p hp) (by decide))))) ?_
      show some (PyData.int (p.1 + d * p.2)) = _
      rw [Int.mul_comm d]
    · unfold lI cst
      rw [List.map_map]
      rfl
  have some_ : compD [7, 8] (enumI (consL (vD 3) (DL.ret []))) (.tp [.nm 7, .nm 8]) (toB (op2 eqD (vD 8) (callN (altN min1L min1T) (consL (vD 3) (DL.ret []))))) (vD 7) ⟨[.fz (thD th), .fz (.int d), .fz (.bool e), .own ((cst th d).map PyData.int), .un, .un, .un, .un, .un], s⟩ = some (lN (am th d), ⟨[.fz (thD th), .fz (.int d), .fz (.bool e), .fz (lI (cst th d)), .un, .un, .un, .un, .un], s⟩) := by
    refine (e_compIf (s := s) (env := [.fz (thD th), .fz (.int d), .fz (.bool e), .fz (lI (cst th d)), .un, .un, .un, .un, .un]) (List.range (cst th d).length) (fun (k : Nat) => PyData.tuple [.int k, .int ((cst th d).getD k 0)]) (fun k => decide ((cst th d).getD k 0 = lh th d)) (fun k => .int (k : Nat)) ?_ rfl ?_ rfl fun k hk => ⟨[.fz (thD th), .fz (.int d), .fz (.bool e), .fz (lI (cst th d)), .un, .un, .un, .fz (.int (k : Nat)), .fz (.int ((cst th d).getD k 0))], rfl, rfl, ?_, fun _ => rfl⟩).trans ?_
    · show bnd _ _ _ = _
      rw [bnd_eq (e_one (S1 := ⟨[.fz (thD th), .fz (.int d), .fz (.bool e), .fz (lI (cst th d)), .un, .un, .un, .un, .un], s⟩) (d := lI (cst th d)) rfl)]
      show some (enumL ((cst th d).map PyData.int), _) = _
      rw [enumL_ints]
    · rw [List.length_range, cst_len]
      omega
    · exact e_toB (e_op2 rfl (e_callN (e_one rfl) (ev_minL (lh_min h d))) (DL.eq_int _ _))
    · rw [E_am h d]
  refine e_def (S' := ⟨[.fz (thD th), .fz (.int d), .fz (.bool e), .fz (lI (cst th d)), .fz (lN (am th d)), .un, .un, .un, .un], s⟩) (e_seq (S1 := ⟨[.fz (thD th), .fz (.int d), .fz (.bool e), .own ((cst th d).map PyData.int), .un, .un, .un, .un, .un], s⟩) (e_asgN sums) (e_seq (S1 := ⟨[.fz (thD th), .fz (.int d), .fz (.bool e), .fz (lI (cst th d)), .own ((am th d).map fun (k : Nat) => PyData.int (k : Int)), .un, .un, .un, .un], s⟩) (e_asgN some_) (e_ret ?_)))
  cases e with
  | true =>
    refine e_ifDT (e_toB rfl) (e_op2 (x := lN (am th d)) (y := .int (-1)) rfl rfl ?_)
    show L2.atI ((am th d).map _) (-1) = _
    rw [atI_last, List.getLast?_map, am_last h d]
    rfl
  | false =>
    refine e_ifDF (e_toB rfl) (e_op2 (x := lN (am th d)) (y := .int 0) rfl rfl ?_)
    show L2.atI ((am th d).map _) ((0 : Nat) : Int) = _
    rw [atI_nat, List.getElem?_map, am_head h d]
    rfl
theorem E_law_cost {th : List (Int × Int)} (h : Sm th) (st : List Nat) (hl : st.length ≤ 1000) (hk : ∀ k ∈ st, k < th.length) (s : Src) : f__law_cost [.d (thD th), .d (lN st)] s = some (.int (cbs th st), s) := by
  have e1 : (compD [2] (seqI (vD 1)) (.nm 2) (DL.ret true) (op2 ixD (op2 ixD (vD 0) (vD 2)) (cD (.int 1)))) ⟨[.fz (thD th), .fz (lN st), .un], s⟩ = some (lI (st.map fun k => (th.getD k (0, 0)).2), ⟨[.fz (thD th), .fz (lN st), .un], s⟩) := by
    refine (e_comp (s := s) (env := [.fz (thD th), .fz (lN st), .un]) st (fun (k : Nat) => PyData.int (k : Int)) (fun k => .int (th.getD k (0, 0)).2) (e_seqI rfl rfl) rfl (by omega) rfl fun k hk' => ⟨[.fz (thD th), .fz (lN st), .fz (.int (k : Nat))], rfl, rfl, ?_⟩).trans ?_
    · exact e_op2 (e_op2 rfl rfl (ix_at pI th k (0, 0) (hk k hk'))) rfl rfl
    · unfold lI
      rw [List.map_map]
      rfl
  unfold cbs
  rw [Int.add_comm]
  cases hst : st.getLast? with
  | none =>
    have : st = [] := List.getLast?_eq_none_iff.mp hst
    subst this
    exact e_def (S' := ⟨[.fz (thD th), .fz (lN []), .un], s⟩) (e_ret (e_op2 (y := .int 0) (e_callN (e_one e1) (ev_sum _)) (e_ifDF (S1 := ⟨[.fz (thD th), .fz (lN []), .un], s⟩) (e_toB (e_op2 rfl (e_lst rfl (by decide)) (ne_lI [] []))) rfl) rfl))
  | some k =>
    have hne : st ≠ [] := fun e => by rw [e] at hst; cases hst
    have hkm : k ∈ st := List.mem_of_getLast? hst
    refine e_def (S' := ⟨[.fz (thD th), .fz (lN st), .un], s⟩) (e_ret (e_op2 (y := .int (th.getD k (0, 0)).1) (e_callN (e_one e1) (ev_sum _)) (e_ifDT (S1 := ⟨[.fz (thD th), .fz (lN st), .un], s⟩) ?_ ?_) rfl))
    · refine e_toB (e_op2 rfl (e_lst rfl (by decide)) ?_)
      rw [lN_lI]
      refine (ne_lI _ []).trans ?_
      simp [hne]
    · refine e_op2 (e_op2 rfl (e_op2 rfl rfl (y := .int (-1)) (z := .int (k : Nat)) ?_) (ix_at pI th k (0, 0) (hk k hkm))) rfl rfl
      show L2.atI (st.map _) (-1) = _
      rw [atI_last, List.getLast?_map, hst]
      rfl
end K46

-- part K46i
set_option Elab.async false
set_option linter.all false
set_option maxRecDepth 100000
set_option maxHeartbeats 1000000
namespace K46
open PySem PySem.Spec PyProof.Rows L2 RZ DL
theorem E_pickF (m : Int) (hm : m.natAbs < 2 ^ 60) (s : Src) : f__law_pick [.src, .d (.int m)] s = some (.int (pickS m s).1, (pickS m s).2) := by
  show (if m.natAbs < 2 ^ 60 then some (PyData.int (pickS m s).1, (pickS m s).2) else none) = _
  rw [if_pos hm]
structure LT (many i : Nat) (th : List (Int × Int)) (r p : Int) : Prop where
  len : th.length = i
  p0 : i = 0 → p = 0
  ph : 0 < i → (th.getD 0 (0, 0)).1 = 0
  pp : 0 ≤ p ∧ p ≤ 26 * (i : Int)
  rr : (many : Int) - 1 - i ≤ r ∧ r ≤ 40
  bd : ∀ q ∈ th, (0 ≤ q.1 ∧ q.1 ≤ 200 ∧ q.1 < p) ∧ 0 ≤ q.2 ∧ q.2 ≤ 40 ∧ r < q.2
  up : th.Pairwise fun x y => x.1 < y.1 ∧ y.2 < x.2
theorem LT.step {many i : Nat} {th : List (Int × Int)} {r p p' r' : Int} (h : LT many i th r p) (hi : i < many) (hm : many ≤ 6) (hp : p < p' ∧ p' ≤ p + 26) (hr : (many : Int) - 2 - i ≤ r' ∧ r' < r) : LT many (i + 1) (th ++ [(p, r)]) r' p' := by
  have h1 := h.pp
  have h2 := h.rr
  refine ⟨by simp [h.len], fun e => by omega, fun _ => ?_, by omega, by omega, fun q hq => ?_, ?_⟩
  · cases hth : th with
    | nil =>
      have : i = 0 := by
        rw [← h.len, hth]
        rfl
      simp [h.p0 this]
    | cons x l =>
      have hpos : 0 < i := by
        rw [← h.len, hth]
        simp
      have := h.ph hpos
      rw [hth] at this
      simpa using this
  · rcases List.mem_append.mp hq with q1 | q1
    · have := h.bd q q1
      omega
    · rw [List.mem_singleton.mp q1]
      show (0 ≤ p ∧ p ≤ 200 ∧ p < p') ∧ 0 ≤ r ∧ r ≤ 40 ∧ r' < r
      omega
  · rw [List.pairwise_append]
    refine ⟨h.up, by simp, fun x hx y hy => ?_⟩
    rw [List.mem_singleton.mp hy]
    have := h.bd x hx
    exact ⟨this.1.2.2, this.2.2.2⟩
theorem E_law_things (s : Src) : ∃ th s', f__law_things [.src] s = some (thD th, s') ∧ ThOk th := by
  have b1 := pickS_bd 6 s
  generalize hq1 : pickS 6 s = q1 at b1
  obtain ⟨k1, s1⟩ := q1
  have b2 := pickS_bd 30 s1
  generalize hq2 : pickS 30 s1 = q2 at b2
  obtain ⟨k2, s2⟩ := q2
  simp only at b1 b2
  obtain ⟨many, hmany⟩ : ∃ many : Nat, (1 + k1 : Int) = (many : Int) := ⟨(1 + k1).toNat, by omega⟩
  have e1 : asgS 1 (op2 addA (cD (.int 1)) (callD f__law_pick (srcA 0 (consA (cD (.int 6)) (DL.ret []))))) ⟨[.src, .un, .un, .un, .un, .un], s⟩ = some (.nx, ⟨[.src, .fz (.int (many : Nat)), .un, .un, .un, .un], s1⟩) := by
    refine (e_asg (e_op2 (S1 := ⟨[.src, .un, .un, .un, .un, .un], s⟩) (S2 := ⟨[.src, .un, .un, .un, .un, .un], s1⟩) (x := .int 1) (y := .int k1) rfl ?_ rfl)).trans ?_
    · refine (e_call (S1 := ⟨[.src, .un, .un, .un, .un, .un], s⟩) (as := [.src, .d (.int 6)]) rfl (E_pickF 6 (by decide) s)).trans ?_
      rw [hq1]
    · rw [← hmany]
      rfl
  have e2 : asgS 2 (op2 addA (vD 1) (callD f__law_pick (srcA 0 (consA (cD (.int 30)) (DL.ret []))))) ⟨[.src, .fz (.int (many : Nat)), .un, .un, .un, .un], s1⟩ = some (.nx, ⟨[.src, .fz (.int (many : Nat)), .fz (.int ((many : Int) + k2)), .un, .un, .un], s2⟩) := by
    refine (e_asg (e_op2 (S1 := ⟨[.src, .fz (.int (many : Nat)), .un, .un, .un, .un], s1⟩) (S2 := ⟨[.src, .fz (.int (many : Nat)), .un, .un, .un, .un], s2⟩) (x := .int (many : Nat)) (y := .int k2) rfl ?_ rfl)).trans rfl
    refine (e_call (S1 := ⟨[.src, .fz (.int (many : Nat)), .un, .un, .un, .un], s1⟩) (as := [.src, .d (.int 30)]) rfl (E_pickF 30 (by decide) s1)).trans ?_
    rw [hq2]
  have e3 : parO 3 4 (cD (.int 0)) ⟨[.src, .fz (.int (many : Nat)), .fz (.int ((many : Int) + k2)), .un, .un, .un], s2⟩ = some (.nx, ⟨[.src, .fz (.int (many : Nat)), .fz (.int ((many : Int) + k2)), .fz (.int 0), .own [], .un], s2⟩) := rfl
  have hit : rangeI1 (consL (vD 1) (DL.ret [])) ⟨[.src, .fz (.int (many : Nat)), .fz (.int ((many : Int) + k2)), .fz (.int 0), .own [], .un], s2⟩ = some ((List.range many).map fun (k : Nat) => PyData.int (k : Int), ⟨[.src, .fz (.int (many : Nat)), .fz (.int ((many : Int) + k2)), .fz (.int 0), .own [], .un], s2⟩) := by
    refine (ev_range1 (j := (many : Int)) (e_one rfl) (by omega)).trans ?_
    simp
  have hsz := sizeLine_eq
  have loop := e_for (p := .nm 5) (b := (seqS (appS 4 (tupD (consL (vD 3) (consL (vD 2) (DL.ret [])))))
    (seqS (asgS 3 (op2 addA (op2 addA (vD 3) (cD (.int 1))) (callD f__law_pick (srcA 0 (consA (cD (.int 25)) (DL.ret []))))))
    (asgS 2 (callN max2D (consL (op2 subI (op2 subI (vD 1) (cD (.int 2))) (vD 5)) (consL (op2 subI (op2 subI (vD 2) (cD (.int 1))) (callD f__law_pick (srcA 0 (consA (cD (.int 9)) (DL.ret []))))) (DL.ret []))))))))
    (fun i S => i ≤ many ∧ ∃ th r p x s', S = ⟨[.src, .fz (.int (many : Nat)), .fz (.int r), .fz (.int p), .own (th.map pI), x], s'⟩ ∧ LT many i th r p)
    ((List.range many).map fun (k : Nat) => PyData.int (k : Int)) 0 ⟨[.src, .fz (.int (many : Nat)), .fz (.int ((many : Int) + k2)), .fz (.int 0), .own [], .un], s2⟩
    ⟨Nat.zero_le _, [], (many : Int) + k2, 0, .un, s2, rfl, ⟨rfl, fun _ => rfl, fun h => absurd h (Nat.lt_irrefl _), by omega, by omega, fun q hq => (by cases hq), .nil⟩⟩ ?_
  · obtain ⟨S', e4, _, th, r, p, x, s', rfl, lt⟩ := loop
    have hz : 0 + ((List.range many).map fun (k : Nat) => PyData.int (k : Int)).length = many := by simp
    rw [hz] at lt
    refine ⟨th, s', e_def (S' := ⟨[.src, .fz (.int (many : Nat)), .fz (.int r), .fz (.int p), .fz (.list (th.map pI)), x], s'⟩) (e_seq e1 (e_seq e2 (e_seq e3 (e_seq (e_forS hit e4) (e_ret (e_callN (e_one rfl) rfl)))))), ⟨fun e => ?_, by rw [lt.len]; omega, lt.ph (by omega), lt.up, fun q hq => ?_⟩⟩
    · have := lt.len
      rw [e] at this
      simp at this
      omega
    · have := lt.bd q hq
      omega
  · rintro i d S hi ⟨_, th, r, p, x, s', rfl, lt⟩
    rw [List.getElem?_map] at hi
    by_cases hin : i < many
    · rw [List.getElem?_range hin] at hi
      have hi' : d = PyData.int (i : Int) := (Option.some.inj hi).symm
      subst hi'
      rw [Nat.zero_add] at lt ⊢
      have b3 := pickS_bd 25 s'
      generalize hq3 : pickS 25 s' = q3 at b3
      obtain ⟨k3, s3⟩ := q3
      have b4 := pickS_bd 9 s3
      generalize hq4 : pickS 9 s3 = q4 at b4
      obtain ⟨k4, s4⟩ := q4
      simp only at b3 b4
      refine ⟨[.src, .fz (.int (many : Nat)), .fz (.int r), .fz (.int p), .own (th.map pI), .fz (.int (i : Nat))], ⟨[.src, .fz (.int (many : Nat)), .fz (.int (if r - 1 - k4 > (many : Int) - 2 - i then r - 1 - k4 else (many : Int) - 2 - i)), .fz (.int (p + 1 + k3)), .own ((th ++ [(p, r)]).map pI), .fz (.int (i : Nat))], s4⟩, rfl, ?_, hin, th ++ [(p, r)], _, _, _, s4, rfl, lt.step hin (by omega) (by omega) ?_⟩
      · refine e_seq (S1 := ⟨[.src, .fz (.int (many : Nat)), .fz (.int r), .fz (.int p), .own ((th ++ [(p, r)]).map pI), .fz (.int (i : Nat))], s'⟩) ?_ (e_seq (S1 := ⟨[.src, .fz (.int (many : Nat)), .fz (.int r), .fz (.int (p + 1 + k3)), .own ((th ++ [(p, r)]).map pI), .fz (.int (i : Nat))], s3⟩) ?_ ?_)
        · unfold appS
          show bnd _ _ _ = _
          rw [bnd_eq (e_tup (xs := [.int p, .int r]) (e_cons rfl (e_one rfl)) (show 2 ≤ 1000000 by decide))]
          show (if (th.map pI).length < sizeLine then some (Out.nx, (⟨[.src, .fz (.int (many : Nat)), .fz (.int r), .fz (.int p), .own (th.map pI ++ [pI (p, r)]), .fz (.int (i : Nat))], s'⟩ : Sta)) else none) = _
          rw [if_pos (by rw [List.length_map, lt.len]; omega), List.map_append]
          rfl
        · refine (e_asg (e_op2 (S1 := ⟨[.src, .fz (.int (many : Nat)), .fz (.int r), .fz (.int p), .own ((th ++ [(p, r)]).map pI), .fz (.int (i : Nat))], s'⟩) (S2 := ⟨[.src, .fz (.int (many : Nat)), .fz (.int r), .fz (.int p), .own ((th ++ [(p, r)]).map pI), .fz (.int (i : Nat))], s3⟩) (x := .int (p + 1)) (y := .int k3) (e_op2 rfl rfl rfl) ?_ rfl)).trans rfl
          refine (e_call (S1 := ⟨[.src, .fz (.int (many : Nat)), .fz (.int r), .fz (.int p), .own ((th ++ [(p, r)]).map pI), .fz (.int (i : Nat))], s'⟩) (as := [.src, .d (.int 25)]) rfl (E_pickF 25 (by decide) s')).trans ?_
          rw [hq3]
        · refine (e_asg (e_callN (S1 := ⟨[.src, .fz (.int (many : Nat)), .fz (.int r), .fz (.int (p + 1 + k3)), .own ((th ++ [(p, r)]).map pI), .fz (.int (i : Nat))], s4⟩) (xs := [.int ((many : Int) - 2 - i), .int (r - 1 - k4)]) (e_cons (S1 := ⟨[.src, .fz (.int (many : Nat)), .fz (.int r), .fz (.int (p + 1 + k3)), .own ((th ++ [(p, r)]).map pI), .fz (.int (i : Nat))], s3⟩) (e_op2 (e_op2 rfl rfl rfl) rfl rfl) (e_one (e_op2 (S1 := ⟨[.src, .fz (.int (many : Nat)), .fz (.int r), .fz (.int (p + 1 + k3)), .own ((th ++ [(p, r)]).map pI), .fz (.int (i : Nat))], s3⟩) (x := .int (r - 1)) (y := .int k4) (e_op2 rfl rfl rfl) ?_ rfl))) rfl)).trans rfl
          refine (e_call (S1 := ⟨[.src, .fz (.int (many : Nat)), .fz (.int r), .fz (.int (p + 1 + k3)), .own ((th ++ [(p, r)]).map pI), .fz (.int (i : Nat))], s3⟩) (as := [.src, .d (.int 9)]) rfl (E_pickF 9 (by decide) s3)).trans ?_
          rw [hq4]
      · have := lt.rr
        split <;> omega
    · rw [List.getElem?_eq_none (by simp; omega)] at hi
      cases hi
end K46

-- part K46j
set_option Elab.async false
set_option linter.all false
set_option maxRecDepth 100000
set_option maxHeartbeats 1000000
namespace K46
open PySem PySem.Spec PyProof.Rows L2 RZ DL
/-! ### what the states cost -/
def pr (th : List (Int × Int)) (k : Nat) : Int := (th.getD k (0, 0)).1
def rn (th : List (Int × Int)) (k : Nat) : Int := (th.getD k (0, 0)).2
theorem getD_at {α : Type} {xs : List α} {k : Nat} (z : α) (h : k < xs.length) : xs.getD k z = xs[k] := by
  rw [List.getD_eq_getElem?_getD, List.getElem?_eq_getElem h]
  rfl
theorem cst_at {th : List (Int × Int)} {d : Int} {k : Nat} (h : k < th.length) : (cst th d)[k]? = some (pr th k + rn th k * d) := by
  unfold cst pr rn
  rw [List.getElem?_map, List.getElem?_eq_getElem h, getD_at _ h]
  rfl
theorem lh_le {th : List (Int × Int)} (h : Sm th) {d : Int} {k : Nat} (hk : k < th.length) : lh th d ≤ pr th k + rn th k * d :=
  (mn_spec (cst_ne h.ne d)).2.2 _ (List.mem_of_getElem? (cst_at hk))
structure Arg (th : List (Int × Int)) (σ : Int → Nat) : Prop where
  lt : ∀ d, σ d < th.length
  eq : ∀ d, pr th (σ d) + rn th (σ d) * d = lh th d
theorem am_eq {th : List (Int × Int)} {d : Int} {k : Nat} (h : k ∈ am th d) : k < th.length ∧ pr th k + rn th k * d = lh th d := by
  obtain ⟨a, b⟩ := List.mem_filter.mp h
  have hk := List.mem_range.mp a
  rw [cst_at hk] at b
  refine ⟨hk, ?_⟩
  simpa using b
theorem arg_ts {th : List (Int × Int)} (h : Sm th) : Arg th (ts th) := ⟨ts_lt h, fun d => (am_eq (ts_mem h d).1).2⟩
theorem arg_es {th : List (Int × Int)} (h : Sm th) : Arg th (es th) := ⟨es_lt h, fun d => (am_eq (es_mem h d)).2⟩
theorem ThOk.at {th : List (Int × Int)} (h : ThOk th) {k : Nat} (hk : k < th.length) : (0 ≤ pr th k ∧ pr th k ≤ 200) ∧ 0 ≤ rn th k ∧ rn th k ≤ 40 := by
  unfold pr rn
  rw [getD_at _ hk]
  exact h.bd _ (List.getElem_mem hk)
theorem ThOk.lt {th : List (Int × Int)} (h : ThOk th) {j k : Nat} (hjk : j < k) (hk : k < th.length) : pr th j < pr th k ∧ rn th k < rn th j := by
  unfold pr rn
  rw [getD_at _ hk, getD_at _ (show j < th.length by omega)]
  exact (List.pairwise_iff_getElem.mp h.up) j k (by omega) hk hjk
theorem arg_mono {th : List (Int × Int)} (h : ThOk th) {σ : Int → Nat} (a : Arg th σ) {d e : Int} (hde : d ≤ e) : σ d ≤ σ e := by
  by_cases hlt : σ e < σ d
  · exfalso
    obtain ⟨q1, q2⟩ := h.lt hlt (a.lt d)
    have e1 := a.eq d
    have e2 := a.eq e
    have l1 := lh_le h.sm (d := d) (a.lt e)
    have l2 := lh_le h.sm (d := e) (a.lt d)
    by_cases hd : d = e
    · subst hd
      omega
    · -- (rn b - rn a) * (e - d) > 0
      have hp : 0 < (rn th (σ e) - rn th (σ d)) * (e - d) := Int.mul_pos (by omega) (by omega)
      have x1 : (rn th (σ e) - rn th (σ d)) * (e - d) = rn th (σ e) * e - rn th (σ e) * d - (rn th (σ d) * e - rn th (σ d) * d) := by
        rw [Int.sub_mul, Int.mul_sub, Int.mul_sub]
      omega
  · omega
theorem rn_anti {th : List (Int × Int)} (h : ThOk th) {j k : Nat} (hjk : j ≤ k) (hk : k < th.length) : rn th k ≤ rn th j := by
  by_cases e : j = k
  · rw [e]
    exact Int.le_refl _
  · exact Int.le_of_lt (h.lt (by omega) hk).2
def sr (th : List (Int × Int)) (σ : Int → Nat) (d : Nat) : Int := ((dys d).map fun e => rn th (σ e)).sum
theorem dys_succ (d : Nat) : dys (d + 1) = dys d ++ [1 + (d : Int)] := by
  unfold dys
  rw [List.range_succ, List.map_append]
  rfl
theorem sr_succ (th : List (Int × Int)) (σ : Int → Nat) (d : Nat) : sr th σ (d + 1) = sr th σ d + rn th (σ (1 + (d : Int))) := by
  unfold sr
  rw [dys_succ, List.map_append, List.sum_append]
  simp
theorem sr_zero (th : List (Int × Int)) (σ : Int → Nat) : sr th σ 0 = 0 := rfl
theorem cbs_succ (th : List (Int × Int)) (σ : Int → Nat) (d : Nat) : cbs th ((dys (d + 1)).map σ) = pr th (σ (1 + (d : Int))) + sr th σ (d + 1) := by
  have e : (dys (d + 1)).map σ = (dys d).map σ ++ [σ (1 + (d : Int))] := by
    rw [dys_succ, List.map_append]
    rfl
  have e2 : ((dys (d + 1)).map σ).getLast? = some (σ (1 + (d : Int))) := by
    rw [e]
    simp
  have e3 : (((dys (d + 1)).map σ).map fun k => (th.getD k (0, 0)).2).sum = sr th σ (d + 1) := by
    unfold sr rn
    rw [List.map_map]
    rfl
  unfold cbs pr
  rw [e2, e3]
theorem cbs_zero (th : List (Int × Int)) (σ : Int → Nat) : cbs th ((dys 0).map σ) = 0 := rfl
theorem lh_zero {th : List (Int × Int)} (h : ThOk th) : lh th 0 = 0 := by
  have hp : 0 < th.length := List.length_pos_iff.mpr h.ne
  have l1 := lh_le h.sm (d := 0) hp
  have e1 := (arg_ts h.sm).eq 0
  have b := h.at ((arg_ts h.sm).lt 0)
  have h0 : pr th 0 = 0 := h.h0
  rw [h0] at l1
  simp at l1 e1
  omega
theorem sr_le {th : List (Int × Int)} (h : ThOk th) {σ : Int → Nat} (a : Arg th σ) : ∀ d : Nat, sr th σ d ≤ lh th (d : Int)
  | 0 => by
    rw [sr_zero]
    have := lh_zero h
    simp [this]
  | d + 1 => by
    rw [sr_succ]
    have ih := sr_le h a d
    have e1 := a.eq (1 + (d : Int))
    have l1 := lh_le h.sm (d := (d : Int)) (a.lt (1 + (d : Int)))
    have x1 : rn th (σ (1 + (d : Int))) * (1 + (d : Int)) = rn th (σ (1 + (d : Int))) + rn th (σ (1 + (d : Int))) * (d : Int) := by rw [Int.mul_add, Int.mul_one]
    have x2 : ((d + 1 : Nat) : Int) = 1 + (d : Int) := by omega
    rw [x2]
    omega
theorem sr_ge {th : List (Int × Int)} (h : ThOk th) {σ : Int → Nat} (a : Arg th σ) (e : Nat) : ∀ d : Nat, d ≤ e → rn th (σ (e : Int)) * (d : Int) ≤ sr th σ d
  | 0, _ => by
    rw [sr_zero]
    simp
  | d + 1, hd => by
    rw [sr_succ]
    have ih := sr_ge h a e d (by omega)
    have m := rn_anti h (arg_mono h a (show 1 + (d : Int) ≤ (e : Int) by omega)) (a.lt (e : Int))
    have x1 : rn th (σ (e : Int)) * ((d + 1 : Nat) : Int) = rn th (σ (e : Int)) * (d : Int) + rn th (σ (e : Int)) := by
      rw [show ((d + 1 : Nat) : Int) = (d : Int) + 1 by omega, Int.mul_add, Int.mul_one]
    omega
theorem cbs_bd {th : List (Int × Int)} (h : ThOk th) {σ : Int → Nat} (a : Arg th σ) (d : Nat) (hd : 1 ≤ d) : lh th (d : Int) ≤ cbs th ((dys d).map σ) ∧ cbs th ((dys d).map σ) ≤ 2 * lh th (d : Int) := by
  obtain ⟨e, rfl⟩ : ∃ e, d = e + 1 := ⟨d - 1, by omega⟩
  rw [cbs_succ]
  have x2 : ((e + 1 : Nat) : Int) = 1 + (e : Int) := by omega
  have l1 := sr_le h a (e + 1)
  have l2 := sr_ge h a (e + 1) (e + 1) (Nat.le_refl _)
  rw [x2] at l1 l2 ⊢
  have e1 := a.eq (1 + (e : Int))
  have b := h.at (a.lt (1 + (e : Int)))
  have := Int.mul_nonneg b.2.1 (show (0 : Int) ≤ 1 + (e : Int) by omega)
  omega
theorem lh_bd {th : List (Int × Int)} (h : ThOk th) (d : Nat) (hd : d ≤ 31) : 0 ≤ lh th (d : Int) ∧ lh th (d : Int) ≤ 2000 := by
  have hp : 0 < th.length := List.length_pos_iff.mpr h.ne
  have l1 := lh_le h.sm (d := (d : Int)) hp
  have e1 := (arg_ts h.sm).eq (d : Int)
  have b := h.at ((arg_ts h.sm).lt (d : Int))
  have b0 := h.at hp
  have p1 := Int.mul_nonneg b.2.1 (show (0 : Int) ≤ (d : Int) by omega)
  have p2 := Int.mul_le_mul b0.2.2 (show (d : Int) ≤ 31 by omega) (by omega) (by decide : (0 : Int) ≤ 40)
  omega
/-! ### the tables -/
theorem mn_map_eq {rows : List (List Int)} {i : Nat} {m : Int} (h1 : ∃ k, k < rows.length ∧ en rows k i = m) (h2 : ∀ k, k < rows.length → m ≤ en rows k i) : le' rows i = m := by
  unfold le'
  refine mn_eq ?_ fun y hy => ?_
  · obtain ⟨k, hk, e⟩ := h1
    exact List.mem_map.mpr ⟨rows.getD k [], row_mem hk, e⟩
  · obtain ⟨r, hr, e⟩ := List.mem_map.mp hy
    obtain ⟨k, hk⟩ := List.getElem?_of_mem hr
    have hl := (List.getElem?_eq_some_iff.mp hk).1
    have := h2 k hl
    unfold en at this
    rw [List.getD_eq_getElem?_getD (l := rows), hk] at this
    rw [← e]
    exact this
theorem lcs_ext {rows : List (List Int)} {n : Nat} {f : Int → Int} (h : ∀ i, i < n → le' rows i = f (1 + (i : Int))) : lcs rows n = (dys n).map f := by
  unfold lcs dys
  rw [List.map_map]
  refine List.map_congr_left fun i hi => ?_
  exact h i (List.mem_range.mp hi)
def R0 (th : List (Int × Int)) (n : Nat) : List (List Int) := th.map fun p => (dys n).map fun d => p.1 + d * p.2
def crow (th : List (Int × Int)) (σ : Int → Nat) (n : Nat) : List Int := (List.range n).map fun i => cbs th ((dys (i + 1)).map σ)
def TB (th : List (Int × Int)) (n : Nat) : List (List Int) := R0 th n ++ [crow th (ts th) n, crow th (es th) n]
theorem R0_len (th : List (Int × Int)) (n : Nat) : (R0 th n).length = th.length := by simp [R0]
theorem R0_en {th : List (Int × Int)} {n k i : Nat} (hk : k < th.length) (hi : i < n) : en (R0 th n) k i = pr th k + rn th k * (1 + (i : Int)) := by
  unfold en R0 pr rn
  rw [getD_at [] (by simpa using hk), getD_at _ hk]
  rw [getD_at 0 (by simpa using hi)]
  simp [Int.mul_comm]
theorem R0_tb {th : List (Int × Int)} (h : ThOk th) {n : Nat} (h1 : 1 ≤ n) (h2 : n ≤ 30) : Tb (R0 th n) n := by
  refine ⟨by simpa [R0] using h.ne, by rw [R0_len]; have := h.len; omega, fun r hr => ?_, h1, by omega, fun r hr x hx => ?_⟩
  · obtain ⟨p, _, rfl⟩ := List.mem_map.mp hr
    simp
  · obtain ⟨p, hp, rfl⟩ := List.mem_map.mp hr
    obtain ⟨d, hd, rfl⟩ := List.mem_map.mp hx
    obtain ⟨i, hi, rfl⟩ := List.mem_map.mp hd
    have hi' := List.mem_range.mp hi
    have b := h.bd p hp
    have p1 := Int.mul_nonneg (show (0 : Int) ≤ 1 + (i : Int) by omega) b.2.1
    have p2 := Int.mul_le_mul (show 1 + (i : Int) ≤ 30 by omega) b.2.2 b.2.1 (by decide : (0 : Int) ≤ 30)
    omega
theorem R0_le {th : List (Int × Int)} (h : ThOk th) {n i : Nat} (hi : i < n) : le' (R0 th n) i = lh th (1 + (i : Int)) := by
  refine mn_map_eq ⟨ts th (1 + (i : Int)), ?_, ?_⟩ fun k hk => ?_
  · rw [R0_len]
    exact (arg_ts h.sm).lt _
  · rw [R0_en ((arg_ts h.sm).lt _) hi]
    exact (arg_ts h.sm).eq _
  · rw [R0_len] at hk
    rw [R0_en hk hi]
    exact lh_le h.sm hk
theorem crow_at {th : List (Int × Int)} {σ : Int → Nat} {n i : Nat} (hi : i < n) : (crow th σ n).getD i 0 = cbs th ((dys (i + 1)).map σ) := by
  unfold crow
  rw [getD_at 0 (by simpa using hi)]
  simp
theorem crow_bd {th : List (Int × Int)} (h : ThOk th) {σ : Int → Nat} (a : Arg th σ) {n i : Nat} (hi : i < n) : lh th (1 + (i : Int)) ≤ (crow th σ n).getD i 0 ∧ (crow th σ n).getD i 0 ≤ 2 * lh th (1 + (i : Int)) := by
  rw [crow_at hi]
  have := cbs_bd h a (i + 1) (by omega)
  rw [show ((i + 1 : Nat) : Int) = 1 + (i : Int) by omega] at this
  exact this
theorem TB_len (th : List (Int × Int)) (n : Nat) : (TB th n).length = th.length + 2 := by simp [TB, R0]
theorem TB_en {th : List (Int × Int)} {n k i : Nat} (hk : k < th.length) : en (TB th n) k i = en (R0 th n) k i := by
  unfold en TB
  rw [List.getD_eq_getElem?_getD (l := _ ++ _), List.getElem?_append_left (by rw [R0_len]; exact hk), List.getD_eq_getElem?_getD (l := R0 th n)]
theorem TB_row1 (th : List (Int × Int)) (n : Nat) : (TB th n).getD th.length [] = crow th (ts th) n := by
  unfold TB
  rw [List.getD_eq_getElem?_getD, List.getElem?_append_right (by rw [R0_len]; exact Nat.le_refl _), R0_len]
  simp
theorem TB_row2 (th : List (Int × Int)) (n : Nat) : (TB th n).getD (th.length + 1) [] = crow th (es th) n := by
  unfold TB
  rw [List.getD_eq_getElem?_getD, List.getElem?_append_right (by rw [R0_len]; omega), R0_len]
  simp
theorem crow_nn {th : List (Int × Int)} (h : ThOk th) {σ : Int → Nat} (a : Arg th σ) {n : Nat} (h2 : n ≤ 30) : ∀ x ∈ crow th σ n, 0 ≤ x ∧ x < 2 ^ 30 := fun x hx => by
  obtain ⟨i, hi, rfl⟩ := List.mem_map.mp hx
  have hi' := List.mem_range.mp hi
  have b := cbs_bd h a (i + 1) (by omega)
  have b2 := lh_bd h (i + 1) (by omega)
  omega
theorem TB_tb {th : List (Int × Int)} (h : ThOk th) {n : Nat} (h1 : 1 ≤ n) (h2 : n ≤ 30) : Tb (TB th n) n := by
  have t := R0_tb h h1 h2
  have hc : ∀ r, r ∈ TB th n → r ∈ R0 th n ∨ r = crow th (ts th) n ∨ r = crow th (es th) n := fun r hr => by
    unfold TB at hr
    simpa using hr
  refine ⟨by simp [TB], by rw [TB_len]; have := h.len; omega, fun r hr => ?_, h1, t.n2, fun r hr => ?_⟩
  · rcases hc r hr with q | rfl | rfl
    · exact t.wid r q
    · simp [crow]
    · simp [crow]
  · rcases hc r hr with q | rfl | rfl
    · exact t.nn r q
    · exact crow_nn h (arg_ts h.sm) h2
    · exact crow_nn h (arg_es h.sm) h2
theorem TB_le {th : List (Int × Int)} (h : ThOk th) {n i : Nat} (hi : i < n) : le' (TB th n) i = lh th (1 + (i : Int)) := by
  refine mn_map_eq ⟨ts th (1 + (i : Int)), ?_, ?_⟩ fun k hk => ?_
  · rw [TB_len]
    have := (arg_ts h.sm).lt (1 + (i : Int))
    omega
  · rw [TB_en ((arg_ts h.sm).lt _), R0_en ((arg_ts h.sm).lt _) hi]
    exact (arg_ts h.sm).eq _
  · rw [TB_len] at hk
    by_cases q : k < th.length
    · rw [TB_en q, R0_en q hi]
      exact lh_le h.sm q
    · by_cases q2 : k = th.length
      · subst q2
        unfold en
        rw [TB_row1]
        exact (crow_bd h (arg_ts h.sm) hi).1
      · have : k = th.length + 1 := by omega
        subst this
        unfold en
        rw [TB_row2]
        exact (crow_bd h (arg_es h.sm) hi).1
theorem TB_two {th : List (Int × Int)} (h : ThOk th) {n i k : Nat} (hi : i < n) (hk : k = th.length ∨ k = th.length + 1) : en (TB th n) k i ≤ 2 * le' (TB th n) i := by
  rw [TB_le h hi]
  unfold en
  rcases hk with rfl | rfl
  · rw [TB_row1]
    exact (crow_bd h (arg_ts h.sm) hi).2
  · rw [TB_row2]
    exact (crow_bd h (arg_es h.sm) hi).2
/-- the kept rows -/
theorem kept_le {rows : List (List Int)} {n : Nat} (h : Tb rows n) {left : List Nat} (kw : KW rows n rows.length left) : Tb (left.map fun k => rows.getD k []) n ∧ ∀ i, i < n → le' (left.map fun k => rows.getD k []) i = le' rows i := by
  have en_eq : ∀ j i, j < left.length → en (left.map fun k => rows.getD k []) j i = en rows (left.getD j 0) i := fun j i hj => by
    unfold en
    rw [getD_at [] (by simpa using hj), getD_at 0 hj]
    simp
  have hlen : left.length ≤ rows.length := by
    have := kw.nd.length_le_of_subset (l₂ := List.range rows.length) fun l hl => List.mem_range.mpr (kw.lt l hl)
    rw [List.length_range] at this
    exact this
  refine ⟨⟨by simpa using kw.ne, by rw [List.length_map]; have := h.len; omega, fun r hr => ?_, h.n1, h.n2, fun r hr => ?_⟩, fun i hi => ?_⟩
  · obtain ⟨k, hk, rfl⟩ := List.mem_map.mp hr
    exact row_len h (kw.lt k hk)
  · obtain ⟨k, hk, rfl⟩ := List.mem_map.mp hr
    exact h.nn _ (row_mem (kw.lt k hk))
  · obtain ⟨⟨o, ho, e⟩, lo⟩ := le_spec h hi
    obtain ⟨l, hl1, hl2⟩ := kw.dom o ho
    obtain ⟨j, hj⟩ := List.getElem?_of_mem hl1
    have hjl := (List.getElem?_eq_some_iff.mp hj).1
    have hjd : left.getD j 0 = l := by
      rw [List.getD_eq_getElem?_getD, hj]
      rfl
    refine mn_map_eq ⟨j, by simpa using hjl, ?_⟩ fun k hk => ?_
    · rw [en_eq j i hjl, hjd]
      have q1 := hl2 i hi
      have q2 := lo l (kw.lt l hl1)
      omega
    · have hk' : k < left.length := by simpa using hk
      rw [en_eq k i hk']
      refine lo _ (kw.lt _ ?_)
      rw [getD_at 0 hk']
      exact List.getElem_mem hk'
end K46

-- part K46k
set_option Elab.async false
set_option linter.all false
set_option maxRecDepth 100000
set_option maxHeartbeats 1000000
namespace K46
open PySem PySem.Spec PyProof.Rows L2 RZ DL
/-! ### one thing to rent or to buy -/
def t2 (b : Int) : List (Int × Int) := [(0, 1), (b, 0)]
theorem t2_sm {b : Int} : Sm (t2 b) := ⟨by simp [t2], by simp [t2], fun p hp => by
  simp [t2] at hp
  rcases hp with rfl | rfl
  · decide
  · show (0 : Int).natAbs < 2 ^ 40
    decide⟩
theorem t2_lh (b d : Int) : lh (t2 b) d = if b < d then b else d := by
  refine mn_eq ?_ fun y hy => ?_
  · simp [cst, t2]
    by_cases h : b < d
    · simp [h]
      omega
    · simp [h]
  · simp [cst, t2] at hy
    split <;> omega
theorem t2_ts {b d : Int} : ts (t2 b) d = if b < d then 1 else 0 := by
  have h := t2_sm (b := b)
  obtain ⟨t1, t3⟩ := ts_mem h d
  have hl := ts_lt h d
  have hl2 : ts (t2 b) d < 2 := hl
  by_cases hb : b < d
  · rw [if_pos hb]
    by_cases h0 : ts (t2 b) d = 0
    · exfalso
      have := (am_eq t1).2
      rw [h0, t2_lh, if_pos hb] at this
      simp [t2, pr, rn] at this
      omega
    · omega
  · rw [if_neg hb]
    have m0 : 0 ∈ am (t2 b) d := by
      refine List.mem_filter.mpr ⟨List.mem_range.mpr (by simp [t2]), ?_⟩
      rw [t2_lh, if_neg hb]
      simp [cst, t2]
    have := t3 0 m0
    omega
theorem t2_es {b d : Int} : es (t2 b) d = if d < b then 0 else 1 := by
  have h := t2_sm (b := b)
  have t1 := es_mem h d
  have hl : es (t2 b) d < 2 := es_lt h d
  have mx : ∀ k ∈ am (t2 b) d, k ≤ es (t2 b) d := fun k hk => by
    have := (List.max?_eq_some_iff.mp (es_max h d)).2 (k : Int) (List.mem_map.mpr ⟨k, hk, rfl⟩)
    omega
  by_cases hb : d < b
  · rw [if_pos hb]
    by_cases h1 : es (t2 b) d = 1
    · exfalso
      have := (am_eq t1).2
      rw [h1, t2_lh, if_neg (by omega)] at this
      simp [t2, pr, rn] at this
      omega
    · omega
  · rw [if_neg hb]
    have m1 : 1 ∈ am (t2 b) d := by
      refine List.mem_filter.mpr ⟨List.mem_range.mpr (by simp [t2]), ?_⟩
      rw [t2_lh]
      by_cases e : b < d
      · simp [cst, t2, e]
      · have : b = d := by omega
        simp [cst, t2, this]
    have := mx 1 m1
    omega
theorem t2_srT {b : Int} (hb : 1 ≤ b) : ∀ d : Nat, sr (t2 b) (ts (t2 b)) d = if b < (d : Int) then b else (d : Int)
  | 0 => by
    rw [sr_zero, if_neg (by omega)]
    rfl
  | d + 1 => by
    rw [sr_succ, t2_srT hb d, t2_ts]
    by_cases h : b < 1 + (d : Int)
    · rw [if_pos h, show rn (t2 b) 1 = 0 from rfl]
      split <;> split <;> omega
    · rw [if_neg h, show rn (t2 b) 0 = 1 from rfl]
      split <;> split <;> omega
theorem t2_srE {b : Int} (hb : 1 ≤ b) : ∀ d : Nat, sr (t2 b) (es (t2 b)) d = if (d : Int) < b then (d : Int) else b - 1
  | 0 => by
    rw [sr_zero, if_pos (by omega)]
    rfl
  | d + 1 => by
    rw [sr_succ, t2_srE hb d, t2_es]
    by_cases h : 1 + (d : Int) < b
    · rw [if_pos h, show rn (t2 b) 0 = 1 from rfl]
      split <;> split <;> omega
    · rw [if_neg h, show rn (t2 b) 1 = 0 from rfl]
      split <;> split <;> omega
theorem t2_told {b : Int} (hb : 1 ≤ b) (d : Nat) : cbs (t2 b) ((dys d).map (ts (t2 b))) = rcv b (some (b + 1)) (d : Int) := by
  unfold rcv
  cases d with
  | zero =>
    show _ = if ((0 : Nat) : Int) < b + 1 then _ else _
    rw [if_pos (by omega)]
    rfl
  | succ e =>
    rw [cbs_succ, t2_srT hb, t2_ts]
    by_cases h : b < 1 + (e : Int)
    · rw [if_pos h, show pr (t2 b) 1 = b from rfl, if_pos (by omega)]
      show _ = if ((e + 1 : Nat) : Int) < b + 1 then _ else _
      rw [if_neg (by omega)]
      omega
    · rw [if_neg h, show pr (t2 b) 0 = 0 from rfl, if_neg (by omega)]
      show _ = if ((e + 1 : Nat) : Int) < b + 1 then _ else _
      rw [if_pos (by omega)]
      omega
theorem t2_eager {b : Int} (hb : 1 ≤ b) (d : Nat) : cbs (t2 b) ((dys d).map (es (t2 b))) = rcv b (some b) (d : Int) := by
  unfold rcv
  cases d with
  | zero =>
    show _ = if ((0 : Nat) : Int) < b then _ else _
    rw [if_pos (by omega)]
    rfl
  | succ e =>
    rw [cbs_succ, t2_srE hb, t2_es]
    by_cases h : 1 + (e : Int) < b
    · rw [if_pos h, show pr (t2 b) 0 = 0 from rfl, if_pos (by omega)]
      show _ = if ((e + 1 : Nat) : Int) < b then _ else _
      rw [if_pos (by omega)]
      omega
    · rw [if_neg h, show pr (t2 b) 1 = b from rfl, if_neg (by omega)]
      show _ = if ((e + 1 : Nat) : Int) < b then _ else _
      rw [if_neg (by omega)]
      omega
/-! ### the table of renting -/
theorem rtb_len (b : Int) (h : Nat) : (rtb b h).length = h + 1 := by simp [rtb, wys]
theorem rtb_en {b : Int} {h k i : Nat} (hk : k < h + 1) (hi : i < h) : en (rtb b h) k i = rcv b (if k < h then some (1 + (k : Int)) else none) (1 + (i : Int)) := by
  unfold en rtb
  rw [getD_at [] (by simpa [wys] using hk), List.getElem_map, getD_at 0 (by simpa using hi)]
  have hw : (wys h)[k]'(by simpa [wys] using hk) = if k < h then some (1 + (k : Int)) else none := by
    unfold wys
    by_cases q : k < h
    · rw [List.getElem_append_left (by simpa using q), if_pos q]
      simp
    · rw [List.getElem_append_right (by simpa using Nat.le_of_not_lt q), if_neg q]
      simp
  rw [List.getElem_map, hw]
  simp
theorem rtb_tb {b : Int} (hb : 1 ≤ b) (hb2 : b ≤ 40) {h : Nat} (h1 : 1 ≤ h) (h2 : h ≤ 30) : Tb (rtb b h) h := by
  refine ⟨fun e => ?_, by rw [rtb_len]; omega, fun r hr => ?_, h1, by omega, fun r hr x hx => ?_⟩
  · have := rtb_len b h
    rw [e] at this
    simp at this
  · obtain ⟨w, _, rfl⟩ := List.mem_map.mp hr
    simp
  · obtain ⟨w, hw, rfl⟩ := List.mem_map.mp hr
    obtain ⟨d, hd, rfl⟩ := List.mem_map.mp hx
    obtain ⟨i, hi, rfl⟩ := List.mem_map.mp hd
    have hi' := List.mem_range.mp hi
    unfold wys at hw
    rcases List.mem_append.mp hw with q | q
    · obtain ⟨y, hy, rfl⟩ := List.mem_map.mp q
      obtain ⟨j, hj, rfl⟩ := List.mem_map.mp hy
      have hj' := List.mem_range.mp hj
      show 0 ≤ (if 1 + (i : Int) < 1 + (j : Int) then _ else _) ∧ _ < _
      unfold rcv
      simp only
      split <;> omega
    · rw [List.mem_singleton.mp q]
      show 0 ≤ 1 + (i : Int) ∧ 1 + (i : Int) < 2 ^ 30
      omega
theorem rtb_le {b : Int} (hb : 1 ≤ b) {h i : Nat} (hi : i < h) : le' (rtb b h) i = if b < 1 + (i : Int) then b else 1 + (i : Int) := by
  by_cases hlt : b < 1 + (i : Int)
  · rw [if_pos hlt]
    refine mn_map_eq ⟨0, by rw [rtb_len]; omega, ?_⟩ fun k hk => ?_
    · rw [rtb_en (by omega) hi, if_pos (by omega)]
      unfold rcv
      simp only
      rw [if_neg (by omega)]
      omega
    · rw [rtb_len] at hk
      rw [rtb_en hk hi]
      unfold rcv
      split
      · omega
      · rename_i s hs
        split at hs
        · cases hs
          split <;> omega
        · cases hs
  · rw [if_neg hlt]
    refine mn_map_eq ⟨h, by rw [rtb_len]; omega, ?_⟩ fun k hk => ?_
    · rw [rtb_en (by omega) hi, if_neg (by omega)]
      rfl
    · rw [rtb_len] at hk
      rw [rtb_en hk hi]
      unfold rcv
      split
      · omega
      · rename_i s hs
        split at hs
        · cases hs
          split <;> omega
        · cases hs
theorem rtb_way {b : Int} (hb : 1 ≤ b) {h : Nat} : ∃ k, k < (rtb b h).length ∧ ca (rtb b h) h k 2 1 = [] := by
  by_cases hbh : b ≤ (h : Int)
  · refine ⟨b.toNat - 1, by rw [rtb_len]; omega, ca_nil.mpr fun i hi => ?_⟩
    rw [rtb_le hb hi, rtb_en (by omega) hi, if_pos (by omega)]
    unfold rcv
    simp only
    split <;> split <;> omega
  · refine ⟨h, by rw [rtb_len]; omega, ca_nil.mpr fun i hi => ?_⟩
    rw [rtb_le hb hi, rtb_en (by omega) hi, if_neg (by omega)]
    unfold rcv
    simp only
    split <;> omega
end K46

-- part K46l
set_option Elab.async false
set_option linter.all false
set_option maxRecDepth 100000
set_option maxHeartbeats 2000000
namespace K46
open PySem PySem.Spec PyProof.Rows L2 RZ DL
noncomputable def q0 : MS := (unpS (.tp [(.nm 3), (.nm 4)]) (tupD (consL (callD f__law_things (srcA 1 (DL.ret []))) (consL (op2 addA (cD (.int 1)) (callD f__law_pick (srcA 1 (consA (cD (.int 30)) (DL.ret []))))) (DL.ret [])))))
noncomputable def q1 : MS := (ifS (toB (op2 notIsD (callD f_are_things (consA (vD 3) (DL.ret []))) (cD (.bool true)))) (retS (cD (.bool false))) (DL.ret .nx))
noncomputable def q2 : MS := (asgN 5 (compD [21, 18] (seqI (vD 3)) (.tp [(.nm 21), (.nm 18)]) (DL.ret true) (callN tupleD (consL (compD [20] (rangeI2 (consL (cD (.int 1)) (consL (op2 addA (vD 4) (cD (.int 1))) (DL.ret [])))) (.nm 20) (DL.ret true) (op2 addA (vD 21) (op2 mulS (vD 20) (vD 18)))) (DL.ret [])))))
noncomputable def q3 : MS := (asgS 6 (callN tupleD (consL (compD [20] (rangeI2 (consL (cD (.int 1)) (consL (op2 addA (vD 4) (cD (.int 1))) (DL.ret [])))) (.nm 20) (DL.ret true) (callD f_least_have (consA (vD 3) (consA (vD 20) (DL.ret []))))) (DL.ret []))))
noncomputable def q4 : MS := (ifS (orT (toB (op2 neD (callD f_least_costs (consA (tupO 5) (DL.ret []))) (vD 6))) (toB (op2 neD (callD f_least_have (consA (vD 3) (consA (cD (.int 0)) (DL.ret [])))) (cD (.int 0))))) (retS (cD (.bool false))) (DL.ret .nx))
noncomputable def i0 : MS := (asgN 8 (compD [20] (rangeI2 (consL (cD (.int 1)) (consL (op2 addA (vD 4) (cD (.int 1))) (DL.ret [])))) (.nm 20) (DL.ret true) (callD f__law_state (consA (vD 3) (consA (vD 20) (consA (vD 7) (DL.ret [])))))))
noncomputable def i1 : MS := (asgN 9 (compD [20] (rangeI2 (consL (cD (.int 1)) (consL (op2 addA (vD 4) (cD (.int 1))) (DL.ret [])))) (.nm 20) (DL.ret true) (ifD (toB (vD 7)) (callD f_eager_state (consA (vD 3) (consA (vD 20) (DL.ret [])))) (callD f_told_state (consA (vD 3) (consA (vD 20) (DL.ret [])))))))
noncomputable def i2 : MS := (ifS (orT (toB (op2 neD (vD 9) (vD 8))) (toB (op2 neD (vD 8) (callN sortedD (consL (vD 8) (DL.ret [])))))) (retS (cD (.bool false))) (DL.ret .nx))
noncomputable def i3 : MS := (asgN 10 (compD [20] (rangeI2 (consL (cD (.int 0)) (consL (op2 addA (vD 4) (cD (.int 1))) (DL.ret [])))) (.nm 20) (DL.ret true) (ifD (toB (vD 7)) (callD f_eager_cost (consA (vD 3) (consA (vD 20) (DL.ret [])))) (callD f_told_cost (consA (vD 3) (consA (vD 20) (DL.ret [])))))))
noncomputable def i4 : MS := (ifS (toB (op2 neD (vD 10) (compD [20] (rangeI2 (consL (cD (.int 0)) (consL (op2 addA (vD 4) (cD (.int 1))) (DL.ret [])))) (.nm 20) (DL.ret true) (callD f__law_cost (consA (vD 3) (consA (sliceD (vD 8) (DL.ret none) (someI (vD 20))) (DL.ret []))))))) (retS (cD (.bool false))) (DL.ret .nx))
noncomputable def i5 : MS := (appS 5 (callN tupleD (consL (sliceD (vD 10) (someI (cD (.int 1))) (DL.ret none)) (DL.ret []))))
noncomputable def q5b : MS := seqS i0 (seqS i1 (seqS i2 (seqS i3 (seqS i4 i5))))
noncomputable def q5 : MS := forS (seqI (tupD (consL (cD (.bool false)) (consL (cD (.bool true)) (DL.ret []))))) (.nm 7) q5b
noncomputable def q6 : MS := (asgS 11 (tupO 5))
noncomputable def q7 : MS := (ifS (toB (op2 neD (callD f_least_costs (consA (vD 11) (DL.ret []))) (vD 6))) (retS (cD (.bool false))) (DL.ret .nx))
noncomputable def k0 : MS := (asgS 13 (callD f_way_share (consA (vD 11) (consA (vD 12) (DL.ret [])))))
noncomputable def k1 : MS := (ifS (andT (toB (op2 gtI (callN (altN max1L max1T) (consL (vD 6) (DL.ret []))) (cD (.int 0)))) (andT (orT (toB (op2 isD (vD 13) (cD .none))) (toB (op2 gtI (op2 ixD (vD 13) (cD (.int 0))) (op2 mulS (cD (.int 2)) (op2 ixD (vD 13) (cD (.int 1))))))) (toB (op2 notInD (cD (.int 0)) (vD 6))))) (retS (cD (.bool false))) (DL.ret .nx))
noncomputable def k2 : MS := (ifS (toB (op2 neD (compD [22, 23] (zipI (consL (op2 ixD (vD 11) (vD 12)) (consL (vD 6) (DL.ret [])))) (.tp [(.nm 22), (.nm 23)]) (toB (op2 gtI (vD 22) (op2 mulS (cD (.int 2)) (vD 23)))) (cD (.int 1))) (lstD (DL.ret [])))) (retS (cD (.bool false))) (DL.ret .nx))
noncomputable def k3 : MS := (ifS (andT (toB (op2 notIsD (vD 13) (cD .none))) (toB (op2 notIsD (callD f_judge_share (consA (vD 11) (consA (vD 13) (consA (tupD (consL (cD (.str "way")) (consL (vD 12) (DL.ret [])))) (DL.ret []))))) (cD .none)))) (retS (cD (.bool false))) (DL.ret .nx))
noncomputable def q8b : MS := seqS k0 (seqS k1 (seqS k2 k3))
noncomputable def q8 : MS := forS (seqI (tupD (consL (callN lenD (consL (vD 3) (DL.ret []))) (consL (op2 addA (callN lenD (consL (vD 3) (DL.ret []))) (cD (.int 1))) (DL.ret []))))) (.nm 12) q8b
noncomputable def q9 : MS := (asgS 14 (callD f_kept_ways (consA (vD 11) (DL.ret []))))
noncomputable def q10 : MS := (ifS (toB (op2 neD (callD f_least_costs (consA (callN tupleD (consL (compD [12] (seqI (vD 14)) (.nm 12) (DL.ret true) (op2 ixD (vD 11) (vD 12))) (DL.ret []))) (DL.ret []))) (vD 6))) (retS (cD (.bool false))) (DL.ret .nx))
noncomputable def q11 : MS := (par2 15 16 (consL (callD f__law_pick (srcA 1 (consA (callN lenD (consL (vD 11) (DL.ret []))) (DL.ret [])))) (consL (callD f__law_pick (srcA 1 (consA (callN lenD (consL (vD 11) (DL.ret []))) (DL.ret [])))) (DL.ret []))))
noncomputable def q12 : MS := (ifS (andT (toB (op2 neD (vD 15) (vD 16))) (toB (op2 neD (callD f_is_no_better (consA (vD 11) (consA (vD 15) (consA (vD 16) (DL.ret []))))) (op2 eqD (compD [24, 25] (zipI (consL (op2 ixD (vD 11) (vD 15)) (consL (op2 ixD (vD 11) (vD 16)) (DL.ret [])))) (.tp [(.nm 24), (.nm 25)]) (toB (op2 ltI (vD 24) (vD 25))) (cD (.int 1))) (lstD (DL.ret [])))))) (retS (cD (.bool false))) (DL.ret .nx))
noncomputable def q13 : MS := (asgS 17 (op2 addA (cD (.int 1)) (callD f__law_pick (srcA 1 (consA (cD (.int 30)) (DL.ret []))))))
noncomputable def q14 : MS := (asgS 18 (tupD (consL (tupD (consL (cD (.int 0)) (consL (cD (.int 1)) (DL.ret [])))) (consL (tupD (consL (vD 17) (consL (cD (.int 0)) (DL.ret [])))) (DL.ret [])))))
noncomputable def q15 : MS := (ifS (toB (op2 neD (compD [20] (rangeI1 (consL (op2 addA (vD 4) (cD (.int 1))) (DL.ret []))) (.nm 20) (DL.ret true) (callD f_told_cost (consA (vD 18) (consA (vD 20) (DL.ret []))))) (compD [20] (rangeI1 (consL (op2 addA (vD 4) (cD (.int 1))) (DL.ret []))) (.nm 20) (DL.ret true) (callD f_rent_cost (consA (vD 17) (consA (op2 addA (vD 17) (cD (.int 1))) (consA (vD 20) (DL.ret [])))))))) (retS (cD (.bool false))) (DL.ret .nx))
noncomputable def q16 : MS := (ifS (toB (op2 neD (compD [20] (rangeI1 (consL (op2 addA (vD 4) (cD (.int 1))) (DL.ret []))) (.nm 20) (DL.ret true) (callD f_eager_cost (consA (vD 18) (consA (vD 20) (DL.ret []))))) (compD [20] (rangeI1 (consL (op2 addA (vD 4) (cD (.int 1))) (DL.ret []))) (.nm 20) (DL.ret true) (callD f_rent_cost (consA (vD 17) (consA (vD 17) (consA (vD 20) (DL.ret [])))))))) (retS (cD (.bool false))) (DL.ret .nx))
noncomputable def q17 : MS := (ifS (toB (op2 neD (compD [20] (rangeI1 (consL (op2 addA (vD 4) (cD (.int 1))) (DL.ret []))) (.nm 20) (DL.ret true) (callD f_least_have (consA (vD 18) (consA (vD 20) (DL.ret []))))) (compD [20] (rangeI1 (consL (op2 addA (vD 4) (cD (.int 1))) (DL.ret []))) (.nm 20) (DL.ret true) (callN min2D (consL (vD 20) (consL (vD 17) (DL.ret []))))))) (retS (cD (.bool false))) (DL.ret .nx))
noncomputable def q18 : MS := (asgS 10 (callD f_rent_table (consA (vD 17) (consA (cD (.int 1)) (consA (vD 4) (DL.ret []))))))
noncomputable def q19 : MS := (asgS 19 (callD f_share_paper (consA (vD 10) (consA (tupD (consL (cD (.int 2)) (consL (cD (.int 1)) (DL.ret [])))) (DL.ret [])))))
noncomputable def q20 : MS := (ifS (orT (toB (op2 neD (callD f_least_costs (consA (vD 10) (DL.ret []))) (callN tupleD (consL (compD [20] (rangeI2 (consL (cD (.int 1)) (consL (op2 addA (vD 4) (cD (.int 1))) (DL.ret [])))) (.nm 20) (DL.ret true) (callN min2D (consL (vD 20) (consL (vD 17) (DL.ret []))))) (DL.ret []))))) (toB (op2 neD (op2 ixD (vD 19) (cD (.int 0))) (cD (.str "way"))))) (retS (cD (.bool false))) (DL.ret .nx))
noncomputable def qb : MS := (seqS q0 (seqS q1 (seqS q2 (seqS q3 (seqS q4 (seqS q5 (seqS q6 (seqS q7 (seqS q8 (seqS q9 (seqS q10 (seqS q11 (seqS q12 (seqS q13 (seqS q14 (seqS q15 (seqS q16 (seqS q17 (seqS q18 (seqS q19 q20))))))))))))))))))))
theorem d_law_eq : d_law = seqS (forS (rangeI1 (consL (cD (.int 2)) (DL.ret []))) (.nm 2) qb) (retS (cD (.bool true))) := rfl
/-- the days 0 .. n -/
abbrev dy0 (n : Nat) : List Int := (List.range (n + 1)).map fun (k : Nat) => (k : Int)
theorem r1_law {S : Sta} {n : Nat} (h4 : vD 4 S = some (.int (n : Nat), S)) (hn : n ≤ 1000) : rangeI2 (consL (cD (.int 1)) (consL (op2 addA (vD 4) (cD (.int 1))) (DL.ret []))) S = some ((dys n).map PyData.int, S) := by
  refine (ev_range2 (i := 1) (j := (n : Int) + 1) (e_cons rfl (e_one (e_op2 h4 rfl rfl))) (by omega)).trans ?_
  rw [show ((n : Int) + 1 - 1).toNat = n by omega, List.map_map]
  rfl
theorem r0_law {S : Sta} {n : Nat} (h4 : vD 4 S = some (.int (n : Nat), S)) (hn : n ≤ 1000) : rangeI2 (consL (cD (.int 0)) (consL (op2 addA (vD 4) (cD (.int 1))) (DL.ret []))) S = some ((dy0 n).map PyData.int, S) := by
  refine (ev_range2 (i := 0) (j := (n : Int) + 1) (e_cons rfl (e_one (e_op2 h4 rfl rfl))) (by omega)).trans ?_
  rw [show ((n : Int) + 1 - 0).toNat = n + 1 by omega, List.map_map]
  simp
theorem rr_law {S : Sta} {n : Nat} (h4 : vD 4 S = some (.int (n : Nat), S)) (hn : n ≤ 1000) : rangeI1 (consL (op2 addA (vD 4) (cD (.int 1))) (DL.ret [])) S = some ((dy0 n).map PyData.int, S) := by
  refine (ev_range1 (j := (n : Int) + 1) (e_one (e_op2 h4 rfl rfl)) (by omega)).trans ?_
  rw [show ((n : Int) + 1).toNat = n + 1 by omega, List.map_map]
  rfl
theorem e_forC {p : Pat} {b : MS} {d : D} {ds : List D} {S S1 : Sta} {env1 : List Slot} {r : Option (Out × Sta)} (h1 : p.bind d S.env = some env1) (h2 : b { S with env := env1 } = some (.nx, S1)) (h3 : DL.forM p b ds S1 = r) : DL.forM p b (d :: ds) S = r := by
  unfold DL.forM
  rw [h1]
  show bnd b _ { S with env := env1 } = _
  rw [bnd_eq h2]
  exact h3
theorem mapI (f : Int → Int) (xs : List Int) : (xs.map f).map PyData.int = xs.map fun d => PyData.int (f d) := List.map_map
theorem mapN (f : Int → Nat) (xs : List Int) : (xs.map f).map (fun (k : Nat) => PyData.int (k : Int)) = xs.map fun d => PyData.int ((f d : Nat) : Int) := List.map_map
/-- the states of the days, the costs by the days -/
def sS (th : List (Int × Int)) (σ : Int → Nat) (n : Nat) : List Nat := (dys n).map σ
def cS (th : List (Int × Int)) (σ : Int → Nat) (n : Nat) : List Int := (dy0 n).map fun d => cbs th ((dys d.toNat).map σ)
theorem sS_D (th : List (Int × Int)) (σ : Int → Nat) (n : Nat) : (sS th σ n).map (fun (k : Nat) => PyData.int (k : Int)) = (dys n).map fun d => PyData.int ((σ d : Nat) : Int) := mapN σ _
theorem cS_D (th : List (Int × Int)) (σ : Int → Nat) (n : Nat) : (cS th σ n).map PyData.int = (dy0 n).map fun d => PyData.int (cbs th ((dys d.toNat).map σ)) := mapI _ _
theorem L0 {j3 j4 j5 j6 j7 j8 j9 j10 j11 j12 j13 j14 j15 j16 j17 j18 j19 : Slot} (x2 : Slot) (s : Src) : ∃ (th : List (Int × Int)) (n : Nat) (s' : Src), ThOk th ∧ 1 ≤ n ∧ n ≤ 30 ∧ q0 ⟨[.un, .src, x2, j3, j4, j5, j6, j7, j8, j9, j10, j11, j12, j13, j14, j15, j16, j17, j18, j19, .un, .un, .un, .un, .un, .un], s⟩ = some (.nx, ⟨[.un, .src, x2, .fz (thD th), .fz (.int (n : Nat)), j5, j6, j7, j8, j9, j10, j11, j12, j13, j14, j15, j16, j17, j18, j19, .un, .un, .un, .un, .un, .un], s'⟩) := by
  obtain ⟨th, s1, h1, ok⟩ := E_law_things s
  have b2 := pickS_bd 30 s1
  generalize hq2 : pickS 30 s1 = q2 at b2
  obtain ⟨k2, s2⟩ := q2
  simp only at b2
  obtain ⟨n, hn⟩ : ∃ n : Nat, (1 + k2 : Int) = (n : Int) := ⟨(1 + k2).toNat, by omega⟩
  refine ⟨th, n, s2, ok, by omega, by omega, ?_⟩
  unfold q0 unpS
  have p1 : callD f__law_pick (srcA 1 (consA (cD (.int 30)) (DL.ret []))) ⟨[.un, .src, x2, j3, j4, j5, j6, j7, j8, j9, j10, j11, j12, j13, j14, j15, j16, j17, j18, j19, .un, .un, .un, .un, .un, .un], s1⟩ = some (.int k2, ⟨[.un, .src, x2, j3, j4, j5, j6, j7, j8, j9, j10, j11, j12, j13, j14, j15, j16, j17, j18, j19, .un, .un, .un, .un, .un, .un], s2⟩) := by
    refine (e_call (S1 := ⟨[.un, .src, x2, j3, j4, j5, j6, j7, j8, j9, j10, j11, j12, j13, j14, j15, j16, j17, j18, j19, .un, .un, .un, .un, .un, .un], s1⟩) (as := [.src, .d (.int 30)]) rfl (E_pickF 30 (by decide) s1)).trans ?_
    rw [hq2]
  have p2 : tupD (consL (callD f__law_things (srcA 1 (DL.ret []))) (consL (op2 addA (cD (.int 1)) (callD f__law_pick (srcA 1 (consA (cD (.int 30)) (DL.ret []))))) (DL.ret []))) ⟨[.un, .src, x2, j3, j4, j5, j6, j7, j8, j9, j10, j11, j12, j13, j14, j15, j16, j17, j18, j19, .un, .un, .un, .un, .un, .un], s⟩ = some (.tuple [thD th, .int (n : Nat)], ⟨[.un, .src, x2, j3, j4, j5, j6, j7, j8, j9, j10, j11, j12, j13, j14, j15, j16, j17, j18, j19, .un, .un, .un, .un, .un, .un], s2⟩) := by
    refine e_tup (e_cons (S1 := ⟨[.un, .src, x2, j3, j4, j5, j6, j7, j8, j9, j10, j11, j12, j13, j14, j15, j16, j17, j18, j19, .un, .un, .un, .un, .un, .un], s1⟩) (e_call (S1 := ⟨[.un, .src, x2, j3, j4, j5, j6, j7, j8, j9, j10, j11, j12, j13, j14, j15, j16, j17, j18, j19, .un, .un, .un, .un, .un, .un], s⟩) (as := [.src]) rfl h1) (e_one (e_op2 (S1 := ⟨[.un, .src, x2, j3, j4, j5, j6, j7, j8, j9, j10, j11, j12, j13, j14, j15, j16, j17, j18, j19, .un, .un, .un, .un, .un, .un], s1⟩) (x := .int 1) (y := .int k2) rfl p1 ?_))) (show 2 ≤ 1000000 by decide)
    rw [← hn]
    rfl
  rw [bnd_eq p2]
  rfl
section
variable {th : List (Int × Int)} {n : Nat} {s : Src} {j2 j3 j4 j5 j6 j7 j8 j9 j10 j11 j12 j13 j14 j15 j16 j17 j18 j19 : Slot}
theorem L1 (h : ThOk th) : q1 ⟨[.un, .src, j2, .fz (thD th), .fz (.int (n : Nat)), j5, j6, j7, j8, j9, j10, j11, j12, j13, j14, j15, j16, j17, j18, j19, .un, .un, .un, .un, .un, .un], s⟩ = some (.nx, ⟨[.un, .src, j2, .fz (thD th), .fz (.int (n : Nat)), j5, j6, j7, j8, j9, j10, j11, j12, j13, j14, j15, j16, j17, j18, j19, .un, .un, .un, .un, .un, .un], s⟩) :=
  e_ifF (S1 := ⟨[.un, .src, j2, .fz (thD th), .fz (.int (n : Nat)), j5, j6, j7, j8, j9, j10, j11, j12, j13, j14, j15, j16, j17, j18, j19, .un, .un, .un, .un, .un, .un], s⟩) (e_toB (e_op2 (x := .bool true) (S1 := ⟨[.un, .src, j2, .fz (thD th), .fz (.int (n : Nat)), j5, j6, j7, j8, j9, j10, j11, j12, j13, j14, j15, j16, j17, j18, j19, .un, .un, .un, .un, .un, .un], s⟩) (e_call (S1 := ⟨[.un, .src, j2, .fz (thD th), .fz (.int (n : Nat)), j5, j6, j7, j8, j9, j10, j11, j12, j13, j14, j15, j16, j17, j18, j19, .un, .un, .un, .un, .un, .un], s⟩) (as := [.d (thD th)]) rfl (E_are_things h s)) rfl rfl)) rfl
theorem L2 (h : ThOk th) (n2 : n ≤ 30) (h18 : j18.isOwn = false) : q2 ⟨[.un, .src, j2, .fz (thD th), .fz (.int (n : Nat)), j5, j6, j7, j8, j9, j10, j11, j12, j13, j14, j15, j16, j17, j18, j19, .un, .un, .un, .un, .un, .un], s⟩ = some (.nx, ⟨[.un, .src, j2, .fz (thD th), .fz (.int (n : Nat)), .own ((R0 th n).map tI'), j6, j7, j8, j9, j10, j11, j12, j13, j14, j15, j16, j17, j18, j19, .un, .un, .un, .un, .un, .un], s⟩) := by
  have hl := h.len
  refine (e_asgN (S1 := ⟨[.un, .src, j2, .fz (thD th), .fz (.int (n : Nat)), j5, j6, j7, j8, j9, j10, j11, j12, j13, j14, j15, j16, j17, j18, j19, .un, .un, .un, .un, .un, .un], s⟩) (ys := (R0 th n).map tI') ?_).trans rfl
  refine (e_comp (s := s) (env := [.un, .src, j2, .fz (thD th), .fz (.int (n : Nat)), j5, j6, j7, j8, j9, j10, j11, j12, j13, j14, j15, j16, j17, j18, j19, .un, .un, .un, .un, .un, .un]) th pI (fun p => tI' ((dys n).map fun d => p.1 + d * p.2)) (e_seqI rfl rfl) ?_ (by omega) rfl fun p hp => ⟨[.un, .src, j2, .fz (thD th), .fz (.int (n : Nat)), j5, j6, j7, j8, j9, j10, j11, j12, j13, j14, j15, j16, j17, .fz (.int p.2), j19, .un, .fz (.int p.1), .un, .un, .un, .un], rfl, rfl, ?_⟩).trans ?_
  · show (!Slot.isOwn .un && (!j18.isOwn && true)) = true
    rw [h18]
    rfl
  · refine e_callN (e_one (d := lI ((dys n).map fun d => p.1 + d * p.2)) ?_) rfl
    refine (e_comp (s := s) (env := [.un, .src, j2, .fz (thD th), .fz (.int (n : Nat)), j5, j6, j7, j8, j9, j10, j11, j12, j13, j14, j15, j16, j17, .fz (.int p.2), j19, .un, .fz (.int p.1), .un, .un, .un, .un]) (dys n) PyData.int (fun d => .int (p.1 + d * p.2)) (r1_law rfl (by omega)) rfl (by simp; omega) rfl fun d hd => ⟨[.un, .src, j2, .fz (thD th), .fz (.int (n : Nat)), j5, j6, j7, j8, j9, j10, j11, j12, j13, j14, j15, j16, j17, .fz (.int p.2), j19, .fz (.int d), .fz (.int p.1), .un, .un, .un, .un], rfl, rfl, ?_⟩).trans ?_
    · exact e_op2 rfl (e_op2 rfl rfl (ev_mul (.inr (by have := h.bd p hp; omega)))) rfl
    · unfold lI
      rw [mapI]
  · unfold R0
    rw [List.map_map]
    rfl
theorem L3 (h : ThOk th) (n2 : n ≤ 30) : q3 ⟨[.un, .src, j2, .fz (thD th), .fz (.int (n : Nat)), .own ((R0 th n).map tI'), j6, j7, j8, j9, j10, j11, j12, j13, j14, j15, j16, j17, j18, j19, .un, .un, .un, .un, .un, .un], s⟩ = some (.nx, ⟨[.un, .src, j2, .fz (thD th), .fz (.int (n : Nat)), .own ((R0 th n).map tI'), .fz (tI' ((dys n).map (lh th))), j7, j8, j9, j10, j11, j12, j13, j14, j15, j16, j17, j18, j19, .un, .un, .un, .un, .un, .un], s⟩) := by
  refine (e_asg (S1 := ⟨[.un, .src, j2, .fz (thD th), .fz (.int (n : Nat)), .own ((R0 th n).map tI'), j6, j7, j8, j9, j10, j11, j12, j13, j14, j15, j16, j17, j18, j19, .un, .un, .un, .un, .un, .un], s⟩) (d := tI' ((dys n).map (lh th))) (e_callN (e_one (d := lI ((dys n).map (lh th))) ?_) rfl)).trans rfl
  refine (e_comp (s := s) (env := [.un, .src, j2, .fz (thD th), .fz (.int (n : Nat)), .own ((R0 th n).map tI'), j6, j7, j8, j9, j10, j11, j12, j13, j14, j15, j16, j17, j18, j19, .un, .un, .un, .un, .un, .un]) (dys n) PyData.int (fun d => .int (lh th d)) (r1_law rfl (by omega)) rfl (by simp; omega) rfl fun d hd => ⟨[.un, .src, j2, .fz (thD th), .fz (.int (n : Nat)), .own ((R0 th n).map tI'), j6, j7, j8, j9, j10, j11, j12, j13, j14, j15, j16, j17, j18, j19, .fz (.int d), .un, .un, .un, .un, .un], rfl, rfl, ?_⟩).trans ?_
  · exact e_call (S1 := ⟨[.un, .src, j2, .fz (thD th), .fz (.int (n : Nat)), .own ((R0 th n).map tI'), j6, j7, j8, j9, j10, j11, j12, j13, j14, j15, j16, j17, j18, j19, .fz (.int d), .un, .un, .un, .un, .un], s⟩) (as := [.d (thD th), .d (.int d)]) rfl (E_least_have h.sm d s)
  · unfold lI
    rw [mapI]
theorem L4 (h : ThOk th) (n1 : 1 ≤ n) (n2 : n ≤ 30) : q4 ⟨[.un, .src, j2, .fz (thD th), .fz (.int (n : Nat)), .own ((R0 th n).map tI'), .fz (tI' ((dys n).map (lh th))), j7, j8, j9, j10, j11, j12, j13, j14, j15, j16, j17, j18, j19, .un, .un, .un, .un, .un, .un], s⟩ = some (.nx, ⟨[.un, .src, j2, .fz (thD th), .fz (.int (n : Nat)), .own ((R0 th n).map tI'), .fz (tI' ((dys n).map (lh th))), j7, j8, j9, j10, j11, j12, j13, j14, j15, j16, j17, j18, j19, .un, .un, .un, .un, .un, .un], s⟩) := by
  have el := lcs_ext (rows := R0 th n) (n := n) (f := lh th) fun i hi => R0_le h hi
  refine e_ifF (S1 := ⟨[.un, .src, j2, .fz (thD th), .fz (.int (n : Nat)), .own ((R0 th n).map tI'), .fz (tI' ((dys n).map (lh th))), j7, j8, j9, j10, j11, j12, j13, j14, j15, j16, j17, j18, j19, .un, .un, .un, .un, .un, .un], s⟩) (e_or (k := false) (e_toB (e_op2 (x := tI' ((dys n).map (lh th))) (S1 := ⟨[.un, .src, j2, .fz (thD th), .fz (.int (n : Nat)), .own ((R0 th n).map tI'), .fz (tI' ((dys n).map (lh th))), j7, j8, j9, j10, j11, j12, j13, j14, j15, j16, j17, j18, j19, .un, .un, .un, .un, .un, .un], s⟩) ?_ rfl ((ne_tI _ _).trans ?_))) (fun _ => e_toB (e_op2 (x := .int 0) (S1 := ⟨[.un, .src, j2, .fz (thD th), .fz (.int (n : Nat)), .own ((R0 th n).map tI'), .fz (tI' ((dys n).map (lh th))), j7, j8, j9, j10, j11, j12, j13, j14, j15, j16, j17, j18, j19, .un, .un, .un, .un, .un, .un], s⟩) ?_ rfl ((DL.ne_int _ _).trans rfl))) (fun z => nomatch z)) rfl
  · have e0 := E_least_costs (R0_tb h n1 n2) s
    rw [el] at e0
    exact e_call (S1 := ⟨[.un, .src, j2, .fz (thD th), .fz (.int (n : Nat)), .own ((R0 th n).map tI'), .fz (tI' ((dys n).map (lh th))), j7, j8, j9, j10, j11, j12, j13, j14, j15, j16, j17, j18, j19, .un, .un, .un, .un, .un, .un], s⟩) (as := [.d (tbD (R0 th n))]) rfl e0
  · simp
  · refine (e_call (S1 := ⟨[.un, .src, j2, .fz (thD th), .fz (.int (n : Nat)), .own ((R0 th n).map tI'), .fz (tI' ((dys n).map (lh th))), j7, j8, j9, j10, j11, j12, j13, j14, j15, j16, j17, j18, j19, .un, .un, .un, .un, .un, .un], s⟩) (as := [.d (thD th), .d (.int 0)]) rfl (E_least_have h.sm 0 s)).trans ?_
    rw [lh_zero h]
end
section
variable {th : List (Int × Int)} {n : Nat} {s : Src} {rs : List (List Int)} {e : Bool} {l6 : Slot} {j2 j3 j4 j5 j7 j8 j9 j10 j11 j12 j13 j14 j15 j16 j17 j18 j19 : Slot}
theorem M0 (h : ThOk th) (n2 : n ≤ 30) : i0 ⟨[.un, .src, j2, .fz (thD th), .fz (.int (n : Nat)), .own (rs.map tI'), l6, .fz (.bool e), j8, j9, j10, j11, j12, j13, j14, j15, j16, j17, j18, j19, .un, .un, .un, .un, .un, .un], s⟩ = some (.nx, ⟨[.un, .src, j2, .fz (thD th), .fz (.int (n : Nat)), .own (rs.map tI'), l6, .fz (.bool e), .own ((sS th (if e then es th else ts th) n).map fun (k : Nat) => PyData.int (k : Int)), j9, j10, j11, j12, j13, j14, j15, j16, j17, j18, j19, .un, .un, .un, .un, .un, .un], s⟩) := by
  refine (e_asgN (S1 := ⟨[.un, .src, j2, .fz (thD th), .fz (.int (n : Nat)), .own (rs.map tI'), l6, .fz (.bool e), j8, j9, j10, j11, j12, j13, j14, j15, j16, j17, j18, j19, .un, .un, .un, .un, .un, .un], s⟩) (ys := (sS th (if e then es th else ts th) n).map fun (k : Nat) => PyData.int (k : Int)) ?_).trans rfl
  refine (e_comp (s := s) (env := [.un, .src, j2, .fz (thD th), .fz (.int (n : Nat)), .own (rs.map tI'), l6, .fz (.bool e), j8, j9, j10, j11, j12, j13, j14, j15, j16, j17, j18, j19, .un, .un, .un, .un, .un, .un]) (dys n) PyData.int (fun d => .int (((if e then es th else ts th) d : Nat) : Int)) (r1_law rfl (by omega)) rfl (by simp; omega) rfl fun d hd => ⟨[.un, .src, j2, .fz (thD th), .fz (.int (n : Nat)), .own (rs.map tI'), l6, .fz (.bool e), j8, j9, j10, j11, j12, j13, j14, j15, j16, j17, j18, j19, .fz (.int d), .un, .un, .un, .un, .un], rfl, rfl, ?_⟩).trans ?_
  · obtain ⟨i, hi, rfl⟩ := List.mem_map.mp hd
    have hi' := List.mem_range.mp hi
    refine (e_call (S1 := ⟨[.un, .src, j2, .fz (thD th), .fz (.int (n : Nat)), .own (rs.map tI'), l6, .fz (.bool e), j8, j9, j10, j11, j12, j13, j14, j15, j16, j17, j18, j19, .fz (.int (1 + (i : Int))), .un, .un, .un, .un, .un], s⟩) (as := [.d (thD th), .d (.int (1 + (i : Int))), .d (.bool e)]) rfl (E_law_state h.sm (1 + (i : Int)) (by omega) e s)).trans ?_
    cases e <;> rfl
  · rw [sS_D]
theorem M1 (h : ThOk th) (n2 : n ≤ 30) : i1 ⟨[.un, .src, j2, .fz (thD th), .fz (.int (n : Nat)), .own (rs.map tI'), l6, .fz (.bool e), .own ((sS th (if e then es th else ts th) n).map fun (k : Nat) => PyData.int (k : Int)), j9, j10, j11, j12, j13, j14, j15, j16, j17, j18, j19, .un, .un, .un, .un, .un, .un], s⟩ = some (.nx, ⟨[.un, .src, j2, .fz (thD th), .fz (.int (n : Nat)), .own (rs.map tI'), l6, .fz (.bool e), .own ((sS th (if e then es th else ts th) n).map fun (k : Nat) => PyData.int (k : Int)), .own ((sS th (if e then es th else ts th) n).map fun (k : Nat) => PyData.int (k : Int)), j10, j11, j12, j13, j14, j15, j16, j17, j18, j19, .un, .un, .un, .un, .un, .un], s⟩) := by
  refine (e_asgN (S1 := ⟨[.un, .src, j2, .fz (thD th), .fz (.int (n : Nat)), .own (rs.map tI'), l6, .fz (.bool e), .own ((sS th (if e then es th else ts th) n).map fun (k : Nat) => PyData.int (k : Int)), j9, j10, j11, j12, j13, j14, j15, j16, j17, j18, j19, .un, .un, .un, .un, .un, .un], s⟩) (ys := (sS th (if e then es th else ts th) n).map fun (k : Nat) => PyData.int (k : Int)) ?_).trans rfl
  refine (e_comp (s := s) (env := [.un, .src, j2, .fz (thD th), .fz (.int (n : Nat)), .own (rs.map tI'), l6, .fz (.bool e), .own ((sS th (if e then es th else ts th) n).map fun (k : Nat) => PyData.int (k : Int)), j9, j10, j11, j12, j13, j14, j15, j16, j17, j18, j19, .un, .un, .un, .un, .un, .un]) (dys n) PyData.int (fun d => .int (((if e then es th else ts th) d : Nat) : Int)) (r1_law rfl (by omega)) rfl (by simp; omega) rfl fun d hd => ⟨[.un, .src, j2, .fz (thD th), .fz (.int (n : Nat)), .own (rs.map tI'), l6, .fz (.bool e), .own ((sS th (if e then es th else ts th) n).map fun (k : Nat) => PyData.int (k : Int)), j9, j10, j11, j12, j13, j14, j15, j16, j17, j18, j19, .fz (.int d), .un, .un, .un, .un, .un], rfl, rfl, ?_⟩).trans ?_
  · cases e with
    | true => exact e_ifDT (e_toB rfl) (e_call (S1 := ⟨[.un, .src, j2, .fz (thD th), .fz (.int (n : Nat)), .own (rs.map tI'), l6, .fz (.bool true), .own ((sS th (if true then es th else ts th) n).map fun (k : Nat) => PyData.int (k : Int)), j9, j10, j11, j12, j13, j14, j15, j16, j17, j18, j19, .fz (.int d), .un, .un, .un, .un, .un], s⟩) (as := [.d (thD th), .d (.int d)]) rfl (E_eager_state h.sm d s))
    | false => exact e_ifDF (e_toB rfl) (e_call (S1 := ⟨[.un, .src, j2, .fz (thD th), .fz (.int (n : Nat)), .own (rs.map tI'), l6, .fz (.bool false), .own ((sS th (if false then es th else ts th) n).map fun (k : Nat) => PyData.int (k : Int)), j9, j10, j11, j12, j13, j14, j15, j16, j17, j18, j19, .fz (.int d), .un, .un, .un, .un, .un], s⟩) (as := [.d (thD th), .d (.int d)]) rfl (E_told_state h.sm d s))
  · rw [sS_D]
theorem arg_sg (h : ThOk th) : Arg th (if e then es th else ts th) := by
  cases e
  · exact arg_ts h.sm
  · exact arg_es h.sm
theorem st_sorted (h : ThOk th) : sortI ((sS th (if e then es th else ts th) n).map fun (k : Nat) => (k : Int)) = (sS th (if e then es th else ts th) n).map fun (k : Nat) => (k : Int) := by
  refine sorted_uniq (sortI_perm _) (sortI_sorted _) ?_
  unfold sS
  rw [List.map_map, List.map_map, List.pairwise_map]
  refine List.Pairwise.imp (fun {a b} hab => ?_) (List.pairwise_lt_range (n := n))
  have := arg_mono h (arg_sg (e := e) h) (show 1 + (a : Int) ≤ 1 + (b : Int) by omega)
  show ((((if e then es th else ts th) (1 + (a : Int)) : Nat)) : Int) ≤ (((if e then es th else ts th) (1 + (b : Int)) : Nat) : Int)
  omega
theorem M2 (h : ThOk th) : i2 ⟨[.un, .src, j2, .fz (thD th), .fz (.int (n : Nat)), .own (rs.map tI'), l6, .fz (.bool e), .own ((sS th (if e then es th else ts th) n).map fun (k : Nat) => PyData.int (k : Int)), .own ((sS th (if e then es th else ts th) n).map fun (k : Nat) => PyData.int (k : Int)), j10, j11, j12, j13, j14, j15, j16, j17, j18, j19, .un, .un, .un, .un, .un, .un], s⟩ = some (.nx, ⟨[.un, .src, j2, .fz (thD th), .fz (.int (n : Nat)), .own (rs.map tI'), l6, .fz (.bool e), .fz (lN (sS th (if e then es th else ts th) n)), .fz (lN (sS th (if e then es th else ts th) n)), j10, j11, j12, j13, j14, j15, j16, j17, j18, j19, .un, .un, .un, .un, .un, .un], s⟩) := by
  refine e_ifF (S1 := ⟨[.un, .src, j2, .fz (thD th), .fz (.int (n : Nat)), .own (rs.map tI'), l6, .fz (.bool e), .fz (lN (sS th (if e then es th else ts th) n)), .fz (lN (sS th (if e then es th else ts th) n)), j10, j11, j12, j13, j14, j15, j16, j17, j18, j19, .un, .un, .un, .un, .un, .un], s⟩) (e_or (k := false) (S1 := ⟨[.un, .src, j2, .fz (thD th), .fz (.int (n : Nat)), .own (rs.map tI'), l6, .fz (.bool e), .fz (lN (sS th (if e then es th else ts th) n)), .fz (lN (sS th (if e then es th else ts th) n)), j10, j11, j12, j13, j14, j15, j16, j17, j18, j19, .un, .un, .un, .un, .un, .un], s⟩) (e_toB (e_op2 (x := lN (sS th (if e then es th else ts th) n)) (y := lN (sS th (if e then es th else ts th) n)) (S1 := ⟨[.un, .src, j2, .fz (thD th), .fz (.int (n : Nat)), .own (rs.map tI'), l6, .fz (.bool e), .own ((sS th (if e then es th else ts th) n).map fun (k : Nat) => PyData.int (k : Int)), .fz (lN (sS th (if e then es th else ts th) n)), j10, j11, j12, j13, j14, j15, j16, j17, j18, j19, .un, .un, .un, .un, .un, .un], s⟩) rfl rfl ?_)) (fun _ => e_toB (e_op2 (x := lN (sS th (if e then es th else ts th) n)) (y := lN (sS th (if e then es th else ts th) n)) (S1 := ⟨[.un, .src, j2, .fz (thD th), .fz (.int (n : Nat)), .own (rs.map tI'), l6, .fz (.bool e), .fz (lN (sS th (if e then es th else ts th) n)), .fz (lN (sS th (if e then es th else ts th) n)), j10, j11, j12, j13, j14, j15, j16, j17, j18, j19, .un, .un, .un, .un, .un, .un], s⟩) rfl (e_callN (e_one rfl) ?_) ?_)) (fun z => nomatch z)) rfl
  · rw [lN_lI]
    exact (ne_lI _ _).trans (by simp)
  · rw [lN_lI]
    show (intsOf (((sS th (if e then es th else ts th) n).map fun (k : Nat) => (k : Int)).map PyData.int)).map _ = _
    rw [intsOf_map]
    show some (PyData.list ((sortI _).map PyData.int)) = _
    rw [st_sorted h]
  · rw [lN_lI]
    exact (ne_lI _ _).trans (by simp)
theorem M3 (h : ThOk th) (n2 : n ≤ 30) : i3 ⟨[.un, .src, j2, .fz (thD th), .fz (.int (n : Nat)), .own (rs.map tI'), l6, .fz (.bool e), .fz (lN (sS th (if e then es th else ts th) n)), .fz (lN (sS th (if e then es th else ts th) n)), j10, j11, j12, j13, j14, j15, j16, j17, j18, j19, .un, .un, .un, .un, .un, .un], s⟩ = some (.nx, ⟨[.un, .src, j2, .fz (thD th), .fz (.int (n : Nat)), .own (rs.map tI'), l6, .fz (.bool e), .fz (lN (sS th (if e then es th else ts th) n)), .fz (lN (sS th (if e then es th else ts th) n)), .own ((cS th (if e then es th else ts th) n).map PyData.int), j11, j12, j13, j14, j15, j16, j17, j18, j19, .un, .un, .un, .un, .un, .un], s⟩) := by
  refine (e_asgN (S1 := ⟨[.un, .src, j2, .fz (thD th), .fz (.int (n : Nat)), .own (rs.map tI'), l6, .fz (.bool e), .fz (lN (sS th (if e then es th else ts th) n)), .fz (lN (sS th (if e then es th else ts th) n)), j10, j11, j12, j13, j14, j15, j16, j17, j18, j19, .un, .un, .un, .un, .un, .un], s⟩) (ys := (cS th (if e then es th else ts th) n).map PyData.int) ?_).trans rfl
  refine (e_comp (s := s) (env := [.un, .src, j2, .fz (thD th), .fz (.int (n : Nat)), .own (rs.map tI'), l6, .fz (.bool e), .fz (lN (sS th (if e then es th else ts th) n)), .fz (lN (sS th (if e then es th else ts th) n)), j10, j11, j12, j13, j14, j15, j16, j17, j18, j19, .un, .un, .un, .un, .un, .un]) (dy0 n) PyData.int (fun d => .int (cbs th ((dys d.toNat).map (if e then es th else ts th)))) (r0_law rfl (by omega)) rfl (by simp; omega) rfl fun d hd => ⟨[.un, .src, j2, .fz (thD th), .fz (.int (n : Nat)), .own (rs.map tI'), l6, .fz (.bool e), .fz (lN (sS th (if e then es th else ts th) n)), .fz (lN (sS th (if e then es th else ts th) n)), j10, j11, j12, j13, j14, j15, j16, j17, j18, j19, .fz (.int d), .un, .un, .un, .un, .un], rfl, rfl, ?_⟩).trans ?_
  · obtain ⟨i, hi, rfl⟩ := List.mem_map.mp hd
    have hi' := List.mem_range.mp hi
    cases e with
    | true => exact e_ifDT (e_toB rfl) (e_call (S1 := ⟨[.un, .src, j2, .fz (thD th), .fz (.int (n : Nat)), .own (rs.map tI'), l6, .fz (.bool true), .fz (lN (sS th (if true then es th else ts th) n)), .fz (lN (sS th (if true then es th else ts th) n)), j10, j11, j12, j13, j14, j15, j16, j17, j18, j19, .fz (.int (i : Nat)), .un, .un, .un, .un, .un], s⟩) (as := [.d (thD th), .d (.int (i : Nat))]) rfl (E_eager_cost h.sm i (by omega) s))
    | false => exact e_ifDF (e_toB rfl) (e_call (S1 := ⟨[.un, .src, j2, .fz (thD th), .fz (.int (n : Nat)), .own (rs.map tI'), l6, .fz (.bool false), .fz (lN (sS th (if false then es th else ts th) n)), .fz (lN (sS th (if false then es th else ts th) n)), j10, j11, j12, j13, j14, j15, j16, j17, j18, j19, .fz (.int (i : Nat)), .un, .un, .un, .un, .un], s⟩) (as := [.d (thD th), .d (.int (i : Nat))]) rfl (E_told_cost h.sm i (by omega) s))
  · rw [cS_D]
theorem M4 (h : ThOk th) (n2 : n ≤ 30) : i4 ⟨[.un, .src, j2, .fz (thD th), .fz (.int (n : Nat)), .own (rs.map tI'), l6, .fz (.bool e), .fz (lN (sS th (if e then es th else ts th) n)), .fz (lN (sS th (if e then es th else ts th) n)), .own ((cS th (if e then es th else ts th) n).map PyData.int), j11, j12, j13, j14, j15, j16, j17, j18, j19, .un, .un, .un, .un, .un, .un], s⟩ = some (.nx, ⟨[.un, .src, j2, .fz (thD th), .fz (.int (n : Nat)), .own (rs.map tI'), l6, .fz (.bool e), .fz (lN (sS th (if e then es th else ts th) n)), .fz (lN (sS th (if e then es th else ts th) n)), .fz (lI (cS th (if e then es th else ts th) n)), j11, j12, j13, j14, j15, j16, j17, j18, j19, .un, .un, .un, .un, .un, .un], s⟩) := by
  refine e_ifF (S1 := ⟨[.un, .src, j2, .fz (thD th), .fz (.int (n : Nat)), .own (rs.map tI'), l6, .fz (.bool e), .fz (lN (sS th (if e then es th else ts th) n)), .fz (lN (sS th (if e then es th else ts th) n)), .fz (lI (cS th (if e then es th else ts th) n)), j11, j12, j13, j14, j15, j16, j17, j18, j19, .un, .un, .un, .un, .un, .un], s⟩) (e_toB (e_op2 (x := lI (cS th (if e then es th else ts th) n)) (y := lI (cS th (if e then es th else ts th) n)) (S1 := ⟨[.un, .src, j2, .fz (thD th), .fz (.int (n : Nat)), .own (rs.map tI'), l6, .fz (.bool e), .fz (lN (sS th (if e then es th else ts th) n)), .fz (lN (sS th (if e then es th else ts th) n)), .fz (lI (cS th (if e then es th else ts th) n)), j11, j12, j13, j14, j15, j16, j17, j18, j19, .un, .un, .un, .un, .un, .un], s⟩) rfl ?_ ((ne_lI _ _).trans (by simp)))) rfl
  refine (e_comp (s := s) (env := [.un, .src, j2, .fz (thD th), .fz (.int (n : Nat)), .own (rs.map tI'), l6, .fz (.bool e), .fz (lN (sS th (if e then es th else ts th) n)), .fz (lN (sS th (if e then es th else ts th) n)), .fz (lI (cS th (if e then es th else ts th) n)), j11, j12, j13, j14, j15, j16, j17, j18, j19, .un, .un, .un, .un, .un, .un]) (dy0 n) PyData.int (fun d => .int (cbs th ((dys d.toNat).map (if e then es th else ts th)))) (r0_law rfl (by omega)) rfl (by simp; omega) rfl fun d hd => ⟨[.un, .src, j2, .fz (thD th), .fz (.int (n : Nat)), .own (rs.map tI'), l6, .fz (.bool e), .fz (lN (sS th (if e then es th else ts th) n)), .fz (lN (sS th (if e then es th else ts th) n)), .fz (lI (cS th (if e then es th else ts th) n)), j11, j12, j13, j14, j15, j16, j17, j18, j19, .fz (.int d), .un, .un, .un, .un, .un], rfl, rfl, ?_⟩).trans ?_
  · obtain ⟨i, hi, rfl⟩ := List.mem_map.mp hd
    have hi' := List.mem_range.mp hi
    have hcut : sliceD (vD 8) (DL.ret none) (someI (vD 20)) ⟨[.un, .src, j2, .fz (thD th), .fz (.int (n : Nat)), .own (rs.map tI'), l6, .fz (.bool e), .fz (lN (sS th (if e then es th else ts th) n)), .fz (lN (sS th (if e then es th else ts th) n)), .fz (lI (cS th (if e then es th else ts th) n)), j11, j12, j13, j14, j15, j16, j17, j18, j19, .fz (.int (i : Nat)), .un, .un, .un, .un, .un], s⟩ = some (lN ((dys i).map (if e then es th else ts th)), ⟨[.un, .src, j2, .fz (thD th), .fz (.int (n : Nat)), .own (rs.map tI'), l6, .fz (.bool e), .fz (lN (sS th (if e then es th else ts th) n)), .fz (lN (sS th (if e then es th else ts th) n)), .fz (lI (cS th (if e then es th else ts th) n)), j11, j12, j13, j14, j15, j16, j17, j18, j19, .fz (.int (i : Nat)), .un, .un, .un, .un, .un], s⟩) := by
      unfold sliceD
      rw [bnd_eq (show vD 8 ⟨[.un, .src, j2, .fz (thD th), .fz (.int (n : Nat)), .own (rs.map tI'), l6, .fz (.bool e), .fz (lN (sS th (if e then es th else ts th) n)), .fz (lN (sS th (if e then es th else ts th) n)), .fz (lI (cS th (if e then es th else ts th) n)), j11, j12, j13, j14, j15, j16, j17, j18, j19, .fz (.int (i : Nat)), .un, .un, .un, .un, .un], s⟩ = some (lN (sS th (if e then es th else ts th) n), ⟨[.un, .src, j2, .fz (thD th), .fz (.int (n : Nat)), .own (rs.map tI'), l6, .fz (.bool e), .fz (lN (sS th (if e then es th else ts th) n)), .fz (lN (sS th (if e then es th else ts th) n)), .fz (lI (cS th (if e then es th else ts th) n)), j11, j12, j13, j14, j15, j16, j17, j18, j19, .fz (.int (i : Nat)), .un, .un, .un, .un, .un], s⟩) from rfl), bnd_eq (show (DL.ret (none : Option Int)) (⟨[.un, .src, j2, .fz (thD th), .fz (.int (n : Nat)), .own (rs.map tI'), l6, .fz (.bool e), .fz (lN (sS th (if e then es th else ts th) n)), .fz (lN (sS th (if e then es th else ts th) n)), .fz (lI (cS th (if e then es th else ts th) n)), j11, j12, j13, j14, j15, j16, j17, j18, j19, .fz (.int (i : Nat)), .un, .un, .un, .un, .un], s⟩ : Sta) = some (none, ⟨[.un, .src, j2, .fz (thD th), .fz (.int (n : Nat)), .own (rs.map tI'), l6, .fz (.bool e), .fz (lN (sS th (if e then es th else ts th) n)), .fz (lN (sS th (if e then es th else ts th) n)), .fz (lI (cS th (if e then es th else ts th) n)), j11, j12, j13, j14, j15, j16, j17, j18, j19, .fz (.int (i : Nat)), .un, .un, .un, .un, .un], s⟩) from rfl), bnd_eq (show someI (vD 20) ⟨[.un, .src, j2, .fz (thD th), .fz (.int (n : Nat)), .own (rs.map tI'), l6, .fz (.bool e), .fz (lN (sS th (if e then es th else ts th) n)), .fz (lN (sS th (if e then es th else ts th) n)), .fz (lI (cS th (if e then es th else ts th) n)), j11, j12, j13, j14, j15, j16, j17, j18, j19, .fz (.int (i : Nat)), .un, .un, .un, .un, .un], s⟩ = some (some ((i : Nat) : Int), ⟨[.un, .src, j2, .fz (thD th), .fz (.int (n : Nat)), .own (rs.map tI'), l6, .fz (.bool e), .fz (lN (sS th (if e then es th else ts th) n)), .fz (lN (sS th (if e then es th else ts th) n)), .fz (lI (cS th (if e then es th else ts th) n)), j11, j12, j13, j14, j15, j16, j17, j18, j19, .fz (.int (i : Nat)), .un, .un, .un, .un, .un], s⟩) from rfl)]
      show some (PyData.list (DL.cutD ((sS th (if e then es th else ts th) n).map fun (k : Nat) => PyData.int (k : Int)) none (some ((i : Nat) : Int))), _) = _
      rw [cut_to (by simp [sS]; omega), ← List.map_take]
      unfold sS
      rw [← List.map_take]
      have et : (dys n).take i = dys i := by
        unfold dys
        rw [← List.map_take, List.take_range, Nat.min_eq_left (by omega)]
      rw [et]
    exact e_call (S1 := ⟨[.un, .src, j2, .fz (thD th), .fz (.int (n : Nat)), .own (rs.map tI'), l6, .fz (.bool e), .fz (lN (sS th (if e then es th else ts th) n)), .fz (lN (sS th (if e then es th else ts th) n)), .fz (lI (cS th (if e then es th else ts th) n)), j11, j12, j13, j14, j15, j16, j17, j18, j19, .fz (.int (i : Nat)), .un, .un, .un, .un, .un], s⟩) (as := [.d (thD th), .d (lN ((dys i).map (if e then es th else ts th)))]) (e_consA rfl (e_consA (xs := []) hcut rfl)) (E_law_cost h.sm _ (by simp; omega) (fun k hk => by
      obtain ⟨d, _, rfl⟩ := List.mem_map.mp hk
      exact (arg_sg (e := e) h).lt d) s)
  · unfold lI
    rw [cS_D]
theorem M5 (hr : rs.length ≤ 1000) : i5 ⟨[.un, .src, j2, .fz (thD th), .fz (.int (n : Nat)), .own (rs.map tI'), l6, .fz (.bool e), .fz (lN (sS th (if e then es th else ts th) n)), .fz (lN (sS th (if e then es th else ts th) n)), .fz (lI (cS th (if e then es th else ts th) n)), j11, j12, j13, j14, j15, j16, j17, j18, j19, .un, .un, .un, .un, .un, .un], s⟩ = some (.nx, ⟨[.un, .src, j2, .fz (thD th), .fz (.int (n : Nat)), .own ((rs ++ [crow th (if e then es th else ts th) n]).map tI'), l6, .fz (.bool e), .fz (lN (sS th (if e then es th else ts th) n)), .fz (lN (sS th (if e then es th else ts th) n)), .fz (lI (cS th (if e then es th else ts th) n)), j11, j12, j13, j14, j15, j16, j17, j18, j19, .un, .un, .un, .un, .un, .un], s⟩) := by
  have hcut : sliceD (vD 10) (someI (cD (.int 1))) (DL.ret none) ⟨[.un, .src, j2, .fz (thD th), .fz (.int (n : Nat)), .own (rs.map tI'), l6, .fz (.bool e), .fz (lN (sS th (if e then es th else ts th) n)), .fz (lN (sS th (if e then es th else ts th) n)), .fz (lI (cS th (if e then es th else ts th) n)), j11, j12, j13, j14, j15, j16, j17, j18, j19, .un, .un, .un, .un, .un, .un], s⟩ = some (lI (crow th (if e then es th else ts th) n), ⟨[.un, .src, j2, .fz (thD th), .fz (.int (n : Nat)), .own (rs.map tI'), l6, .fz (.bool e), .fz (lN (sS th (if e then es th else ts th) n)), .fz (lN (sS th (if e then es th else ts th) n)), .fz (lI (cS th (if e then es th else ts th) n)), j11, j12, j13, j14, j15, j16, j17, j18, j19, .un, .un, .un, .un, .un, .un], s⟩) := by
    unfold sliceD
    rw [bnd_eq (show vD 10 ⟨[.un, .src, j2, .fz (thD th), .fz (.int (n : Nat)), .own (rs.map tI'), l6, .fz (.bool e), .fz (lN (sS th (if e then es th else ts th) n)), .fz (lN (sS th (if e then es th else ts th) n)), .fz (lI (cS th (if e then es th else ts th) n)), j11, j12, j13, j14, j15, j16, j17, j18, j19, .un, .un, .un, .un, .un, .un], s⟩ = some (lI (cS th (if e then es th else ts th) n), ⟨[.un, .src, j2, .fz (thD th), .fz (.int (n : Nat)), .own (rs.map tI'), l6, .fz (.bool e), .fz (lN (sS th (if e then es th else ts th) n)), .fz (lN (sS th (if e then es th else ts th) n)), .fz (lI (cS th (if e then es th else ts th) n)), j11, j12, j13, j14, j15, j16, j17, j18, j19, .un, .un, .un, .un, .un, .un], s⟩) from rfl), bnd_eq (show someI (cD (.int 1)) ⟨[.un, .src, j2, .fz (thD th), .fz (.int (n : Nat)), .own (rs.map tI'), l6, .fz (.bool e), .fz (lN (sS th (if e then es th else ts th) n)), .fz (lN (sS th (if e then es th else ts th) n)), .fz (lI (cS th (if e then es th else ts th) n)), j11, j12, j13, j14, j15, j16, j17, j18, j19, .un, .un, .un, .un, .un, .un], s⟩ = some (some 1, ⟨[.un, .src, j2, .fz (thD th), .fz (.int (n : Nat)), .own (rs.map tI'), l6, .fz (.bool e), .fz (lN (sS th (if e then es th else ts th) n)), .fz (lN (sS th (if e then es th else ts th) n)), .fz (lI (cS th (if e then es th else ts th) n)), j11, j12, j13, j14, j15, j16, j17, j18, j19, .un, .un, .un, .un, .un, .un], s⟩) from rfl), bnd_eq (show (DL.ret (none : Option Int)) (⟨[.un, .src, j2, .fz (thD th), .fz (.int (n : Nat)), .own (rs.map tI'), l6, .fz (.bool e), .fz (lN (sS th (if e then es th else ts th) n)), .fz (lN (sS th (if e then es th else ts th) n)), .fz (lI (cS th (if e then es th else ts th) n)), j11, j12, j13, j14, j15, j16, j17, j18, j19, .un, .un, .un, .un, .un, .un], s⟩ : Sta) = some (none, ⟨[.un, .src, j2, .fz (thD th), .fz (.int (n : Nat)), .own (rs.map tI'), l6, .fz (.bool e), .fz (lN (sS th (if e then es th else ts th) n)), .fz (lN (sS th (if e then es th else ts th) n)), .fz (lI (cS th (if e then es th else ts th) n)), j11, j12, j13, j14, j15, j16, j17, j18, j19, .un, .un, .un, .un, .un, .un], s⟩) from rfl)]
    show some (PyData.list (DL.cutD ((cS th (if e then es th else ts th) n).map PyData.int) (some 1) none), _) = _
    rw [cut_from1, ← List.map_drop]
    have et : (cS th (if e then es th else ts th) n).drop 1 = crow th (if e then es th else ts th) n := by
      unfold cS dy0 crow
      rw [List.range_succ_eq_map]
      simp
    rw [et]
  have hsz := sizeLine_eq
  unfold i5 appS
  show bnd _ _ _ = _
  rw [bnd_eq (e_callN (e_one hcut) (d := tI' (crow th (if e then es th else ts th) n)) rfl)]
  show (if (rs.map tI').length < sizeLine then some (Out.nx, (⟨[.un, .src, j2, .fz (thD th), .fz (.int (n : Nat)), .own (rs.map tI' ++ [tI' (crow th (if e then es th else ts th) n)]), l6, .fz (.bool e), .fz (lN (sS th (if e then es th else ts th) n)), .fz (lN (sS th (if e then es th else ts th) n)), .fz (lI (cS th (if e then es th else ts th) n)), j11, j12, j13, j14, j15, j16, j17, j18, j19, .un, .un, .un, .un, .un, .un], s⟩ : Sta)) else none) = _
  rw [if_pos (by rw [List.length_map]; omega), List.map_append]
  rfl
theorem M6 (h : ThOk th) (n2 : n ≤ 30) (hr : rs.length ≤ 1000) : q5b ⟨[.un, .src, j2, .fz (thD th), .fz (.int (n : Nat)), .own (rs.map tI'), l6, .fz (.bool e), j8, j9, j10, j11, j12, j13, j14, j15, j16, j17, j18, j19, .un, .un, .un, .un, .un, .un], s⟩ = some (.nx, ⟨[.un, .src, j2, .fz (thD th), .fz (.int (n : Nat)), .own ((rs ++ [crow th (if e then es th else ts th) n]).map tI'), l6, .fz (.bool e), .fz (lN (sS th (if e then es th else ts th) n)), .fz (lN (sS th (if e then es th else ts th) n)), .fz (lI (cS th (if e then es th else ts th) n)), j11, j12, j13, j14, j15, j16, j17, j18, j19, .un, .un, .un, .un, .un, .un], s⟩) :=
  e_seq (M0 h n2) (e_seq (M1 h n2) (e_seq (M2 h) (e_seq (M3 h n2) (e_seq (M4 h n2) (M5 hr)))))
end
end K46

-- part K46m
set_option Elab.async false
set_option linter.all false
set_option maxRecDepth 100000
set_option maxHeartbeats 2000000
namespace K46
open PySem PySem.Spec PyProof.Rows L2 RZ DL
theorem mapT {α : Type} (g : α → List Int) (xs : List α) : (xs.map g).map tI' = xs.map fun k => tI' (g k) := List.map_map
theorem mapO {α : Type} (xs : List α) : (xs.map fun _ => (1 : Int)).map PyData.int = xs.map fun _ => PyData.int 1 := List.map_map
theorem e_srcA {i : Nat} {m : MV (List DL.Arg)} {as : List DL.Arg} {S S1 : Sta} (h : S.env[i]? = some .src) (h2 : m S = some (as, S1)) : srcA i m S = some (.src :: as, S1) := by
  unfold srcA
  rw [h]
  show bnd m _ S = _
  rw [bnd_eq h2]
  rfl
theorem notIn0 {ns : List Int} (h : 0 ∈ ns) : notInD (.int 0) (tI' ns) = some (.bool false) := by
  show (if okD (tI' ns) = true ∧ okD (.int 0) = true then some (PyData.bool (!(ns.map PyData.int).any fun y => PyData.eqv y (.int 0))) else none) = _
  rw [if_pos ⟨ok_tI ns, by decide +kernel⟩]
  congr 2
  have : ((ns.map PyData.int).any fun y => PyData.eqv y (.int 0)) = true := by
    rw [List.any_eq_true]
    exact ⟨.int 0, List.mem_map.mpr ⟨0, h, rfl⟩, by simp [PyData.eqv]⟩
  rw [this]
  rfl
theorem ne_lI0 (ns : List Int) : neD (lI ns) (.list []) = some (.bool (decide (ns ≠ []))) := ne_lI ns []
theorem eq_lI0 (ns : List Int) : eqD (lI ns) (.list []) = some (.bool (decide (ns = []))) := eq_lI ns []
section
variable {th : List (Int × Int)} {n : Nat} {s : Src} {j2 j3 j4 j5 j6 j7 j8 j9 j10 j11 j12 j13 j14 j15 j16 j17 j18 j19 : Slot}
theorem L5 (h : ThOk th) (n2 : n ≤ 30) : ∃ y7 y8 y9 y10, q5 ⟨[.un, .src, j2, .fz (thD th), .fz (.int (n : Nat)), .own ((R0 th n).map tI'), .fz (tI' ((dys n).map (lh th))), j7, j8, j9, j10, j11, j12, j13, j14, j15, j16, j17, j18, j19, .un, .un, .un, .un, .un, .un], s⟩ = some (.nx, ⟨[.un, .src, j2, .fz (thD th), .fz (.int (n : Nat)), .own ((TB th n).map tI'), .fz (tI' ((dys n).map (lh th))), y7, y8, y9, y10, j11, j12, j13, j14, j15, j16, j17, j18, j19, .un, .un, .un, .un, .un, .un], s⟩) := by
  have hl := h.len
  have m0 := M6 (rs := R0 th n) (e := false) (s := s) (l6 := .fz (tI' ((dys n).map (lh th)))) (j2 := j2) (j8 := j8) (j9 := j9) (j10 := j10) (j11 := j11) (j12 := j12) (j13 := j13) (j14 := j14) (j15 := j15) (j16 := j16) (j17 := j17) (j18 := j18) (j19 := j19) h n2 (by rw [R0_len]; omega)
  have m1 := M6 (rs := R0 th n ++ [crow th (ts th) n]) (e := true) (s := s) (l6 := .fz (tI' ((dys n).map (lh th)))) (j2 := j2) (j8 := .fz (lN (sS th (ts th) n))) (j9 := .fz (lN (sS th (ts th) n))) (j10 := .fz (lI (cS th (ts th) n))) (j11 := j11) (j12 := j12) (j13 := j13) (j14 := j14) (j15 := j15) (j16 := j16) (j17 := j17) (j18 := j18) (j19 := j19) h n2 (by rw [List.length_append, R0_len]; simp; omega)
  have ea : R0 th n ++ [crow th (ts th) n] ++ [crow th (if true = true then es th else ts th) n] = TB th n := by
    unfold TB
    simp
  rw [ea] at m1
  exact ⟨.fz (.bool true), .fz (lN (sS th (es th) n)), .fz (lN (sS th (es th) n)), .fz (lI (cS th (es th) n)), e_forS (e_seqI (e_tup (e_cons rfl (e_one rfl)) (show 2 ≤ 1000000 by decide)) rfl) (e_forC rfl m0 (e_forC rfl m1 rfl))⟩
theorem L6 : q6 ⟨[.un, .src, j2, .fz (thD th), .fz (.int (n : Nat)), .own ((TB th n).map tI'), .fz (tI' ((dys n).map (lh th))), j7, j8, j9, j10, j11, j12, j13, j14, j15, j16, j17, j18, j19, .un, .un, .un, .un, .un, .un], s⟩ = some (.nx, ⟨[.un, .src, j2, .fz (thD th), .fz (.int (n : Nat)), .own ((TB th n).map tI'), .fz (tI' ((dys n).map (lh th))), j7, j8, j9, j10, .fz (tbD (TB th n)), j12, j13, j14, j15, j16, j17, j18, j19, .un, .un, .un, .un, .un, .un], s⟩) := rfl
theorem lcs_TB (h : ThOk th) : lcs (TB th n) n = ((dys n).map (lh th)) := lcs_ext fun i hi => TB_le h hi
theorem L7 (h : ThOk th) (n1 : 1 ≤ n) (n2 : n ≤ 30) : q7 ⟨[.un, .src, j2, .fz (thD th), .fz (.int (n : Nat)), .own ((TB th n).map tI'), .fz (tI' ((dys n).map (lh th))), j7, j8, j9, j10, .fz (tbD (TB th n)), j12, j13, j14, j15, j16, j17, j18, j19, .un, .un, .un, .un, .un, .un], s⟩ = some (.nx, ⟨[.un, .src, j2, .fz (thD th), .fz (.int (n : Nat)), .own ((TB th n).map tI'), .fz (tI' ((dys n).map (lh th))), j7, j8, j9, j10, .fz (tbD (TB th n)), j12, j13, j14, j15, j16, j17, j18, j19, .un, .un, .un, .un, .un, .un], s⟩) := by
  have e0 := E_least_costs (TB_tb h n1 n2) s
  rw [lcs_TB h] at e0
  exact e_ifF (S1 := ⟨[.un, .src, j2, .fz (thD th), .fz (.int (n : Nat)), .own ((TB th n).map tI'), .fz (tI' ((dys n).map (lh th))), j7, j8, j9, j10, .fz (tbD (TB th n)), j12, j13, j14, j15, j16, j17, j18, j19, .un, .un, .un, .un, .un, .un], s⟩) (e_toB (e_op2 (x := tI' ((dys n).map (lh th))) (S1 := ⟨[.un, .src, j2, .fz (thD th), .fz (.int (n : Nat)), .own ((TB th n).map tI'), .fz (tI' ((dys n).map (lh th))), j7, j8, j9, j10, .fz (tbD (TB th n)), j12, j13, j14, j15, j16, j17, j18, j19, .un, .un, .un, .un, .un, .un], s⟩) (e_call (S1 := ⟨[.un, .src, j2, .fz (thD th), .fz (.int (n : Nat)), .own ((TB th n).map tI'), .fz (tI' ((dys n).map (lh th))), j7, j8, j9, j10, .fz (tbD (TB th n)), j12, j13, j14, j15, j16, j17, j18, j19, .un, .un, .un, .un, .un, .un], s⟩) (as := [.d (tbD (TB th n))]) rfl e0) rfl ((ne_tI _ _).trans (by simp)))) rfl
theorem L8b (h : ThOk th) (n1 : 1 ≤ n) (n2 : n ≤ 30) {k : Nat} (hk : k = th.length ∨ k = th.length + 1) : ∃ r, q8b ⟨[.un, .src, j2, .fz (thD th), .fz (.int (n : Nat)), .own ((TB th n).map tI'), .fz (tI' ((dys n).map (lh th))), j7, j8, j9, j10, .fz (tbD (TB th n)), .fz (.int (k : Nat)), j13, j14, j15, j16, j17, j18, j19, .un, .un, .un, .un, .un, .un], s⟩ = some (.nx, ⟨[.un, .src, j2, .fz (thD th), .fz (.int (n : Nat)), .own ((TB th n).map tI'), .fz (tI' ((dys n).map (lh th))), j7, j8, j9, j10, .fz (tbD (TB th n)), .fz (.int (k : Nat)), .fz r, j14, j15, j16, j17, j18, j19, .un, .un, .un, .un, .un, .un], s⟩) := by
  have tb := TB_tb h n1 n2
  have hkl : k < (TB th n).length := by
    rw [TB_len]
    omega
  obtain ⟨r, er, hr⟩ := E_way_share tb hkl s
  have two : ∀ j, j < n → en (TB th n) k j ≤ 2 * le' (TB th n) j := fun j hj => TB_two h hj hk
  have hne : ((dys n).map (lh th)) ≠ [] := by
    simp
    omega
  obtain ⟨mx, hmx⟩ : ∃ mx, ((dys n).map (lh th)).max? = some mx := by
    cases z : ((dys n).map (lh th)).max? with
    | none => exact absurd (List.max?_eq_none_iff.mp z) hne
    | some m => exact ⟨m, rfl⟩
  have t1 : toB (op2 gtI (callN (altN max1L max1T) (consL (vD 6) (DL.ret []))) (cD (.int 0))) ⟨[.un, .src, j2, .fz (thD th), .fz (.int (n : Nat)), .own ((TB th n).map tI'), .fz (tI' ((dys n).map (lh th))), j7, j8, j9, j10, .fz (tbD (TB th n)), .fz (.int (k : Nat)), .fz r, j14, j15, j16, j17, j18, j19, .un, .un, .un, .un, .un, .un], s⟩ = some (decide (0 < mx), ⟨[.un, .src, j2, .fz (thD th), .fz (.int (n : Nat)), .own ((TB th n).map tI'), .fz (tI' ((dys n).map (lh th))), j7, j8, j9, j10, .fz (tbD (TB th n)), .fz (.int (k : Nat)), .fz r, j14, j15, j16, j17, j18, j19, .un, .un, .un, .un, .un, .un], s⟩) := e_toB (e_op2 (x := .int mx) (e_callN (e_one rfl) (ev_maxT hmx)) rfl rfl)
  refine ⟨r, e_seq (S1 := ⟨[.un, .src, j2, .fz (thD th), .fz (.int (n : Nat)), .own ((TB th n).map tI'), .fz (tI' ((dys n).map (lh th))), j7, j8, j9, j10, .fz (tbD (TB th n)), .fz (.int (k : Nat)), .fz r, j14, j15, j16, j17, j18, j19, .un, .un, .un, .un, .un, .un], s⟩) ?_ (e_seq (S1 := ⟨[.un, .src, j2, .fz (thD th), .fz (.int (n : Nat)), .own ((TB th n).map tI'), .fz (tI' ((dys n).map (lh th))), j7, j8, j9, j10, .fz (tbD (TB th n)), .fz (.int (k : Nat)), .fz r, j14, j15, j16, j17, j18, j19, .un, .un, .un, .un, .un, .un], s⟩) ?_ (e_seq (S1 := ⟨[.un, .src, j2, .fz (thD th), .fz (.int (n : Nat)), .own ((TB th n).map tI'), .fz (tI' ((dys n).map (lh th))), j7, j8, j9, j10, .fz (tbD (TB th n)), .fz (.int (k : Nat)), .fz r, j14, j15, j16, j17, j18, j19, .un, .un, .un, .un, .un, .un], s⟩) ?_ ?_))⟩
  · exact e_asg (e_call (S1 := ⟨[.un, .src, j2, .fz (thD th), .fz (.int (n : Nat)), .own ((TB th n).map tI'), .fz (tI' ((dys n).map (lh th))), j7, j8, j9, j10, .fz (tbD (TB th n)), .fz (.int (k : Nat)), j13, j14, j15, j16, j17, j18, j19, .un, .un, .un, .un, .un, .un], s⟩) (as := [.d (tbD (TB th n)), .d (.int (k : Nat))]) rfl er)
  · refine e_ifF (S1 := ⟨[.un, .src, j2, .fz (thD th), .fz (.int (n : Nat)), .own ((TB th n).map tI'), .fz (tI' ((dys n).map (lh th))), j7, j8, j9, j10, .fz (tbD (TB th n)), .fz (.int (k : Nat)), .fz r, j14, j15, j16, j17, j18, j19, .un, .un, .un, .un, .un, .un], s⟩) (e_and t1 (fun hp => ?_) (fun _ => ⟨rfl, rfl⟩)) rfl
    rcases hr with ⟨rfl, j, hj, hz, _⟩ | ⟨a, b, rfl, ws⟩
    · have z0 : (0 : Int) ∈ ((dys n).map (lh th)) := by
        rw [TB_le h hj] at hz
        exact List.mem_map.mpr ⟨1 + (j : Int), List.mem_map.mpr ⟨j, List.mem_range.mpr hj, rfl⟩, hz⟩
      exact e_and (k := true) (e_or (k := true) (e_toB (e_op2 rfl rfl rfl)) (fun z => nomatch z) (fun _ => ⟨rfl, rfl⟩)) (fun _ => e_toB (e_op2 rfl rfl (notIn0 z0))) (fun z => nomatch z)
    · have h2 := ws.two two
      refine e_and (k := false) (e_or (k := false) (e_toB (e_op2 rfl rfl rfl)) (fun _ => e_toB (e_op2 (e_op2 rfl rfl rfl) (e_op2 rfl (e_op2 rfl rfl rfl) (ev_mul (.inl (by decide)))) ?_)) (fun z => nomatch z)) (fun z => nomatch z) (fun _ => ⟨rfl, rfl⟩)
      show some (PyData.bool (decide (2 * b < a))) = _
      rw [decide_eq_false (by omega)]
  · refine e_ifF (S1 := ⟨[.un, .src, j2, .fz (thD th), .fz (.int (n : Nat)), .own ((TB th n).map tI'), .fz (tI' ((dys n).map (lh th))), j7, j8, j9, j10, .fz (tbD (TB th n)), .fz (.int (k : Nat)), .fz r, j14, j15, j16, j17, j18, j19, .un, .un, .un, .un, .un, .un], s⟩) (e_toB (e_op2 (x := lI []) (S1 := ⟨[.un, .src, j2, .fz (thD th), .fz (.int (n : Nat)), .own ((TB th n).map tI'), .fz (tI' ((dys n).map (lh th))), j7, j8, j9, j10, .fz (tbD (TB th n)), .fz (.int (k : Nat)), .fz r, j14, j15, j16, j17, j18, j19, .un, .un, .un, .un, .un, .un], s⟩) ?_ (e_lst rfl (by decide)) (ne_lI0 []))) rfl
    refine (e_compIf (s := s) (env := [.un, .src, j2, .fz (thD th), .fz (.int (n : Nat)), .own ((TB th n).map tI'), .fz (tI' ((dys n).map (lh th))), j7, j8, j9, j10, .fz (tbD (TB th n)), .fz (.int (k : Nat)), .fz r, j14, j15, j16, j17, j18, j19, .un, .un, .un, .un, .un, .un]) (List.range n) (fun i => pI (en (TB th n) k i, le' (TB th n) i)) (fun i => decide (2 * le' (TB th n) i < en (TB th n) k i)) (fun _ => .int 1) ?_ rfl (by simp; omega) rfl fun i hi => ⟨[.un, .src, j2, .fz (thD th), .fz (.int (n : Nat)), .own ((TB th n).map tI'), .fz (tI' ((dys n).map (lh th))), j7, j8, j9, j10, .fz (tbD (TB th n)), .fz (.int (k : Nat)), .fz r, j14, j15, j16, j17, j18, j19, .un, .un, .fz (.int (en (TB th n) k i)), .fz (.int (le' (TB th n) i)), .un, .un], rfl, rfl, ?_, fun _ => rfl⟩).trans ?_
    · refine (ev_zip (xs := (TB th n).getD k []) (ys := ((dys n).map (lh th))) (e_cons (e_op2 rfl rfl (ix_at tI' (TB th n) k [] hkl)) (e_one rfl))).trans ?_
      rw [← lcs_TB h, zip_at tb hkl, List.map_map]
      rfl
    · exact e_toB (e_op2 rfl (e_op2 rfl rfl (ev_mul (.inl (by decide)))) rfl)
    · have : (List.range n).filter (fun i => decide (2 * le' (TB th n) i < en (TB th n) k i)) = [] := by
        rw [List.filter_eq_nil_iff]
        intro i hi
        have := two i (List.mem_range.mp hi)
        simp
        omega
      rw [this]
      rfl
  · rcases hr with ⟨rfl, _⟩ | ⟨a, b, rfl, ws⟩
    · exact e_ifF (S1 := ⟨[.un, .src, j2, .fz (thD th), .fz (.int (n : Nat)), .own ((TB th n).map tI'), .fz (tI' ((dys n).map (lh th))), j7, j8, j9, j10, .fz (tbD (TB th n)), .fz (.int (k : Nat)), .fz .none, j14, j15, j16, j17, j18, j19, .un, .un, .un, .un, .un, .un], s⟩) (e_and (k := false) (e_toB (e_op2 rfl rfl rfl)) (fun z => nomatch z) (fun _ => ⟨rfl, rfl⟩)) rfl
    · have hca : ca (TB th n) n k a b = [] := ca_nil.mpr fun i hi => (ws.ok i hi).1
      refine e_ifF (S1 := ⟨[.un, .src, j2, .fz (thD th), .fz (.int (n : Nat)), .own ((TB th n).map tI'), .fz (tI' ((dys n).map (lh th))), j7, j8, j9, j10, .fz (tbD (TB th n)), .fz (.int (k : Nat)), .fz (pI (a, b)), j14, j15, j16, j17, j18, j19, .un, .un, .un, .un, .un, .un], s⟩) (e_and (k := true) (e_toB (e_op2 rfl rfl rfl)) (fun _ => e_toB (e_op2 (x := .none) (S1 := ⟨[.un, .src, j2, .fz (thD th), .fz (.int (n : Nat)), .own ((TB th n).map tI'), .fz (tI' ((dys n).map (lh th))), j7, j8, j9, j10, .fz (tbD (TB th n)), .fz (.int (k : Nat)), .fz (pI (a, b)), j14, j15, j16, j17, j18, j19, .un, .un, .un, .un, .un, .un], s⟩) ?_ rfl rfl)) (fun z => nomatch z)) rfl
      exact e_call (S1 := ⟨[.un, .src, j2, .fz (thD th), .fz (.int (n : Nat)), .own ((TB th n).map tI'), .fz (tI' ((dys n).map (lh th))), j7, j8, j9, j10, .fz (tbD (TB th n)), .fz (.int (k : Nat)), .fz (pI (a, b)), j14, j15, j16, j17, j18, j19, .un, .un, .un, .un, .un, .un], s⟩) (as := [.d (tbD (TB th n)), .d (pI (a, b)), .d (.tuple [.str "way", .int (k : Nat)])]) (e_consA rfl (e_consA rfl (e_consA (xs := []) (e_tup (e_cons rfl (e_one rfl)) (show 2 ≤ 1000000 by decide)) rfl))) (E_judge_share tb hkl ws.sa ws.sb hca s)
theorem L8 (h : ThOk th) (n1 : 1 ≤ n) (n2 : n ≤ 30) : ∃ r, q8 ⟨[.un, .src, j2, .fz (thD th), .fz (.int (n : Nat)), .own ((TB th n).map tI'), .fz (tI' ((dys n).map (lh th))), j7, j8, j9, j10, .fz (tbD (TB th n)), j12, j13, j14, j15, j16, j17, j18, j19, .un, .un, .un, .un, .un, .un], s⟩ = some (.nx, ⟨[.un, .src, j2, .fz (thD th), .fz (.int (n : Nat)), .own ((TB th n).map tI'), .fz (tI' ((dys n).map (lh th))), j7, j8, j9, j10, .fz (tbD (TB th n)), .fz (.int ((th.length + 1 : Nat) : Int)), .fz r, j14, j15, j16, j17, j18, j19, .un, .un, .un, .un, .un, .un], s⟩) := by
  obtain ⟨r1, e1⟩ := L8b (s := s) (j2 := j2) (j7 := j7) (j8 := j8) (j9 := j9) (j10 := j10) (j13 := j13) (j14 := j14) (j15 := j15) (j16 := j16) (j17 := j17) (j18 := j18) (j19 := j19) h n1 n2 (.inl rfl)
  obtain ⟨r2, e2⟩ := L8b (s := s) (j2 := j2) (j7 := j7) (j8 := j8) (j9 := j9) (j10 := j10) (j13 := .fz r1) (j14 := j14) (j15 := j15) (j16 := j16) (j17 := j17) (j18 := j18) (j19 := j19) h n1 n2 (.inr rfl)
  refine ⟨r2, e_forS (ds := [.int (th.length : Nat), .int ((th.length + 1 : Nat) : Int)]) (e_seqI (d := .tuple [.int (th.length : Nat), .int ((th.length + 1 : Nat) : Int)]) (e_tup (e_cons (S1 := ⟨[.un, .src, j2, .fz (thD th), .fz (.int (n : Nat)), .own ((TB th n).map tI'), .fz (tI' ((dys n).map (lh th))), j7, j8, j9, j10, .fz (tbD (TB th n)), j12, j13, j14, j15, j16, j17, j18, j19, .un, .un, .un, .un, .un, .un], s⟩) (d := .int (th.length : Nat)) (e_callN (e_one rfl) ?_) (e_one (e_op2 (x := .int (th.length : Nat)) (S1 := ⟨[.un, .src, j2, .fz (thD th), .fz (.int (n : Nat)), .own ((TB th n).map tI'), .fz (tI' ((dys n).map (lh th))), j7, j8, j9, j10, .fz (tbD (TB th n)), j12, j13, j14, j15, j16, j17, j18, j19, .un, .un, .un, .un, .un, .un], s⟩) (e_callN (e_one rfl) ?_) rfl rfl))) (show 2 ≤ 1000000 by decide)) rfl) (e_forC rfl e1 (e_forC rfl e2 rfl))⟩
  · show some (PyData.int ((th.map pI).length : Int)) = _
    rw [List.length_map]
  · show some (PyData.int ((th.map pI).length : Int)) = _
    rw [List.length_map]
theorem L9 (h : ThOk th) (n1 : 1 ≤ n) (n2 : n ≤ 30) : ∃ left, KW (TB th n) n (TB th n).length left ∧ q9 ⟨[.un, .src, j2, .fz (thD th), .fz (.int (n : Nat)), .own ((TB th n).map tI'), .fz (tI' ((dys n).map (lh th))), j7, j8, j9, j10, .fz (tbD (TB th n)), j12, j13, j14, j15, j16, j17, j18, j19, .un, .un, .un, .un, .un, .un], s⟩ = some (.nx, ⟨[.un, .src, j2, .fz (thD th), .fz (.int (n : Nat)), .own ((TB th n).map tI'), .fz (tI' ((dys n).map (lh th))), j7, j8, j9, j10, .fz (tbD (TB th n)), j12, j13, .fz (.tuple (left.map fun (k : Nat) => PyData.int (k : Int))), j15, j16, j17, j18, j19, .un, .un, .un, .un, .un, .un], s⟩) := by
  obtain ⟨left, e, kw⟩ := E_kept_ways (TB_tb h n1 n2) s
  exact ⟨left, kw, e_asg (e_call (S1 := ⟨[.un, .src, j2, .fz (thD th), .fz (.int (n : Nat)), .own ((TB th n).map tI'), .fz (tI' ((dys n).map (lh th))), j7, j8, j9, j10, .fz (tbD (TB th n)), j12, j13, j14, j15, j16, j17, j18, j19, .un, .un, .un, .un, .un, .un], s⟩) (as := [.d (tbD (TB th n))]) rfl e)⟩
theorem L10 (h : ThOk th) (n1 : 1 ≤ n) (n2 : n ≤ 30) {left : List Nat} (kw : KW (TB th n) n (TB th n).length left) (h12 : j12.isOwn = false) : q10 ⟨[.un, .src, j2, .fz (thD th), .fz (.int (n : Nat)), .own ((TB th n).map tI'), .fz (tI' ((dys n).map (lh th))), j7, j8, j9, j10, .fz (tbD (TB th n)), j12, j13, .fz (.tuple (left.map fun (k : Nat) => PyData.int (k : Int))), j15, j16, j17, j18, j19, .un, .un, .un, .un, .un, .un], s⟩ = some (.nx, ⟨[.un, .src, j2, .fz (thD th), .fz (.int (n : Nat)), .own ((TB th n).map tI'), .fz (tI' ((dys n).map (lh th))), j7, j8, j9, j10, .fz (tbD (TB th n)), j12, j13, .fz (.tuple (left.map fun (k : Nat) => PyData.int (k : Int))), j15, j16, j17, j18, j19, .un, .un, .un, .un, .un, .un], s⟩) := by
  have tb := TB_tb h n1 n2
  obtain ⟨kt, kl⟩ := kept_le tb kw
  have el : lcs (left.map fun k => (TB th n).getD k []) n = ((dys n).map (lh th)) := lcs_ext fun i hi => (kl i hi).trans (TB_le h hi)
  have e0 := E_least_costs kt s
  rw [el] at e0
  have hll : left.length ≤ 1000000 := by
    have := kt.len
    rw [List.length_map] at this
    omega
  refine e_ifF (S1 := ⟨[.un, .src, j2, .fz (thD th), .fz (.int (n : Nat)), .own ((TB th n).map tI'), .fz (tI' ((dys n).map (lh th))), j7, j8, j9, j10, .fz (tbD (TB th n)), j12, j13, .fz (.tuple (left.map fun (k : Nat) => PyData.int (k : Int))), j15, j16, j17, j18, j19, .un, .un, .un, .un, .un, .un], s⟩) (e_toB (e_op2 (x := tI' ((dys n).map (lh th))) (S1 := ⟨[.un, .src, j2, .fz (thD th), .fz (.int (n : Nat)), .own ((TB th n).map tI'), .fz (tI' ((dys n).map (lh th))), j7, j8, j9, j10, .fz (tbD (TB th n)), j12, j13, .fz (.tuple (left.map fun (k : Nat) => PyData.int (k : Int))), j15, j16, j17, j18, j19, .un, .un, .un, .un, .un, .un], s⟩) (e_call (S1 := ⟨[.un, .src, j2, .fz (thD th), .fz (.int (n : Nat)), .own ((TB th n).map tI'), .fz (tI' ((dys n).map (lh th))), j7, j8, j9, j10, .fz (tbD (TB th n)), j12, j13, .fz (.tuple (left.map fun (k : Nat) => PyData.int (k : Int))), j15, j16, j17, j18, j19, .un, .un, .un, .un, .un, .un], s⟩) (as := [.d (tbD (left.map fun k => (TB th n).getD k []))]) (e_consA (xs := []) (e_callN (e_one (d := .list ((left.map fun k => (TB th n).getD k []).map tI')) ?_) rfl) rfl) e0) rfl ((ne_tI _ _).trans (by simp)))) rfl
  refine (e_comp (s := s) (env := [.un, .src, j2, .fz (thD th), .fz (.int (n : Nat)), .own ((TB th n).map tI'), .fz (tI' ((dys n).map (lh th))), j7, j8, j9, j10, .fz (tbD (TB th n)), j12, j13, .fz (.tuple (left.map fun (k : Nat) => PyData.int (k : Int))), j15, j16, j17, j18, j19, .un, .un, .un, .un, .un, .un]) left (fun (k : Nat) => PyData.int (k : Int)) (fun k => tI' ((TB th n).getD k [])) (e_seqI rfl rfl) ?_ hll rfl fun k hk => ⟨[.un, .src, j2, .fz (thD th), .fz (.int (n : Nat)), .own ((TB th n).map tI'), .fz (tI' ((dys n).map (lh th))), j7, j8, j9, j10, .fz (tbD (TB th n)), .fz (.int (k : Nat)), j13, .fz (.tuple (left.map fun (k : Nat) => PyData.int (k : Int))), j15, j16, j17, j18, j19, .un, .un, .un, .un, .un, .un], rfl, rfl, ?_⟩).trans ?_
  · show (!j12.isOwn && true) = true
    rw [h12]
    rfl
  · exact e_op2 rfl rfl (ix_at tI' (TB th n) k [] (kw.lt k hk))
  · rw [mapT]
theorem L11 (h : ThOk th) : ∃ (a b : Nat) (s' : Src), a < (TB th n).length ∧ b < (TB th n).length ∧ q11 ⟨[.un, .src, j2, .fz (thD th), .fz (.int (n : Nat)), .own ((TB th n).map tI'), .fz (tI' ((dys n).map (lh th))), j7, j8, j9, j10, .fz (tbD (TB th n)), j12, j13, j14, j15, j16, j17, j18, j19, .un, .un, .un, .un, .un, .un], s⟩ = some (.nx, ⟨[.un, .src, j2, .fz (thD th), .fz (.int (n : Nat)), .own ((TB th n).map tI'), .fz (tI' ((dys n).map (lh th))), j7, j8, j9, j10, .fz (tbD (TB th n)), j12, j13, j14, .fz (.int (a : Nat)), .fz (.int (b : Nat)), j17, j18, j19, .un, .un, .un, .un, .un, .un], s'⟩) := by
  have hm := TB_len th n
  generalize hL : (TB th n).length = m at *
  have b1 := pickS_bd (m : Int) s
  generalize hq1 : pickS (m : Int) s = q1 at b1
  obtain ⟨k1, s1⟩ := q1
  have b2 := pickS_bd (m : Int) s1
  generalize hq2 : pickS (m : Int) s1 = q2 at b2
  obtain ⟨k2, s2⟩ := q2
  simp only at b1 b2
  have h6 := h.len
  have hbig : m < 2 ^ 50 := by omega
  · have hlen : ∀ w : Src, callN lenD (consL (vD 11) (DL.ret [])) ⟨[.un, .src, j2, .fz (thD th), .fz (.int (n : Nat)), .own ((TB th n).map tI'), .fz (tI' ((dys n).map (lh th))), j7, j8, j9, j10, .fz (tbD (TB th n)), j12, j13, j14, j15, j16, j17, j18, j19, .un, .un, .un, .un, .un, .un], w⟩ = some (.int (m : Nat), ⟨[.un, .src, j2, .fz (thD th), .fz (.int (n : Nat)), .own ((TB th n).map tI'), .fz (tI' ((dys n).map (lh th))), j7, j8, j9, j10, .fz (tbD (TB th n)), j12, j13, j14, j15, j16, j17, j18, j19, .un, .un, .un, .un, .un, .un], w⟩) := fun w => by
      refine e_callN (e_one rfl) ?_
      show some (PyData.int (((TB th n).map tI').length : Int)) = _
      rw [List.length_map, hL]
    have p1 : callD f__law_pick (srcA 1 (consA (callN lenD (consL (vD 11) (DL.ret []))) (DL.ret []))) ⟨[.un, .src, j2, .fz (thD th), .fz (.int (n : Nat)), .own ((TB th n).map tI'), .fz (tI' ((dys n).map (lh th))), j7, j8, j9, j10, .fz (tbD (TB th n)), j12, j13, j14, j15, j16, j17, j18, j19, .un, .un, .un, .un, .un, .un], s⟩ = some (.int k1, ⟨[.un, .src, j2, .fz (thD th), .fz (.int (n : Nat)), .own ((TB th n).map tI'), .fz (tI' ((dys n).map (lh th))), j7, j8, j9, j10, .fz (tbD (TB th n)), j12, j13, j14, j15, j16, j17, j18, j19, .un, .un, .un, .un, .un, .un], s1⟩) := by
      refine (e_call (S1 := ⟨[.un, .src, j2, .fz (thD th), .fz (.int (n : Nat)), .own ((TB th n).map tI'), .fz (tI' ((dys n).map (lh th))), j7, j8, j9, j10, .fz (tbD (TB th n)), j12, j13, j14, j15, j16, j17, j18, j19, .un, .un, .un, .un, .un, .un], s⟩) (as := [.src, .d (.int (m : Nat))]) ?_ (E_pickF (m : Int) (by omega) s)).trans ?_
      · exact e_srcA rfl (e_consA (xs := []) (hlen s) rfl)
      · rw [hq1]
    have p2 : callD f__law_pick (srcA 1 (consA (callN lenD (consL (vD 11) (DL.ret []))) (DL.ret []))) ⟨[.un, .src, j2, .fz (thD th), .fz (.int (n : Nat)), .own ((TB th n).map tI'), .fz (tI' ((dys n).map (lh th))), j7, j8, j9, j10, .fz (tbD (TB th n)), j12, j13, j14, j15, j16, j17, j18, j19, .un, .un, .un, .un, .un, .un], s1⟩ = some (.int k2, ⟨[.un, .src, j2, .fz (thD th), .fz (.int (n : Nat)), .own ((TB th n).map tI'), .fz (tI' ((dys n).map (lh th))), j7, j8, j9, j10, .fz (tbD (TB th n)), j12, j13, j14, j15, j16, j17, j18, j19, .un, .un, .un, .un, .un, .un], s2⟩) := by
      refine (e_call (S1 := ⟨[.un, .src, j2, .fz (thD th), .fz (.int (n : Nat)), .own ((TB th n).map tI'), .fz (tI' ((dys n).map (lh th))), j7, j8, j9, j10, .fz (tbD (TB th n)), j12, j13, j14, j15, j16, j17, j18, j19, .un, .un, .un, .un, .un, .un], s1⟩) (as := [.src, .d (.int (m : Nat))]) ?_ (E_pickF (m : Int) (by omega) s1)).trans ?_
      · exact e_srcA rfl (e_consA (xs := []) (hlen s1) rfl)
      · rw [hq2]
    obtain ⟨a, ha⟩ : ∃ a : Nat, k1 = (a : Int) := ⟨k1.toNat, by omega⟩
    obtain ⟨b, hb⟩ : ∃ b : Nat, k2 = (b : Int) := ⟨k2.toNat, by omega⟩
    subst ha hb
    refine ⟨a, b, s2, by omega, by omega, ?_⟩
    unfold q11 par2
    rw [bnd_eq (e_cons p1 (e_one p2))]
    rfl
theorem L12 (h : ThOk th) (n1 : 1 ≤ n) (n2 : n ≤ 30) {a b : Nat} (ha : a < (TB th n).length) (hb : b < (TB th n).length) : q12 ⟨[.un, .src, j2, .fz (thD th), .fz (.int (n : Nat)), .own ((TB th n).map tI'), .fz (tI' ((dys n).map (lh th))), j7, j8, j9, j10, .fz (tbD (TB th n)), j12, j13, j14, .fz (.int (a : Nat)), .fz (.int (b : Nat)), j17, j18, j19, .un, .un, .un, .un, .un, .un], s⟩ = some (.nx, ⟨[.un, .src, j2, .fz (thD th), .fz (.int (n : Nat)), .own ((TB th n).map tI'), .fz (tI' ((dys n).map (lh th))), j7, j8, j9, j10, .fz (tbD (TB th n)), j12, j13, j14, .fz (.int (a : Nat)), .fz (.int (b : Nat)), j17, j18, j19, .un, .un, .un, .un, .un, .un], s⟩) := by
  have tb := TB_tb h n1 n2
  refine e_ifF (S1 := ⟨[.un, .src, j2, .fz (thD th), .fz (.int (n : Nat)), .own ((TB th n).map tI'), .fz (tI' ((dys n).map (lh th))), j7, j8, j9, j10, .fz (tbD (TB th n)), j12, j13, j14, .fz (.int (a : Nat)), .fz (.int (b : Nat)), j17, j18, j19, .un, .un, .un, .un, .un, .un], s⟩) (e_and (k := decide (((a : Nat) : Int) ≠ ((b : Nat) : Int))) (e_toB (e_op2 rfl rfl (DL.ne_int _ _))) (fun _ => ?_) (fun _ => ⟨rfl, rfl⟩)) rfl
  have hl : (((TB th n).getD a []).zip ((TB th n).getD b [])).length ≤ 1000000 := by
    rw [List.length_zip, row_len tb ha, row_len tb hb]
    omega
  have hc : compD [24, 25] (zipI (consL (op2 ixD (vD 11) (vD 15)) (consL (op2 ixD (vD 11) (vD 16)) (DL.ret [])))) (.tp [(.nm 24), (.nm 25)]) (toB (op2 ltI (vD 24) (vD 25))) (cD (.int 1)) ⟨[.un, .src, j2, .fz (thD th), .fz (.int (n : Nat)), .own ((TB th n).map tI'), .fz (tI' ((dys n).map (lh th))), j7, j8, j9, j10, .fz (tbD (TB th n)), j12, j13, j14, .fz (.int (a : Nat)), .fz (.int (b : Nat)), j17, j18, j19, .un, .un, .un, .un, .un, .un], s⟩ = some (lI (((((TB th n).getD a []).zip ((TB th n).getD b [])).filter fun p => decide (p.1 < p.2)).map fun _ => 1), ⟨[.un, .src, j2, .fz (thD th), .fz (.int (n : Nat)), .own ((TB th n).map tI'), .fz (tI' ((dys n).map (lh th))), j7, j8, j9, j10, .fz (tbD (TB th n)), j12, j13, j14, .fz (.int (a : Nat)), .fz (.int (b : Nat)), j17, j18, j19, .un, .un, .un, .un, .un, .un], s⟩) := by
    refine (e_compIf (s := s) (env := [.un, .src, j2, .fz (thD th), .fz (.int (n : Nat)), .own ((TB th n).map tI'), .fz (tI' ((dys n).map (lh th))), j7, j8, j9, j10, .fz (tbD (TB th n)), j12, j13, j14, .fz (.int (a : Nat)), .fz (.int (b : Nat)), j17, j18, j19, .un, .un, .un, .un, .un, .un]) (((TB th n).getD a []).zip ((TB th n).getD b [])) pI (fun p => decide (p.1 < p.2)) (fun _ => .int 1) ?_ rfl hl rfl fun p hp => ⟨[.un, .src, j2, .fz (thD th), .fz (.int (n : Nat)), .own ((TB th n).map tI'), .fz (tI' ((dys n).map (lh th))), j7, j8, j9, j10, .fz (tbD (TB th n)), j12, j13, j14, .fz (.int (a : Nat)), .fz (.int (b : Nat)), j17, j18, j19, .un, .un, .un, .un, .fz (.int p.1), .fz (.int p.2)], rfl, rfl, ?_, fun _ => rfl⟩).trans ?_
    · exact ev_zip (e_cons (e_op2 rfl rfl (ix_at tI' (TB th n) a [] ha)) (e_one (e_op2 rfl rfl (ix_at tI' (TB th n) b [] hb))))
    · exact e_toB (e_op2 rfl rfl rfl)
    · unfold lI
      rw [mapO]
  refine e_toB (e_op2 (x := .bool (nb (TB th n) a b)) (y := .bool (nb (TB th n) a b)) (S1 := ⟨[.un, .src, j2, .fz (thD th), .fz (.int (n : Nat)), .own ((TB th n).map tI'), .fz (tI' ((dys n).map (lh th))), j7, j8, j9, j10, .fz (tbD (TB th n)), j12, j13, j14, .fz (.int (a : Nat)), .fz (.int (b : Nat)), j17, j18, j19, .un, .un, .un, .un, .un, .un], s⟩) ?_ (e_op2 hc (e_lst rfl (by decide)) ((eq_lI0 _).trans ?_)) ((DL.ne_bool _ _).trans (by simp)))
  · exact e_call (S1 := ⟨[.un, .src, j2, .fz (thD th), .fz (.int (n : Nat)), .own ((TB th n).map tI'), .fz (tI' ((dys n).map (lh th))), j7, j8, j9, j10, .fz (tbD (TB th n)), j12, j13, j14, .fz (.int (a : Nat)), .fz (.int (b : Nat)), j17, j18, j19, .un, .un, .un, .un, .un, .un], s⟩) (as := [.d (tbD (TB th n)), .d (.int (a : Nat)), .d (.int (b : Nat))]) rfl (E_nb tb ha hb s)
  · congr 2
    unfold nb
    cases hz : (((TB th n).getD a []).zip ((TB th n).getD b [])).all fun p => decide (p.2 ≤ p.1) with
    | true =>
      refine decide_eq_true ?_
      rw [List.map_eq_nil_iff, List.filter_eq_nil_iff]
      intro p hp
      have := List.all_eq_true.mp hz p hp
      simp at this
      simp
      omega
    | false =>
      refine decide_eq_false fun hn => ?_
      rw [List.map_eq_nil_iff, List.filter_eq_nil_iff] at hn
      have : ((((TB th n).getD a []).zip ((TB th n).getD b [])).all fun p => decide (p.2 ≤ p.1)) = true := by
        rw [List.all_eq_true]
        intro p hp
        have := hn p hp
        simp at this
        simp
        omega
      rw [hz] at this
      cases this
theorem L13 : ∃ (b : Int) (s' : Src), 1 ≤ b ∧ b ≤ 40 ∧ q13 ⟨[.un, .src, j2, .fz (thD th), .fz (.int (n : Nat)), j5, j6, j7, j8, j9, j10, j11, j12, j13, j14, j15, j16, j17, j18, j19, .un, .un, .un, .un, .un, .un], s⟩ = some (.nx, ⟨[.un, .src, j2, .fz (thD th), .fz (.int (n : Nat)), j5, j6, j7, j8, j9, j10, j11, j12, j13, j14, j15, j16, .fz (.int b), j18, j19, .un, .un, .un, .un, .un, .un], s'⟩) := by
  have b2 := pickS_bd 30 s
  generalize hq2 : pickS 30 s = q2 at b2
  obtain ⟨k2, s2⟩ := q2
  simp only at b2
  have p1 : callD f__law_pick (srcA 1 (consA (cD (.int 30)) (DL.ret []))) ⟨[.un, .src, j2, .fz (thD th), .fz (.int (n : Nat)), j5, j6, j7, j8, j9, j10, j11, j12, j13, j14, j15, j16, j17, j18, j19, .un, .un, .un, .un, .un, .un], s⟩ = some (.int k2, ⟨[.un, .src, j2, .fz (thD th), .fz (.int (n : Nat)), j5, j6, j7, j8, j9, j10, j11, j12, j13, j14, j15, j16, j17, j18, j19, .un, .un, .un, .un, .un, .un], s2⟩) := by
    refine (e_call (S1 := ⟨[.un, .src, j2, .fz (thD th), .fz (.int (n : Nat)), j5, j6, j7, j8, j9, j10, j11, j12, j13, j14, j15, j16, j17, j18, j19, .un, .un, .un, .un, .un, .un], s⟩) (as := [.src, .d (.int 30)]) rfl (E_pickF 30 (by decide) s)).trans ?_
    rw [hq2]
  exact ⟨1 + k2, s2, by omega, by omega, e_asg (e_op2 (S1 := ⟨[.un, .src, j2, .fz (thD th), .fz (.int (n : Nat)), j5, j6, j7, j8, j9, j10, j11, j12, j13, j14, j15, j16, j17, j18, j19, .un, .un, .un, .un, .un, .un], s⟩) (x := .int 1) (y := .int k2) rfl p1 rfl)⟩
theorem L14 {b : Int} : q14 ⟨[.un, .src, j2, .fz (thD th), .fz (.int (n : Nat)), j5, j6, j7, j8, j9, j10, j11, j12, j13, j14, j15, j16, .fz (.int b), j18, j19, .un, .un, .un, .un, .un, .un], s⟩ = some (.nx, ⟨[.un, .src, j2, .fz (thD th), .fz (.int (n : Nat)), j5, j6, j7, j8, j9, j10, j11, j12, j13, j14, j15, j16, .fz (.int b), .fz (thD (t2 b)), j19, .un, .un, .un, .un, .un, .un], s⟩) := by
  refine (e_asg (S1 := ⟨[.un, .src, j2, .fz (thD th), .fz (.int (n : Nat)), j5, j6, j7, j8, j9, j10, j11, j12, j13, j14, j15, j16, .fz (.int b), j18, j19, .un, .un, .un, .un, .un, .un], s⟩) (d := thD (t2 b)) ?_).trans rfl
  exact e_tup (xs := [pI (0, 1), pI (b, 0)]) (e_cons (S1 := ⟨[.un, .src, j2, .fz (thD th), .fz (.int (n : Nat)), j5, j6, j7, j8, j9, j10, j11, j12, j13, j14, j15, j16, .fz (.int b), j18, j19, .un, .un, .un, .un, .un, .un], s⟩) (e_tup (xs := [.int 0, .int 1]) (e_cons rfl (e_one rfl)) (show 2 ≤ 1000000 by decide)) (e_one (S := ⟨[.un, .src, j2, .fz (thD th), .fz (.int (n : Nat)), j5, j6, j7, j8, j9, j10, j11, j12, j13, j14, j15, j16, .fz (.int b), j18, j19, .un, .un, .un, .un, .un, .un], s⟩) (e_tup (xs := [.int b, .int 0]) (e_cons rfl (e_one rfl)) (show 2 ≤ 1000000 by decide)))) (show 2 ≤ 1000000 by decide)
theorem L15 (n2 : n ≤ 30) {b : Int} (hb : 1 ≤ b) : q15 ⟨[.un, .src, j2, .fz (thD th), .fz (.int (n : Nat)), j5, j6, j7, j8, j9, j10, j11, j12, j13, j14, j15, j16, .fz (.int b), .fz (thD (t2 b)), j19, .un, .un, .un, .un, .un, .un], s⟩ = some (.nx, ⟨[.un, .src, j2, .fz (thD th), .fz (.int (n : Nat)), j5, j6, j7, j8, j9, j10, j11, j12, j13, j14, j15, j16, .fz (.int b), .fz (thD (t2 b)), j19, .un, .un, .un, .un, .un, .un], s⟩) := by
  refine e_ifF (S1 := ⟨[.un, .src, j2, .fz (thD th), .fz (.int (n : Nat)), j5, j6, j7, j8, j9, j10, j11, j12, j13, j14, j15, j16, .fz (.int b), .fz (thD (t2 b)), j19, .un, .un, .un, .un, .un, .un], s⟩) (e_toB (e_op2 (x := lI ((dy0 n).map fun d => rcv b (some (b + 1)) d)) (y := lI ((dy0 n).map fun d => rcv b (some (b + 1)) d)) (S1 := ⟨[.un, .src, j2, .fz (thD th), .fz (.int (n : Nat)), j5, j6, j7, j8, j9, j10, j11, j12, j13, j14, j15, j16, .fz (.int b), .fz (thD (t2 b)), j19, .un, .un, .un, .un, .un, .un], s⟩) ?_ ?_ ((ne_lI _ _).trans (by simp)))) rfl
  · refine (e_comp (s := s) (env := [.un, .src, j2, .fz (thD th), .fz (.int (n : Nat)), j5, j6, j7, j8, j9, j10, j11, j12, j13, j14, j15, j16, .fz (.int b), .fz (thD (t2 b)), j19, .un, .un, .un, .un, .un, .un]) (dy0 n) PyData.int (fun d => .int (rcv b (some (b + 1)) d)) (rr_law rfl (by omega)) rfl (by simp; omega) rfl fun d hd => ⟨[.un, .src, j2, .fz (thD th), .fz (.int (n : Nat)), j5, j6, j7, j8, j9, j10, j11, j12, j13, j14, j15, j16, .fz (.int b), .fz (thD (t2 b)), j19, .fz (.int d), .un, .un, .un, .un, .un], rfl, rfl, ?_⟩).trans ?_
    · obtain ⟨i, hi, rfl⟩ := List.mem_map.mp hd
      have hi' := List.mem_range.mp hi
      rw [← t2_told hb i]
      exact e_call (S1 := ⟨[.un, .src, j2, .fz (thD th), .fz (.int (n : Nat)), j5, j6, j7, j8, j9, j10, j11, j12, j13, j14, j15, j16, .fz (.int b), .fz (thD (t2 b)), j19, .fz (.int (i : Nat)), .un, .un, .un, .un, .un], s⟩) (as := [.d (thD (t2 b)), .d (.int (i : Nat))]) rfl (E_told_cost t2_sm i (by omega) s)
    · unfold lI
      rw [mapI]
  · refine (e_comp (s := s) (env := [.un, .src, j2, .fz (thD th), .fz (.int (n : Nat)), j5, j6, j7, j8, j9, j10, j11, j12, j13, j14, j15, j16, .fz (.int b), .fz (thD (t2 b)), j19, .un, .un, .un, .un, .un, .un]) (dy0 n) PyData.int (fun d => .int (rcv b (some (b + 1)) d)) (rr_law rfl (by omega)) rfl (by simp; omega) rfl fun d hd => ⟨[.un, .src, j2, .fz (thD th), .fz (.int (n : Nat)), j5, j6, j7, j8, j9, j10, j11, j12, j13, j14, j15, j16, .fz (.int b), .fz (thD (t2 b)), j19, .fz (.int d), .un, .un, .un, .un, .un], rfl, rfl, ?_⟩).trans ?_
    · exact e_call (S1 := ⟨[.un, .src, j2, .fz (thD th), .fz (.int (n : Nat)), j5, j6, j7, j8, j9, j10, j11, j12, j13, j14, j15, j16, .fz (.int b), .fz (thD (t2 b)), j19, .fz (.int d), .un, .un, .un, .un, .un], s⟩) (as := [.d (.int b), .d (sD (some (b + 1))), .d (.int d)]) rfl (E_rent_cost b (some (b + 1)) d s)
    · unfold lI
      rw [mapI]
theorem L16 (n2 : n ≤ 30) {b : Int} (hb : 1 ≤ b) : q16 ⟨[.un, .src, j2, .fz (thD th), .fz (.int (n : Nat)), j5, j6, j7, j8, j9, j10, j11, j12, j13, j14, j15, j16, .fz (.int b), .fz (thD (t2 b)), j19, .un, .un, .un, .un, .un, .un], s⟩ = some (.nx, ⟨[.un, .src, j2, .fz (thD th), .fz (.int (n : Nat)), j5, j6, j7, j8, j9, j10, j11, j12, j13, j14, j15, j16, .fz (.int b), .fz (thD (t2 b)), j19, .un, .un, .un, .un, .un, .un], s⟩) := by
  refine e_ifF (S1 := ⟨[.un, .src, j2, .fz (thD th), .fz (.int (n : Nat)), j5, j6, j7, j8, j9, j10, j11, j12, j13, j14, j15, j16, .fz (.int b), .fz (thD (t2 b)), j19, .un, .un, .un, .un, .un, .un], s⟩) (e_toB (e_op2 (x := lI ((dy0 n).map fun d => rcv b (some b) d)) (y := lI ((dy0 n).map fun d => rcv b (some b) d)) (S1 := ⟨[.un, .src, j2, .fz (thD th), .fz (.int (n : Nat)), j5, j6, j7, j8, j9, j10, j11, j12, j13, j14, j15, j16, .fz (.int b), .fz (thD (t2 b)), j19, .un, .un, .un, .un, .un, .un], s⟩) ?_ ?_ ((ne_lI _ _).trans (by simp)))) rfl
  · refine (e_comp (s := s) (env := [.un, .src, j2, .fz (thD th), .fz (.int (n : Nat)), j5, j6, j7, j8, j9, j10, j11, j12, j13, j14, j15, j16, .fz (.int b), .fz (thD (t2 b)), j19, .un, .un, .un, .un, .un, .un]) (dy0 n) PyData.int (fun d => .int (rcv b (some b) d)) (rr_law rfl (by omega)) rfl (by simp; omega) rfl fun d hd => ⟨[.un, .src, j2, .fz (thD th), .fz (.int (n : Nat)), j5, j6, j7, j8, j9, j10, j11, j12, j13, j14, j15, j16, .fz (.int b), .fz (thD (t2 b)), j19, .fz (.int d), .un, .un, .un, .un, .un], rfl, rfl, ?_⟩).trans ?_
    · obtain ⟨i, hi, rfl⟩ := List.mem_map.mp hd
      have hi' := List.mem_range.mp hi
      rw [← t2_eager hb i]
      exact e_call (S1 := ⟨[.un, .src, j2, .fz (thD th), .fz (.int (n : Nat)), j5, j6, j7, j8, j9, j10, j11, j12, j13, j14, j15, j16, .fz (.int b), .fz (thD (t2 b)), j19, .fz (.int (i : Nat)), .un, .un, .un, .un, .un], s⟩) (as := [.d (thD (t2 b)), .d (.int (i : Nat))]) rfl (E_eager_cost t2_sm i (by omega) s)
    · unfold lI
      rw [mapI]
  · refine (e_comp (s := s) (env := [.un, .src, j2, .fz (thD th), .fz (.int (n : Nat)), j5, j6, j7, j8, j9, j10, j11, j12, j13, j14, j15, j16, .fz (.int b), .fz (thD (t2 b)), j19, .un, .un, .un, .un, .un, .un]) (dy0 n) PyData.int (fun d => .int (rcv b (some b) d)) (rr_law rfl (by omega)) rfl (by simp; omega) rfl fun d hd => ⟨[.un, .src, j2, .fz (thD th), .fz (.int (n : Nat)), j5, j6, j7, j8, j9, j10, j11, j12, j13, j14, j15, j16, .fz (.int b), .fz (thD (t2 b)), j19, .fz (.int d), .un, .un, .un, .un, .un], rfl, rfl, ?_⟩).trans ?_
    · exact e_call (S1 := ⟨[.un, .src, j2, .fz (thD th), .fz (.int (n : Nat)), j5, j6, j7, j8, j9, j10, j11, j12, j13, j14, j15, j16, .fz (.int b), .fz (thD (t2 b)), j19, .fz (.int d), .un, .un, .un, .un, .un], s⟩) (as := [.d (.int b), .d (sD (some b)), .d (.int d)]) rfl (E_rent_cost b (some b) d s)
    · unfold lI
      rw [mapI]
theorem L17 (n2 : n ≤ 30) {b : Int} (hb : 1 ≤ b) : q17 ⟨[.un, .src, j2, .fz (thD th), .fz (.int (n : Nat)), j5, j6, j7, j8, j9, j10, j11, j12, j13, j14, j15, j16, .fz (.int b), .fz (thD (t2 b)), j19, .un, .un, .un, .un, .un, .un], s⟩ = some (.nx, ⟨[.un, .src, j2, .fz (thD th), .fz (.int (n : Nat)), j5, j6, j7, j8, j9, j10, j11, j12, j13, j14, j15, j16, .fz (.int b), .fz (thD (t2 b)), j19, .un, .un, .un, .un, .un, .un], s⟩) := by
  refine e_ifF (S1 := ⟨[.un, .src, j2, .fz (thD th), .fz (.int (n : Nat)), j5, j6, j7, j8, j9, j10, j11, j12, j13, j14, j15, j16, .fz (.int b), .fz (thD (t2 b)), j19, .un, .un, .un, .un, .un, .un], s⟩) (e_toB (e_op2 (x := lI ((dy0 n).map fun d => if b < d then b else d)) (y := lI ((dy0 n).map fun d => if b < d then b else d)) (S1 := ⟨[.un, .src, j2, .fz (thD th), .fz (.int (n : Nat)), j5, j6, j7, j8, j9, j10, j11, j12, j13, j14, j15, j16, .fz (.int b), .fz (thD (t2 b)), j19, .un, .un, .un, .un, .un, .un], s⟩) ?_ ?_ ((ne_lI _ _).trans (by simp)))) rfl
  · refine (e_comp (s := s) (env := [.un, .src, j2, .fz (thD th), .fz (.int (n : Nat)), j5, j6, j7, j8, j9, j10, j11, j12, j13, j14, j15, j16, .fz (.int b), .fz (thD (t2 b)), j19, .un, .un, .un, .un, .un, .un]) (dy0 n) PyData.int (fun d => .int (if b < d then b else d)) (rr_law rfl (by omega)) rfl (by simp; omega) rfl fun d hd => ⟨[.un, .src, j2, .fz (thD th), .fz (.int (n : Nat)), j5, j6, j7, j8, j9, j10, j11, j12, j13, j14, j15, j16, .fz (.int b), .fz (thD (t2 b)), j19, .fz (.int d), .un, .un, .un, .un, .un], rfl, rfl, ?_⟩).trans ?_
    · rw [← t2_lh]
      exact e_call (S1 := ⟨[.un, .src, j2, .fz (thD th), .fz (.int (n : Nat)), j5, j6, j7, j8, j9, j10, j11, j12, j13, j14, j15, j16, .fz (.int b), .fz (thD (t2 b)), j19, .fz (.int d), .un, .un, .un, .un, .un], s⟩) (as := [.d (thD (t2 b)), .d (.int d)]) rfl (E_least_have t2_sm d s)
    · unfold lI
      rw [mapI]
  · refine (e_comp (s := s) (env := [.un, .src, j2, .fz (thD th), .fz (.int (n : Nat)), j5, j6, j7, j8, j9, j10, j11, j12, j13, j14, j15, j16, .fz (.int b), .fz (thD (t2 b)), j19, .un, .un, .un, .un, .un, .un]) (dy0 n) PyData.int (fun d => .int (if b < d then b else d)) (rr_law rfl (by omega)) rfl (by simp; omega) rfl fun d hd => ⟨[.un, .src, j2, .fz (thD th), .fz (.int (n : Nat)), j5, j6, j7, j8, j9, j10, j11, j12, j13, j14, j15, j16, .fz (.int b), .fz (thD (t2 b)), j19, .fz (.int d), .un, .un, .un, .un, .un], rfl, rfl, ?_⟩).trans ?_
    · exact e_callN (e_cons rfl (e_one rfl)) rfl
    · unfold lI
      rw [mapI]
theorem L18 (n2 : n ≤ 30) {b : Int} : q18 ⟨[.un, .src, j2, .fz (thD th), .fz (.int (n : Nat)), j5, j6, j7, j8, j9, j10, j11, j12, j13, j14, j15, j16, .fz (.int b), .fz (thD (t2 b)), j19, .un, .un, .un, .un, .un, .un], s⟩ = some (.nx, ⟨[.un, .src, j2, .fz (thD th), .fz (.int (n : Nat)), j5, j6, j7, j8, j9, .fz (tbD (rtb b n)), j11, j12, j13, j14, j15, j16, .fz (.int b), .fz (thD (t2 b)), j19, .un, .un, .un, .un, .un, .un], s⟩) :=
  e_asg (e_call (S1 := ⟨[.un, .src, j2, .fz (thD th), .fz (.int (n : Nat)), j5, j6, j7, j8, j9, j10, j11, j12, j13, j14, j15, j16, .fz (.int b), .fz (thD (t2 b)), j19, .un, .un, .un, .un, .un, .un], s⟩) (as := [.d (.int b), .d (.int 1), .d (.int (n : Nat))]) rfl (E_rent_table b n (by omega) s))
theorem L19 (n1 : 1 ≤ n) (n2 : n ≤ 30) {b : Int} (hb : 1 ≤ b) (hb2 : b ≤ 40) : ∃ g : Int, q19 ⟨[.un, .src, j2, .fz (thD th), .fz (.int (n : Nat)), j5, j6, j7, j8, j9, .fz (tbD (rtb b n)), j11, j12, j13, j14, j15, j16, .fz (.int b), .fz (thD (t2 b)), j19, .un, .un, .un, .un, .un, .un], s⟩ = some (.nx, ⟨[.un, .src, j2, .fz (thD th), .fz (.int (n : Nat)), j5, j6, j7, j8, j9, .fz (tbD (rtb b n)), j11, j12, j13, j14, j15, j16, .fz (.int b), .fz (thD (t2 b)), .fz (.tuple [.str "way", .int g]), .un, .un, .un, .un, .un, .un], s⟩) := by
  obtain ⟨g, eg⟩ := E_share_paper (rtb_tb hb hb2 n1 n2) (c0 := 2) (c1 := 1) (by unfold sml; decide) (by unfold sml; decide) (rtb_way hb) s
  exact ⟨g, e_asg (e_call (S1 := ⟨[.un, .src, j2, .fz (thD th), .fz (.int (n : Nat)), j5, j6, j7, j8, j9, .fz (tbD (rtb b n)), j11, j12, j13, j14, j15, j16, .fz (.int b), .fz (thD (t2 b)), j19, .un, .un, .un, .un, .un, .un], s⟩) (as := [.d (tbD (rtb b n)), .d (pI (2, 1))]) (e_consA rfl (e_consA (xs := []) (e_tup (e_cons rfl (e_one rfl)) (show 2 ≤ 1000000 by decide)) rfl)) eg)⟩
theorem L20 (n1 : 1 ≤ n) (n2 : n ≤ 30) {b g : Int} (hb : 1 ≤ b) (hb2 : b ≤ 40) : q20 ⟨[.un, .src, j2, .fz (thD th), .fz (.int (n : Nat)), j5, j6, j7, j8, j9, .fz (tbD (rtb b n)), j11, j12, j13, j14, j15, j16, .fz (.int b), .fz (thD (t2 b)), .fz (.tuple [.str "way", .int g]), .un, .un, .un, .un, .un, .un], s⟩ = some (.nx, ⟨[.un, .src, j2, .fz (thD th), .fz (.int (n : Nat)), j5, j6, j7, j8, j9, .fz (tbD (rtb b n)), j11, j12, j13, j14, j15, j16, .fz (.int b), .fz (thD (t2 b)), .fz (.tuple [.str "way", .int g]), .un, .un, .un, .un, .un, .un], s⟩) := by
  have e0 := E_least_costs (rtb_tb hb hb2 n1 n2) s
  have el : lcs (rtb b n) n = (dys n).map fun d => if b < d then b else d := lcs_ext fun i hi => rtb_le hb hi
  rw [el] at e0
  refine e_ifF (S1 := ⟨[.un, .src, j2, .fz (thD th), .fz (.int (n : Nat)), j5, j6, j7, j8, j9, .fz (tbD (rtb b n)), j11, j12, j13, j14, j15, j16, .fz (.int b), .fz (thD (t2 b)), .fz (.tuple [.str "way", .int g]), .un, .un, .un, .un, .un, .un], s⟩) (e_or (k := false) (S1 := ⟨[.un, .src, j2, .fz (thD th), .fz (.int (n : Nat)), j5, j6, j7, j8, j9, .fz (tbD (rtb b n)), j11, j12, j13, j14, j15, j16, .fz (.int b), .fz (thD (t2 b)), .fz (.tuple [.str "way", .int g]), .un, .un, .un, .un, .un, .un], s⟩) (S2 := ⟨[.un, .src, j2, .fz (thD th), .fz (.int (n : Nat)), j5, j6, j7, j8, j9, .fz (tbD (rtb b n)), j11, j12, j13, j14, j15, j16, .fz (.int b), .fz (thD (t2 b)), .fz (.tuple [.str "way", .int g]), .un, .un, .un, .un, .un, .un], s⟩) (e_toB (e_op2 (x := tI' ((dys n).map fun d => if b < d then b else d)) (y := tI' ((dys n).map fun d => if b < d then b else d)) (S1 := ⟨[.un, .src, j2, .fz (thD th), .fz (.int (n : Nat)), j5, j6, j7, j8, j9, .fz (tbD (rtb b n)), j11, j12, j13, j14, j15, j16, .fz (.int b), .fz (thD (t2 b)), .fz (.tuple [.str "way", .int g]), .un, .un, .un, .un, .un, .un], s⟩) (e_call (S1 := ⟨[.un, .src, j2, .fz (thD th), .fz (.int (n : Nat)), j5, j6, j7, j8, j9, .fz (tbD (rtb b n)), j11, j12, j13, j14, j15, j16, .fz (.int b), .fz (thD (t2 b)), .fz (.tuple [.str "way", .int g]), .un, .un, .un, .un, .un, .un], s⟩) (as := [.d (tbD (rtb b n))]) rfl e0) (e_callN (e_one (d := lI ((dys n).map fun d => if b < d then b else d)) ?_) rfl) ((ne_tI _ _).trans (by simp)))) (fun _ => e_toB (e_op2 (S1 := ⟨[.un, .src, j2, .fz (thD th), .fz (.int (n : Nat)), j5, j6, j7, j8, j9, .fz (tbD (rtb b n)), j11, j12, j13, j14, j15, j16, .fz (.int b), .fz (thD (t2 b)), .fz (.tuple [.str "way", .int g]), .un, .un, .un, .un, .un, .un], s⟩) (x := .str "way") (e_op2 (x := .tuple [.str "way", .int g]) (y := .int 0) (S1 := ⟨[.un, .src, j2, .fz (thD th), .fz (.int (n : Nat)), j5, j6, j7, j8, j9, .fz (tbD (rtb b n)), j11, j12, j13, j14, j15, j16, .fz (.int b), .fz (thD (t2 b)), .fz (.tuple [.str "way", .int g]), .un, .un, .un, .un, .un, .un], s⟩) rfl rfl rfl) rfl ne_way)) (fun z => nomatch z)) rfl
  refine (e_comp (s := s) (env := [.un, .src, j2, .fz (thD th), .fz (.int (n : Nat)), j5, j6, j7, j8, j9, .fz (tbD (rtb b n)), j11, j12, j13, j14, j15, j16, .fz (.int b), .fz (thD (t2 b)), .fz (.tuple [.str "way", .int g]), .un, .un, .un, .un, .un, .un]) (dys n) PyData.int (fun d => .int (if b < d then b else d)) (r1_law rfl (by omega)) rfl (by simp; omega) rfl fun d hd => ⟨[.un, .src, j2, .fz (thD th), .fz (.int (n : Nat)), j5, j6, j7, j8, j9, .fz (tbD (rtb b n)), j11, j12, j13, j14, j15, j16, .fz (.int b), .fz (thD (t2 b)), .fz (.tuple [.str "way", .int g]), .fz (.int d), .un, .un, .un, .un, .un], rfl, rfl, ?_⟩).trans ?_
  · exact e_callN (e_cons rfl (e_one rfl)) rfl
  · unfold lI
    rw [mapI]
end
end K46

-- part K46n
set_option Elab.async false
set_option linter.all false
set_option maxRecDepth 100000
set_option maxHeartbeats 2000000
namespace K46
open PySem PySem.Spec PyProof.Rows L2 RZ DL
def Good (S : Sta) : Prop := ∃ (j2 j3 j4 j5 j6 j7 j8 j9 j10 j11 j12 j13 j14 j15 j16 j17 j18 j19 : Slot) (s : Src), S = ⟨[.un, .src, j2, j3, j4, j5, j6, j7, j8, j9, j10, j11, j12, j13, j14, j15, j16, j17, j18, j19, .un, .un, .un, .un, .un, .un], s⟩ ∧ j12.isOwn = false ∧ j18.isOwn = false
theorem L_body (x2 j3 j4 j5 j6 j7 j8 j9 j10 j11 j12 j13 j14 j15 j16 j17 j18 j19 : Slot) (s : Src) (h12 : j12.isOwn = false) (h18 : j18.isOwn = false) : ∃ S', qb ⟨[.un, .src, x2, j3, j4, j5, j6, j7, j8, j9, j10, j11, j12, j13, j14, j15, j16, j17, j18, j19, .un, .un, .un, .un, .un, .un], s⟩ = some (.nx, S') ∧ Good S' := by
  obtain ⟨th, n, s1, h, n1, n2, e0⟩ := L0 (j3 := j3) (j4 := j4) (j5 := j5) (j6 := j6) (j7 := j7) (j8 := j8) (j9 := j9) (j10 := j10) (j11 := j11) (j12 := j12) (j13 := j13) (j14 := j14) (j15 := j15) (j16 := j16) (j17 := j17) (j18 := j18) (j19 := j19) x2 s
  obtain ⟨y7, y8, y9, y10, e5⟩ := L5 (s := s1) (j2 := x2) (j7 := j7) (j8 := j8) (j9 := j9) (j10 := j10) (j11 := j11) (j12 := j12) (j13 := j13) (j14 := j14) (j15 := j15) (j16 := j16) (j17 := j17) (j18 := j18) (j19 := j19) h n2
  obtain ⟨r8, e8⟩ := L8 (s := s1) (j2 := x2) (j7 := y7) (j8 := y8) (j9 := y9) (j10 := y10) (j12 := j12) (j13 := j13) (j14 := j14) (j15 := j15) (j16 := j16) (j17 := j17) (j18 := j18) (j19 := j19) h n1 n2
  obtain ⟨left, kw, e9⟩ := L9 (s := s1) (j2 := x2) (j7 := y7) (j8 := y8) (j9 := y9) (j10 := y10) (j12 := .fz (.int ((th.length + 1 : Nat) : Int))) (j13 := .fz r8) (j14 := j14) (j15 := j15) (j16 := j16) (j17 := j17) (j18 := j18) (j19 := j19) h n1 n2
  obtain ⟨a, b, s2, ha, hb, e11⟩ := L11 (s := s1) (th := th) (n := n) (j2 := x2) (j7 := y7) (j8 := y8) (j9 := y9) (j10 := y10) (j12 := .fz (.int ((th.length + 1 : Nat) : Int))) (j13 := .fz r8) (j14 := .fz (.tuple (left.map fun (k : Nat) => PyData.int (k : Int)))) (j15 := j15) (j16 := j16) (j17 := j17) (j18 := j18) (j19 := j19) h
  obtain ⟨bb, s3, hb1, hb2, e13⟩ := L13 (s := s2) (th := th) (n := n) (j2 := x2) (j5 := .own ((TB th n).map tI')) (j6 := .fz (tI' ((dys n).map (lh th)))) (j7 := y7) (j8 := y8) (j9 := y9) (j10 := y10) (j11 := .fz (tbD (TB th n))) (j12 := .fz (.int ((th.length + 1 : Nat) : Int))) (j13 := .fz r8) (j14 := .fz (.tuple (left.map fun (k : Nat) => PyData.int (k : Int)))) (j15 := .fz (.int (a : Nat))) (j16 := .fz (.int (b : Nat))) (j17 := j17) (j18 := j18) (j19 := j19)
  obtain ⟨g, e19⟩ := L19 (s := s3) (th := th) (n := n) (j2 := x2) (j5 := .own ((TB th n).map tI')) (j6 := .fz (tI' ((dys n).map (lh th)))) (j7 := y7) (j8 := y8) (j9 := y9) (j11 := .fz (tbD (TB th n))) (j12 := .fz (.int ((th.length + 1 : Nat) : Int))) (j13 := .fz r8) (j14 := .fz (.tuple (left.map fun (k : Nat) => PyData.int (k : Int)))) (j15 := .fz (.int (a : Nat))) (j16 := .fz (.int (b : Nat))) (j19 := j19) n1 n2 hb1 hb2
  refine ⟨_, (e_seq e0
    (e_seq (L1 (j2 := x2) (j5 := j5) (j6 := j6) (j7 := j7) (j8 := j8) (j9 := j9) (j10 := j10) (j11 := j11) (j12 := j12) (j13 := j13) (j14 := j14) (j15 := j15) (j16 := j16) (j17 := j17) (j18 := j18) (j19 := j19) h)
    (e_seq (L2 (j2 := x2) (j5 := j5) (j6 := j6) (j7 := j7) (j8 := j8) (j9 := j9) (j10 := j10) (j11 := j11) (j12 := j12) (j13 := j13) (j14 := j14) (j15 := j15) (j16 := j16) (j17 := j17) (j18 := j18) (j19 := j19) h n2 h18)
    (e_seq (L3 (j2 := x2) (j6 := j6) (j7 := j7) (j8 := j8) (j9 := j9) (j10 := j10) (j11 := j11) (j12 := j12) (j13 := j13) (j14 := j14) (j15 := j15) (j16 := j16) (j17 := j17) (j18 := j18) (j19 := j19) h n2)
    (e_seq (L4 (j2 := x2) (j7 := j7) (j8 := j8) (j9 := j9) (j10 := j10) (j11 := j11) (j12 := j12) (j13 := j13) (j14 := j14) (j15 := j15) (j16 := j16) (j17 := j17) (j18 := j18) (j19 := j19) h n1 n2)
    (e_seq e5
    (e_seq (L6 (j2 := x2) (j7 := y7) (j8 := y8) (j9 := y9) (j10 := y10) (j11 := j11) (j12 := j12) (j13 := j13) (j14 := j14) (j15 := j15) (j16 := j16) (j17 := j17) (j18 := j18) (j19 := j19))
    (e_seq (L7 (j2 := x2) (j7 := y7) (j8 := y8) (j9 := y9) (j10 := y10) (j12 := j12) (j13 := j13) (j14 := j14) (j15 := j15) (j16 := j16) (j17 := j17) (j18 := j18) (j19 := j19) h n1 n2)
    (e_seq e8
    (e_seq e9
    (e_seq (L10 (j2 := x2) (j7 := y7) (j8 := y8) (j9 := y9) (j10 := y10) (j12 := .fz (.int ((th.length + 1 : Nat) : Int))) (j13 := .fz r8) (j15 := j15) (j16 := j16) (j17 := j17) (j18 := j18) (j19 := j19) h n1 n2 kw rfl)
    (e_seq e11
    (e_seq (L12 (j2 := x2) (j7 := y7) (j8 := y8) (j9 := y9) (j10 := y10) (j12 := .fz (.int ((th.length + 1 : Nat) : Int))) (j13 := .fz r8) (j14 := .fz (.tuple (left.map fun (k : Nat) => PyData.int (k : Int)))) (j17 := j17) (j18 := j18) (j19 := j19) h n1 n2 ha hb)
    (e_seq e13
    (e_seq (L14 (j2 := x2) (j5 := .own ((TB th n).map tI')) (j6 := .fz (tI' ((dys n).map (lh th)))) (j7 := y7) (j8 := y8) (j9 := y9) (j10 := y10) (j11 := .fz (tbD (TB th n))) (j12 := .fz (.int ((th.length + 1 : Nat) : Int))) (j13 := .fz r8) (j14 := .fz (.tuple (left.map fun (k : Nat) => PyData.int (k : Int)))) (j15 := .fz (.int (a : Nat))) (j16 := .fz (.int (b : Nat))) (j18 := j18) (j19 := j19))
    (e_seq (L15 (j2 := x2) (j5 := .own ((TB th n).map tI')) (j6 := .fz (tI' ((dys n).map (lh th)))) (j7 := y7) (j8 := y8) (j9 := y9) (j10 := y10) (j11 := .fz (tbD (TB th n))) (j12 := .fz (.int ((th.length + 1 : Nat) : Int))) (j13 := .fz r8) (j14 := .fz (.tuple (left.map fun (k : Nat) => PyData.int (k : Int)))) (j15 := .fz (.int (a : Nat))) (j16 := .fz (.int (b : Nat))) (j19 := j19) n2 hb1)
    (e_seq (L16 (j2 := x2) (j5 := .own ((TB th n).map tI')) (j6 := .fz (tI' ((dys n).map (lh th)))) (j7 := y7) (j8 := y8) (j9 := y9) (j10 := y10) (j11 := .fz (tbD (TB th n))) (j12 := .fz (.int ((th.length + 1 : Nat) : Int))) (j13 := .fz r8) (j14 := .fz (.tuple (left.map fun (k : Nat) => PyData.int (k : Int)))) (j15 := .fz (.int (a : Nat))) (j16 := .fz (.int (b : Nat))) (j19 := j19) n2 hb1)
    (e_seq (L17 (j2 := x2) (j5 := .own ((TB th n).map tI')) (j6 := .fz (tI' ((dys n).map (lh th)))) (j7 := y7) (j8 := y8) (j9 := y9) (j10 := y10) (j11 := .fz (tbD (TB th n))) (j12 := .fz (.int ((th.length + 1 : Nat) : Int))) (j13 := .fz r8) (j14 := .fz (.tuple (left.map fun (k : Nat) => PyData.int (k : Int)))) (j15 := .fz (.int (a : Nat))) (j16 := .fz (.int (b : Nat))) (j19 := j19) n2 hb1)
    (e_seq (L18 (j2 := x2) (j5 := .own ((TB th n).map tI')) (j6 := .fz (tI' ((dys n).map (lh th)))) (j7 := y7) (j8 := y8) (j9 := y9) (j10 := y10) (j11 := .fz (tbD (TB th n))) (j12 := .fz (.int ((th.length + 1 : Nat) : Int))) (j13 := .fz r8) (j14 := .fz (.tuple (left.map fun (k : Nat) => PyData.int (k : Int)))) (j15 := .fz (.int (a : Nat))) (j16 := .fz (.int (b : Nat))) (j19 := j19) n2)
    (e_seq e19
    (L20 (j2 := x2) (j5 := .own ((TB th n).map tI')) (j6 := .fz (tI' ((dys n).map (lh th)))) (j7 := y7) (j8 := y8) (j9 := y9) (j11 := .fz (tbD (TB th n))) (j12 := .fz (.int ((th.length + 1 : Nat) : Int))) (j13 := .fz r8) (j14 := .fz (.tuple (left.map fun (k : Nat) => PyData.int (k : Int)))) (j15 := .fz (.int (a : Nat))) (j16 := .fz (.int (b : Nat))) n1 n2 hb1 hb2))))))))))))))))))))), _, _, _, _, _, _, _, _, _, _, _, _, _, _, _, _, _, _, s3, rfl, rfl, rfl⟩
theorem law_true (s : Src) : ∃ S', d_law ⟨envL, s⟩ = some (.rt (.bool true), S') := by
  rw [d_law_eq]
  have hit : rangeI1 (consL (cD (.int 2)) (DL.ret [])) ⟨envL, s⟩ = some ((List.range 2).map fun (k : Nat) => PyData.int (k : Int), ⟨envL, s⟩) := ev_range1 (j := 2) (e_one rfl) (by decide)
  have loop := e_for (p := .nm 2) (b := qb) (fun _ S => Good S) ((List.range 2).map fun (k : Nat) => PyData.int (k : Int)) 0 ⟨envL, s⟩ ⟨.un, .un, .un, .un, .un, .un, .un, .un, .un, .un, .un, .un, .un, .un, .un, .un, .un, .un, s, rfl, rfl, rfl⟩ ?_
  · obtain ⟨S', e1, _⟩ := loop
    exact ⟨S', e_seq (e_forS hit e1) (e_ret rfl)⟩
  · rintro i d S hi ⟨j2, j3, j4, j5, j6, j7, j8, j9, j10, j11, j12, j13, j14, j15, j16, j17, j18, j19, s1, rfl, h12, h18⟩
    obtain ⟨S', e1, g⟩ := L_body (.fz d) j3 j4 j5 j6 j7 j8 j9 j10 j11 j12 j13 j14 j15 j16 j17 j18 j19 s1 h12 h18
    exact ⟨[.un, .src, .fz d, j3, j4, j5, j6, j7, j8, j9, j10, j11, j12, j13, j14, j15, j16, j17, j18, j19, .un, .un, .un, .un, .un, .un], S', rfl, e1, g⟩
end K46

-- part K46o
set_option Elab.async false
set_option linter.all false
set_option maxRecDepth 100000
set_option maxHeartbeats 0
namespace K46
open PySem PySem.Spec PyProof.Rows L2 RZ DL
def dD__law_open_cells : He.DefD := ⟨("_law_open_cells", none), "_law_open_cells", "_law_open_cells", defArgs s__law_open_cells, defBody s__law_open_cells, defScope s__law_open_cells, [], []⟩
def dD__law_pick : He.DefD := ⟨("_law_pick", none), "_law_pick", "_law_pick", defArgs s__law_pick, defBody s__law_pick, defScope s__law_pick, [], []⟩
def dD_share_number : He.DefD := ⟨("share_number", none), "share_number", "share_number", defArgs s_share_number, defBody s_share_number, defScope s_share_number, [], []⟩
def dD_is_less_share : He.DefD := ⟨("is_less_share", none), "is_less_share", "is_less_share", defArgs s_is_less_share, defBody s_is_less_share, defScope s_is_less_share, [], []⟩
def dD_greater_share : He.DefD := ⟨("greater_share", none), "greater_share", "greater_share", defArgs s_greater_share, defBody s_greater_share, defScope s_greater_share, [], []⟩
def dD_is_cost : He.DefD := ⟨("is_cost", none), "is_cost", "is_cost", defArgs s_is_cost, defBody s_is_cost, defScope s_is_cost, [], []⟩
def dD_least_costs : He.DefD := ⟨("least_costs", none), "least_costs", "least_costs", defArgs s_least_costs, defBody s_least_costs, defScope s_least_costs, [], []⟩
def dD_way_share : He.DefD := ⟨("way_share", none), "way_share", "way_share", defArgs s_way_share, defBody s_way_share, defScope s_way_share, [], []⟩
def dD_is_no_better : He.DefD := ⟨("is_no_better", none), "is_no_better", "is_no_better", defArgs s_is_no_better, defBody s_is_no_better, defScope s_is_no_better, [], []⟩
def dD_kept_ways : He.DefD := ⟨("kept_ways", none), "kept_ways", "kept_ways", defArgs s_kept_ways, defBody s_kept_ways, defScope s_kept_ways, [], []⟩
def dD_is_thing : He.DefD := ⟨("is_thing", none), "is_thing", "is_thing", defArgs s_is_thing, defBody s_is_thing, defScope s_is_thing, [], []⟩
def dD_are_things : He.DefD := ⟨("are_things", none), "are_things", "are_things", defArgs s_are_things, defBody s_are_things, defScope s_are_things, [], []⟩
def dD_costs_at : He.DefD := ⟨("costs_at", none), "costs_at", "costs_at", defArgs s_costs_at, defBody s_costs_at, defScope s_costs_at, [], []⟩
def dD_least_have : He.DefD := ⟨("least_have", none), "least_have", "least_have", defArgs s_least_have, defBody s_least_have, defScope s_least_have, [], []⟩
def dD_told_state : He.DefD := ⟨("told_state", none), "told_state", "told_state", defArgs s_told_state, defBody s_told_state, defScope s_told_state, [], []⟩
def dD_eager_state : He.DefD := ⟨("eager_state", none), "eager_state", "eager_state", defArgs s_eager_state, defBody s_eager_state, defScope s_eager_state, [], []⟩
def dD_cost_by_states : He.DefD := ⟨("cost_by_states", none), "cost_by_states", "cost_by_states", defArgs s_cost_by_states, defBody s_cost_by_states, defScope s_cost_by_states, [], []⟩
def dD_told_cost : He.DefD := ⟨("told_cost", none), "told_cost", "told_cost", defArgs s_told_cost, defBody s_told_cost, defScope s_told_cost, [], []⟩
def dD_eager_cost : He.DefD := ⟨("eager_cost", none), "eager_cost", "eager_cost", defArgs s_eager_cost, defBody s_eager_cost, defScope s_eager_cost, [], []⟩
def dD_rent_cost : He.DefD := ⟨("rent_cost", none), "rent_cost", "rent_cost", defArgs s_rent_cost, defBody s_rent_cost, defScope s_rent_cost, [], []⟩
def dD_rent_table : He.DefD := ⟨("rent_table", none), "rent_table", "rent_table", defArgs s_rent_table, defBody s_rent_table, defScope s_rent_table, [], []⟩
def dD_cases_above : He.DefD := ⟨("cases_above", none), "cases_above", "cases_above", defArgs s_cases_above, defBody s_cases_above, defScope s_cases_above, [], []⟩
def dD_share_paper : He.DefD := ⟨("share_paper", none), "share_paper", "share_paper", defArgs s_share_paper, defBody s_share_paper, defScope s_share_paper, [], []⟩
def dD_is_case_row : He.DefD := ⟨("is_case_row", none), "is_case_row", "is_case_row", defArgs s_is_case_row, defBody s_is_case_row, defScope s_is_case_row, [], []⟩
def dD_judge_share : He.DefD := ⟨("judge_share", none), "judge_share", "judge_share", defArgs s_judge_share, defBody s_judge_share, defScope s_judge_share, [], []⟩
def dD__law_things : He.DefD := ⟨("_law_things", none), "_law_things", "_law_things", defArgs s__law_things, defBody s__law_things, defScope s__law_things, [], []⟩
def dD__law_state : He.DefD := ⟨("_law_state", none), "_law_state", "_law_state", defArgs s__law_state, defBody s__law_state, defScope s__law_state, [], []⟩
def dD__law_cost : He.DefD := ⟨("_law_cost", none), "_law_cost", "_law_cost", defArgs s__law_cost, defBody s__law_cost, defScope s__law_cost, [], []⟩
def dD_law : He.DefD := ⟨("law", none), "law", "law", defArgs s_law, defBody s_law, defScope s_law, [], []⟩
def fnD : List He.DefD := [dD__law_open_cells, dD__law_pick, dD_share_number, dD_is_less_share, dD_greater_share, dD_is_cost, dD_least_costs, dD_way_share, dD_is_no_better, dD_kept_ways, dD_is_thing, dD_are_things, dD_costs_at, dD_least_have, dD_told_state, dD_eager_state, dD_cost_by_states, dD_told_cost, dD_eager_cost, dD_rent_cost, dD_rent_table, dD_cases_above, dD_share_paper, dD_is_case_row, dD_judge_share, dD__law_things, dD__law_state, dD__law_cost, dD_law]
def faD : List He.Fa := [.glo "_law_open_cells", .glo "_law_pick", .glo "share_number", .glo "is_less_share", .glo "greater_share", .glo "is_cost", .glo "least_costs", .glo "way_share", .glo "is_no_better", .glo "kept_ways", .glo "is_thing", .glo "are_things", .glo "costs_at", .glo "least_have", .glo "told_state", .glo "eager_state", .glo "cost_by_states", .glo "told_cost", .glo "eager_cost", .glo "rent_cost", .glo "rent_table", .glo "cases_above", .glo "share_paper", .glo "is_case_row", .glo "judge_share", .glo "_law_things", .glo "_law_state", .glo "_law_cost", .glo "law", .free "abs", .free "all", .free "any", .free "bool", .free "enumerate", .free "int", .free "isinstance", .free "len", .free "list", .free "max", .free "min", .free "range", .free "sorted", .free "str", .free "sum", .free "tuple", .free "zip"]
abbrev RD : PySem.W.OpenRow := PySem.W.OpenLaw.row PySem.Challenge.rw_beforeitcomes_k46_whole_prices_as_cost_t
abbrev hkD : PySem.W.Hook := He.hookD 4 faD fnD
def obD (s : PySem.W.SharedT) : He.AlD := He.obsDG 4 faD fnD (HandSHeadRun.getT s)
theorem obD_eq (s : PySem.W.SharedT) : obD s = hkD.obs s.abs := He.obsDG_eq (HandSHeadRun.getT_eq s)
theorem runD (w : World) : HandSHeadRun.RunEq RD (PySem.W.view RD.prog [34]) hkD obD 4000 (["_law_open_cells", "_law_pick", "share_number", "is_less_share", "greater_share", "is_cost", "least_costs", "way_share", "is_no_better", "kept_ways", "is_thing", "are_things", "costs_at", "least_have", "told_state", "eager_state", "cost_by_states", "told_cost", "eager_cost", "rent_cost", "rent_table", "cases_above", "share_paper", "is_case_row", "judge_share", "_law_things", "_law_state", "_law_cost"] : List Str) w := by
  intro os
  kernel_rfl
theorem factsD {P : Program} {w : World} {K : PySem.W.Frag} {h : Heap} {mg : Str → Option Value} {f : Addr} (X : K.In h) (G : h.Ns mainGlobals mg) (hfa : mg ("law" : Str) = some (.ref f)) (c : He.SaysD faD fnD K) :
    ∃ fd : FuncData, (∀ (s : Shared) (v : Value), BindsTo s fd ⟨[v], []⟩ [("script", v)]) ∧ ∀ base : Heap, K.In base → base.Ns mainGlobals mg → FnOk P w K mg base CX0 4 f fd ["script"] (spLaw K) := by
  obtain ⟨fd__law_open_cells, F__law_open_cells⟩ := c.def_ 0 (d := dD__law_open_cells) rfl
  have m__law_open_cells := He.glo_ok X G (c.fact 0 (f := .glo "_law_open_cells") rfl)
  obtain ⟨fd__law_pick, F__law_pick⟩ := c.def_ 1 (d := dD__law_pick) rfl
  have m__law_pick := He.glo_ok X G (c.fact 1 (f := .glo "_law_pick") rfl)
  obtain ⟨fd_share_number, F_share_number⟩ := c.def_ 2 (d := dD_share_number) rfl
  have m_share_number := He.glo_ok X G (c.fact 2 (f := .glo "share_number") rfl)
  obtain ⟨fd_is_less_share, F_is_less_share⟩ := c.def_ 3 (d := dD_is_less_share) rfl
  have m_is_less_share := He.glo_ok X G (c.fact 3 (f := .glo "is_less_share") rfl)
  obtain ⟨fd_greater_share, F_greater_share⟩ := c.def_ 4 (d := dD_greater_share) rfl
  have m_greater_share := He.glo_ok X G (c.fact 4 (f := .glo "greater_share") rfl)
  obtain ⟨fd_is_cost, F_is_cost⟩ := c.def_ 5 (d := dD_is_cost) rfl
  have m_is_cost := He.glo_ok X G (c.fact 5 (f := .glo "is_cost") rfl)
  obtain ⟨fd_least_costs, F_least_costs⟩ := c.def_ 6 (d := dD_least_costs) rfl
  have m_least_costs := He.glo_ok X G (c.fact 6 (f := .glo "least_costs") rfl)
  obtain ⟨fd_way_share, F_way_share⟩ := c.def_ 7 (d := dD_way_share) rfl
  have m_way_share := He.glo_ok X G (c.fact 7 (f := .glo "way_share") rfl)
  obtain ⟨fd_is_no_better, F_is_no_better⟩ := c.def_ 8 (d := dD_is_no_better) rfl
  have m_is_no_better := He.glo_ok X G (c.fact 8 (f := .glo "is_no_better") rfl)
  obtain ⟨fd_kept_ways, F_kept_ways⟩ := c.def_ 9 (d := dD_kept_ways) rfl
  have m_kept_ways := He.glo_ok X G (c.fact 9 (f := .glo "kept_ways") rfl)
  obtain ⟨fd_is_thing, F_is_thing⟩ := c.def_ 10 (d := dD_is_thing) rfl
  have m_is_thing := He.glo_ok X G (c.fact 10 (f := .glo "is_thing") rfl)
  obtain ⟨fd_are_things, F_are_things⟩ := c.def_ 11 (d := dD_are_things) rfl
  have m_are_things := He.glo_ok X G (c.fact 11 (f := .glo "are_things") rfl)
  obtain ⟨fd_costs_at, F_costs_at⟩ := c.def_ 12 (d := dD_costs_at) rfl
  have m_costs_at := He.glo_ok X G (c.fact 12 (f := .glo "costs_at") rfl)
  obtain ⟨fd_least_have, F_least_have⟩ := c.def_ 13 (d := dD_least_have) rfl
  have m_least_have := He.glo_ok X G (c.fact 13 (f := .glo "least_have") rfl)
  obtain ⟨fd_told_state, F_told_state⟩ := c.def_ 14 (d := dD_told_state) rfl
  have m_told_state := He.glo_ok X G (c.fact 14 (f := .glo "told_state") rfl)
  obtain ⟨fd_eager_state, F_eager_state⟩ := c.def_ 15 (d := dD_eager_state) rfl
  have m_eager_state := He.glo_ok X G (c.fact 15 (f := .glo "eager_state") rfl)
  obtain ⟨fd_cost_by_states, F_cost_by_states⟩ := c.def_ 16 (d := dD_cost_by_states) rfl
  have m_cost_by_states := He.glo_ok X G (c.fact 16 (f := .glo "cost_by_states") rfl)
  obtain ⟨fd_told_cost, F_told_cost⟩ := c.def_ 17 (d := dD_told_cost) rfl
  have m_told_cost := He.glo_ok X G (c.fact 17 (f := .glo "told_cost") rfl)
  obtain ⟨fd_eager_cost, F_eager_cost⟩ := c.def_ 18 (d := dD_eager_cost) rfl
  have m_eager_cost := He.glo_ok X G (c.fact 18 (f := .glo "eager_cost") rfl)
  obtain ⟨fd_rent_cost, F_rent_cost⟩ := c.def_ 19 (d := dD_rent_cost) rfl
  have m_rent_cost := He.glo_ok X G (c.fact 19 (f := .glo "rent_cost") rfl)
  obtain ⟨fd_rent_table, F_rent_table⟩ := c.def_ 20 (d := dD_rent_table) rfl
  have m_rent_table := He.glo_ok X G (c.fact 20 (f := .glo "rent_table") rfl)
  obtain ⟨fd_cases_above, F_cases_above⟩ := c.def_ 21 (d := dD_cases_above) rfl
  have m_cases_above := He.glo_ok X G (c.fact 21 (f := .glo "cases_above") rfl)
  obtain ⟨fd_share_paper, F_share_paper⟩ := c.def_ 22 (d := dD_share_paper) rfl
  have m_share_paper := He.glo_ok X G (c.fact 22 (f := .glo "share_paper") rfl)
  obtain ⟨fd_is_case_row, F_is_case_row⟩ := c.def_ 23 (d := dD_is_case_row) rfl
  have m_is_case_row := He.glo_ok X G (c.fact 23 (f := .glo "is_case_row") rfl)
  obtain ⟨fd_judge_share, F_judge_share⟩ := c.def_ 24 (d := dD_judge_share) rfl
  have m_judge_share := He.glo_ok X G (c.fact 24 (f := .glo "judge_share") rfl)
  obtain ⟨fd__law_things, F__law_things⟩ := c.def_ 25 (d := dD__law_things) rfl
  have m__law_things := He.glo_ok X G (c.fact 25 (f := .glo "_law_things") rfl)
  obtain ⟨fd__law_state, F__law_state⟩ := c.def_ 26 (d := dD__law_state) rfl
  have m__law_state := He.glo_ok X G (c.fact 26 (f := .glo "_law_state") rfl)
  obtain ⟨fd__law_cost, F__law_cost⟩ := c.def_ 27 (d := dD__law_cost) rfl
  have m__law_cost := He.glo_ok X G (c.fact 27 (f := .glo "_law_cost") rfl)
  obtain ⟨fd, F⟩ := c.def_ 28 (d := dD_law) rfl
  have e := hfa.symm.trans (He.glo_ok X G (c.fact 28 (f := .glo "law") rfl))
  cases e
  have g_abs := He.free_ok X G (c.fact 29 (f := .free "abs") rfl)
  have g_all := He.free_ok X G (c.fact 30 (f := .free "all") rfl)
  have g_any := He.free_ok X G (c.fact 31 (f := .free "any") rfl)
  have g_bool := He.free_ok X G (c.fact 32 (f := .free "bool") rfl)
  have g_enumerate := He.free_ok X G (c.fact 33 (f := .free "enumerate") rfl)
  have g_int := He.free_ok X G (c.fact 34 (f := .free "int") rfl)
  have g_isinstance := He.free_ok X G (c.fact 35 (f := .free "isinstance") rfl)
  have g_len := He.free_ok X G (c.fact 36 (f := .free "len") rfl)
  have g_list := He.free_ok X G (c.fact 37 (f := .free "list") rfl)
  have g_max := He.free_ok X G (c.fact 38 (f := .free "max") rfl)
  have g_min := He.free_ok X G (c.fact 39 (f := .free "min") rfl)
  have g_range := He.free_ok X G (c.fact 40 (f := .free "range") rfl)
  have g_sorted := He.free_ok X G (c.fact 41 (f := .free "sorted") rfl)
  have g_str := He.free_ok X G (c.fact 42 (f := .free "str") rfl)
  have g_sum := He.free_ok X G (c.fact 43 (f := .free "sum") rfl)
  have g_tuple := He.free_ok X G (c.fact 44 (f := .free "tuple") rfl)
  have g_zip := He.free_ok X G (c.fact 45 (f := .free "zip") rfl)
  have b := FunD.bindsA (ps := ["script"]) F fun _ _ _ _ _ _ us hl => match us, hl with | [_], _ => rfl
  refine ⟨fd, fun s v => b s [v] rfl, fun base _ _ => ?_⟩
  have Go := c__law_open_cells (P := P) (w := w) (K := K) (mg := mg) (base := base) F__law_open_cells m__law_open_cells g_abs g_int
  have C__law_pick := c__law_pick (P := P) (w := w) (K := K) (mg := mg) (base := base) F__law_pick m__law_pick g_len g_int
  have C_share_number := c_share_number (P := P) (w := w) (K := K) (mg := mg) (base := base) F_share_number m_share_number g_abs
  have C_is_less_share := c_is_less_share (P := P) (w := w) (K := K) (mg := mg) (base := base) F_is_less_share m_is_less_share 
  have C_greater_share := c_greater_share (P := P) (w := w) (K := K) (mg := mg) (base := base) F_greater_share m_greater_share C_is_less_share
  have C_is_cost := c_is_cost (P := P) (w := w) (K := K) (mg := mg) (base := base) F_is_cost m_is_cost g_bool g_int g_isinstance
  have C_least_costs := c_least_costs (P := P) (w := w) (K := K) (mg := mg) (base := base) F_least_costs m_least_costs g_len g_min g_range g_tuple
  have C_way_share := c_way_share (P := P) (w := w) (K := K) (mg := mg) (base := base) F_way_share m_way_share g_zip C_greater_share C_least_costs C_share_number
  have C_is_no_better := c_is_no_better (P := P) (w := w) (K := K) (mg := mg) (base := base) F_is_no_better m_is_no_better g_all g_zip
  have C_kept_ways := c_kept_ways (P := P) (w := w) (K := K) (mg := mg) (base := base) F_kept_ways m_kept_ways g_any g_len g_list g_range g_tuple C_is_no_better
  have C_is_thing := c_is_thing (P := P) (w := w) (K := K) (mg := mg) (base := base) F_is_thing m_is_thing g_all g_isinstance g_len g_tuple C_is_cost
  have C_are_things := c_are_things (P := P) (w := w) (K := K) (mg := mg) (base := base) F_are_things m_are_things g_all g_isinstance g_list g_tuple g_zip C_is_thing
  have C_costs_at := c_costs_at (P := P) (w := w) (K := K) (mg := mg) (base := base) F_costs_at m_costs_at 
  have C_least_have := c_least_have (P := P) (w := w) (K := K) (mg := mg) (base := base) F_least_have m_least_have g_min C_costs_at
  have C_told_state := c_told_state (P := P) (w := w) (K := K) (mg := mg) (base := base) F_told_state m_told_state g_min C_costs_at
  have C_eager_state := c_eager_state (P := P) (w := w) (K := K) (mg := mg) (base := base) F_eager_state m_eager_state g_enumerate g_max g_min C_costs_at
  have C_cost_by_states := c_cost_by_states (P := P) (w := w) (K := K) (mg := mg) (base := base) F_cost_by_states m_cost_by_states g_sum
  have C_told_cost := c_told_cost (P := P) (w := w) (K := K) (mg := mg) (base := base) F_told_cost m_told_cost g_range C_cost_by_states C_told_state
  have C_eager_cost := c_eager_cost (P := P) (w := w) (K := K) (mg := mg) (base := base) F_eager_cost m_eager_cost g_range C_cost_by_states C_eager_state
  have C_rent_cost := c_rent_cost (P := P) (w := w) (K := K) (mg := mg) (base := base) F_rent_cost m_rent_cost 
  have C_rent_table := c_rent_table (P := P) (w := w) (K := K) (mg := mg) (base := base) F_rent_table m_rent_table g_range g_tuple C_rent_cost
  have C_cases_above := c_cases_above (P := P) (w := w) (K := K) (mg := mg) (base := base) F_cases_above m_cases_above g_enumerate g_zip C_least_costs
  have C_share_paper := c_share_paper (P := P) (w := w) (K := K) (mg := mg) (base := base) F_share_paper m_share_paper g_enumerate g_len g_range g_tuple C_cases_above
  have C_is_case_row := c_is_case_row (P := P) (w := w) (K := K) (mg := mg) (base := base) F_is_case_row m_is_case_row g_all g_isinstance g_len g_tuple C_is_cost
  have C_judge_share := c_judge_share (P := P) (w := w) (K := K) (mg := mg) (base := base) F_judge_share m_judge_share g_enumerate g_isinstance g_len g_str g_tuple C_cases_above C_is_case_row C_is_cost
  have C__law_things := c__law_things (P := P) (w := w) (K := K) (mg := mg) (base := base) F__law_things m__law_things g_max g_range g_tuple C__law_pick
  have C__law_state := c__law_state (P := P) (w := w) (K := K) (mg := mg) (base := base) F__law_state m__law_state g_enumerate g_min
  have C__law_cost := c__law_cost (P := P) (w := w) (K := K) (mg := mg) (base := base) F__law_cost m__law_cost g_sum
  exact c_law (P := P) (w := w) F F__law_open_cells m__law_open_cells Go g_len g_max g_min g_range g_sorted g_tuple g_zip C__law_cost C__law_pick C__law_state C__law_things C_are_things C_eager_cost C_eager_state C_is_no_better C_judge_share C_kept_ways C_least_costs C_least_have C_rent_cost C_rent_table C_share_paper C_told_cost C_told_state C_way_share law_true
end K46
open PySem PySem.W PySem.Calls PyProof.Rows
theorem PySem.Challenge.cw_beforeitcomes_k46_whole_prices_as_cost_t_holds : PySem.Challenge.rw_beforeitcomes_k46_whole_prices_as_cost_t.Holds := by
  w_on; o_law
  refine HandSHeadRun.head_any (r := OpenLaw.row PySem.Challenge.rw_beforeitcomes_k46_whole_prices_as_cost_t) (q := view (OpenLaw.row PySem.Challenge.rw_beforeitcomes_k46_whole_prices_as_cost_t).prog [34]) (H := K46.hkD) (ob := K46.obD) (M := 4000) (loose := (["_law_open_cells", "_law_pick", "share_number", "is_less_share", "greater_share", "is_cost", "least_costs", "way_share", "is_no_better", "kept_ways", "is_thing", "are_things", "costs_at", "least_have", "told_state", "eager_state", "cost_by_states", "told_cost", "eager_cost", "rent_cost", "rent_table", "cases_above", "share_paper", "is_case_row", "judge_share", "_law_things", "_law_state", "_law_cost"] : List PySem.Str)) (d := HandSHeadRun.topDef (OpenLaw.row PySem.Challenge.rw_beforeitcomes_k46_whole_prices_as_cost_t).prog 34) (kwd := []) K46.obD_eq
    (by kernel_rfl) (fun s => by kernel_rfl) K46.runD (by kernel_rfl) (by kernel_rfl) (by kernel_rfl) (by rfl) (by first | assumption | decide +kernel) (by decide +kernel) ⟨rfl, rfl, rfl, rfl, rfl, by decide +kernel⟩ ?hw ?hc
  case hw => w_witness2
  case hc =>
    refine L2.walk_ofE (l := PySem.Challenge.rw_beforeitcomes_k46_whole_prices_as_cost_t) (n := 63) (k := 4) (x := "script") (CX := L2.CX0) rfl (by decide) (by kernel_rfl) ⟨rfl, by decide, by decide⟩ ?F (fun _ _ _ _ z => z)
    intro w mg fa h Y G hmg0
    obtain ⟨K, KX, c⟩ := Y
    have hmg : mg ("law" : PySem.Str) = some (.ref fa) := by
      have e : (HandSHeadRun.topDef (OpenLaw.row PySem.Challenge.rw_beforeitcomes_k46_whole_prices_as_cost_t).prog 34).name = ("law" : PySem.Str) := by kernel_rfl
      rw [← e]
      exact hmg0
    obtain ⟨fd, hb, hF⟩ := K46.factsD (P := (PySem.Challenge.rw_beforeitcomes_k46_whole_prices_as_cost_t).prog) (w := w) KX G hmg c
    exact ⟨K, fd, K46.spLaw K, KX, hb, fun H a ns hl hle hS => ⟨a, ns, rfl, by omega, hS, fun _ => rfl⟩, hF⟩

