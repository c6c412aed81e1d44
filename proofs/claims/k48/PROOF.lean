import PyProof.Rows.All
import HandS.ForMost
import HandS.Walk
import HandS.Zip
import KE.Datum
import KE.DataEq
import HandS.TupAny
import HandS.Wide
import HandS.Style
import HandS.IsInst
import HandS.SortInts
import KE.DataMinMax
import HandS.Deep
import HandS.Strs
import KE.DataAny
import HandS.Comp
import HandS.Words
import HandS.Defaults
import HandS.SetFor
import HandS.Conv
import HandS.Star
import PyProof.WalkInts
import PyProof.WalksMore
import PyProof.SumWalkG
import PyProof.MeetsSeq
import KE.GoesZip
import KE.GoesMore
import KE.GoesEnum
import PyProof.ListNew
import HandS.WideBits
import HandS.HeadEnd
import PyProof.ReprRoads
import PyProof.CallFns
import HandS.Dict
import HandS.More
import HandS.TupMul
import PyProof.Rows.ListMulArg
import PyProof.Rows.SeqMore
import PySem.Challenge.RW_beforeitcomes_k48_whole_ends_known_far
import HandS.Base
import HandS.Call
import HandS.Ends
import HandS.WordsExc
import HandS.Head0
import HandS.Head1
import HandS.Head2
import HandS.HeadHook1
import HandS.HeadHook2
import KE.KStateDown
import Wide.All
import OpenK.AllK
import Wide.FinOn
-- part DLall
-- part DL0
set_option Elab.async false
set_option linter.all false
set_option maxRecDepth 100000
set_option maxHeartbeats 1000000
/-! DL0: a layer over HandS: each expression and statement is a Lean function of the def's slots, over deep data (PyData by Dp). -/
namespace L2
open PySem PySem.Spec PyProof.Rows

abbrev D := PyData

/-! ### deep data under a growing heap -/
theorem Rd.up {F G : Hp} {a : Addr} {u : HO} (e : Same F G) (h : Rd F a u) : Rd G a u := by
  rcases h with h | ⟨o, h⟩
  · exact .inl (e _ _ h)
  · exact .inr ⟨o, e _ _ h⟩
theorem sqL_up {K : PySem.W.Frag} {F G : Hp} {a : Addr} {xs : List V} (e : Same F G) (h : SqL K F a xs) : SqL K G a xs := by
  rcases h with h | h
  · exact .inl (Rd.up e h)
  · exact .inr h
theorem sqT_up {K : PySem.W.Frag} {F G : Hp} {a : Addr} {xs : List V} (e : Same F G) (h : SqT K F a xs) : SqT K G a xs := by
  rcases h with h | h
  · exact .inl (Rd.up e h)
  · exact .inr h
mutual
theorem Dp.up {K : PySem.W.Frag} {F G : Hp} (e : Same F G) : ∀ (d : D) (v : V), Dp K F v d → Dp K G v d
  | .none, _, h => by cases h; exact .non
  | .bool b, _, h => by cases h; exact .bl b
  | .int i, _, h => by cases h; exact .int i
  | .str x, _, h => by cases h; exact .str x
  | .list ds, _, h => by
    cases h with
    | lst h1 h2 => exact .lst (sqL_up e h1) (DpAll.up e ds _ h2)
  | .tuple ds, _, h => by
    cases h with
    | tup h1 h2 => exact .tup (sqT_up e h1) (DpAll.up e ds _ h2)
  | .dict _, _, h => by cases h
theorem DpAll.up {K : PySem.W.Frag} {F G : Hp} (e : Same F G) : ∀ (ds : List D) (vs : List V), DpAll K F vs ds → DpAll K G vs ds
  | [], vs, h => by
    cases vs with
    | nil => exact .nil
    | cons v vs => cases h
  | d :: ds, vs, h => by
    cases vs with
    | nil => cases h
    | cons v vs =>
      cases h with
      | cons h1 h2 => exact .cons (Dp.up e d v h1) (DpAll.up e ds vs h2)
end
section
variable {K : PySem.W.Frag} {F : Hp}
theorem DpAll.len : ∀ {vs : List V} {ds : List D}, DpAll K F vs ds → vs.length = ds.length
  | _, _, .nil => rfl
  | _, _, .cons _ t => by simp [DpAll.len t]
theorem DpAll.get : ∀ {vs : List V} {ds : List D} {i : Nat} {d : D}, DpAll K F vs ds → ds[i]? = some d → ∃ v, vs[i]? = some v ∧ Dp K F v d
  | [], [], _, _, _, e => by simp at e
  | v :: _, d :: _, 0, _, .cons h _, e => by
    simp at e
    subst e
    exact ⟨v, rfl, h⟩
  | _ :: vs, _ :: ds, i + 1, _, .cons _ t, e => by
    obtain ⟨v, h1, h2⟩ := DpAll.get (i := i) t (by simpa using e)
    exact ⟨v, by simpa using h1, h2⟩
theorem DpAll.getV : ∀ {vs : List V} {ds : List D} {i : Nat} {v : V}, DpAll K F vs ds → vs[i]? = some v → ∃ d, ds[i]? = some d ∧ Dp K F v d
  | [], [], _, _, _, e => by simp at e
  | v :: _, d :: _, 0, _, .cons h _, e => by
    simp at e
    subst e
    exact ⟨d, rfl, h⟩
  | _ :: vs, _ :: ds, i + 1, _, .cons _ t, e => by
    obtain ⟨v, h1, h2⟩ := DpAll.getV (i := i) t (by simpa using e)
    exact ⟨v, by simpa using h1, h2⟩
theorem DpAll.append : ∀ {vs ws : List V} {ds es : List D}, DpAll K F vs ds → DpAll K F ws es → DpAll K F (vs ++ ws) (ds ++ es)
  | [], _, [], _, _, t => t
  | _ :: _, _, _ :: _, _, .cons h s, t => .cons h (DpAll.append s t)
theorem DpAll.take : ∀ {vs : List V} {ds : List D} (n : Nat), DpAll K F vs ds → DpAll K F (vs.take n) (ds.take n)
  | _, _, 0, _ => by simpa using DpAll.nil
  | [], [], _ + 1, _ => by simpa using DpAll.nil
  | _ :: _, _ :: _, n + 1, .cons h t => by simpa using DpAll.cons h (DpAll.take n t)
theorem DpAll.drop : ∀ {vs : List V} {ds : List D} (n : Nat), DpAll K F vs ds → DpAll K F (vs.drop n) (ds.drop n)
  | _, _, 0, h => by simpa using h
  | [], [], _ + 1, _ => by simpa using DpAll.nil
  | _ :: _, _ :: _, n + 1, .cons _ t => by simpa using DpAll.drop n t
theorem DpAll.set : ∀ {vs : List V} {ds : List D} {v : V} {d : D} (n : Nat), DpAll K F vs ds → Dp K F v d → DpAll K F (vs.set n v) (ds.set n d)
  | [], [], _, _, _, _, _ => by simpa using DpAll.nil
  | _ :: _, _ :: _, _, _, 0, .cons _ t, h => by simpa using DpAll.cons h t
  | _ :: _, _ :: _, _, _, n + 1, .cons g t, h => by simpa using DpAll.cons g (DpAll.set n t h)
theorem DpAll.ints : ∀ {vs : List V} {ns : List Int}, DpAll K F vs (ns.map PyData.int) → vs = ns.map V.int
  | [], [], _ => rfl
  | v :: vs, n :: ns, h => by
    cases h with
    | cons h t =>
      cases h
      simp [DpAll.ints t]
theorem DpAll.bools : ∀ {vs : List V} {bs : List Bool}, DpAll K F vs (bs.map PyData.bool) → vs = bs.map V.bl
  | [], [], _ => rfl
  | v :: vs, n :: ns, h => by
    cases h with
    | cons h t =>
      cases h
      simp [DpAll.bools t]
theorem DpAll.of_ints : ∀ (ns : List Int), DpAll K F (ns.map V.int) (ns.map PyData.int)
  | [] => .nil
  | n :: ns => .cons (.int n) (DpAll.of_ints ns)
end

end L2
namespace DL
open PySem PySem.Spec PyProof.Rows L2
/-! ### the slots, what is drawn from -/
/-- the law's source: its cells from the first one on, the present one, the mixed number, turns -/
structure Src where
  cells : List Int
  left : Int
  mixed : Int
  turn : Int
/-- a slot: nothing yet; data that stands still; a list of one's own; the source -/
inductive Slot where
  | un | fz (d : D) | own (ds : List D) | src
structure Sta where
  env : List Slot
  src : Src
structure Fr where
  H0 : Hp
  F0 : Hp
  ps : Addr
  pc : Addr
def kvSrc (pc : Addr) (s : Src) : List (Key × V) := [(.inr "cells", .ref pc), (.inr "left", .int s.left), (.inr "mixed", .int s.mixed), (.inr "turn", .int s.turn)]
structure SrcAt (ps pc : Addr) (s : Src) (H : Hp) : Prop where
  d : H ps = some (.dK (kvSrc pc s))
  l : H pc = some (.lst (s.cells.map V.int))
def SlotOk (K : PySem.W.Frag) (c : Fr) (F H : Hp) : Option V → Slot → Prop
  | _, .un => True
  | some v, .fz d => Dp K F v d
  | some v, .own ds => ∃ p vs, v = .ref p ∧ H p = some (.lst vs) ∧ DpAll K F vs ds ∧ F p = none ∧ c.H0 p = none
  | some v, .src => v = .ref c.ps
  | none, _ => False
structure Rel (K : PySem.W.Frag) (c : Fr) (F : Hp) (S : Sta) (σ : L2.St) (H : Hp) : Prop where
  f0 : Same c.F0 F
  fh : Same F H
  fr : ∀ a o, F a = some o → c.F0 a = some o ∨ c.H0 a = none
  kp : ∀ a o, c.H0 a = some o → a ≠ c.ps → a ≠ c.pc → H a = some o
  hs : c.H0 c.ps ≠ none
  hc : c.H0 c.pc ≠ none
  sr : SrcAt c.ps c.pc S.src H
  fs : F c.ps = none
  fc : F c.pc = none
  len : σ.length = S.env.length
  sl : ∀ (i : Nat) (x : Slot), S.env[i]? = some x → SlotOk K c F H (σ[i]?).join x
  sep : ∀ (i j : Nat) (a b : List D), i ≠ j → S.env[i]? = some (.own a) → S.env[j]? = some (.own b) → (σ[i]?).join ≠ (σ[j]?).join

section
variable {K : PySem.W.Frag} {c : Fr} {F H : Hp} {S : Sta} {σ : L2.St}
theorem upd_up {p : Addr} {o : HO} (h : H p = none) : Same H (upd H p o) := fun b x e => by
  rw [upd_ne (ne_of_none e h)]
  exact e
theorem SlotOk.mono {F' H' : Hp} {v : Option V} {x : Slot} (h : SlotOk K c F H v x) (e : Same F F')
    (k : ∀ p, F p = none → c.H0 p = none → (∃ vs, H p = some (.lst vs)) → F' p = none ∧ H' p = H p) : SlotOk K c F' H' v x := by
  cases x with
  | un => trivial
  | fz d =>
    cases v with
    | none => exact h
    | some v => exact Dp.up e d v h
  | own ds =>
    cases v with
    | none => exact h
    | some v =>
      obtain ⟨p, vs, h1, h2, h3, h4, h5⟩ := h
      obtain ⟨k1, k2⟩ := k p h4 h5 ⟨vs, h2⟩
      exact ⟨p, vs, h1, k2.trans h2, DpAll.up e ds vs h3, k1, h5⟩
  | src =>
    cases v with
    | none => exact h
    | some v => exact h
/-- a new object that stands still -/
theorem Rel.alloc {p : Addr} {o : HO} (r : Rel K c F S σ H) (h : H p = none) : Rel K c (upd F p o) S σ (upd H p o) := by
  have fp : F p = none := r.fh.free h
  have nps : p ≠ c.ps := fun e => by
    have := r.sr.d
    rw [← e, h] at this
    cases this
  have npc : p ≠ c.pc := fun e => by
    have := r.sr.l
    rw [← e, h] at this
    cases this
  have h0 : c.H0 p = none := by
    cases q : c.H0 p with
    | none => rfl
    | some u =>
      have := r.kp p u q nps npc
      rw [h] at this
      cases this
  refine ⟨r.f0.trans (upd_up fp), fun b x e => ?_, fun a x e => ?_, fun a x e n1 n2 => ?_, r.hs, r.hc, ⟨?_, ?_⟩, ?_, ?_, r.len, fun i x e => ?_, r.sep⟩
  · by_cases hb : b = p
    · subst hb
      rw [upd_same] at e ⊢
      exact e
    · rw [upd_ne hb] at e ⊢
      exact r.fh b x e
  · by_cases hb : a = p
    · subst hb
      exact .inr h0
    · rw [upd_ne hb] at e
      exact r.fr a x e
  · have := r.kp a x e n1 n2
    rw [upd_ne (ne_of_none this h)]
    exact this
  · rw [upd_ne (Ne.symm nps)]
    exact r.sr.d
  · rw [upd_ne (Ne.symm npc)]
    exact r.sr.l
  · rw [upd_ne (Ne.symm nps)]
    exact r.fs
  · rw [upd_ne (Ne.symm npc)]
    exact r.fc
  · refine (r.sl i x e).mono (upd_up fp) fun q h1 h2 ⟨vs, h3⟩ => ?_
    have nq : q ≠ p := ne_of_none h3 h
    exact ⟨by rw [upd_ne nq]; exact h1, upd_ne nq⟩
/-- an object that no one knows -/
theorem Rel.junk {p : Addr} {o : HO} (r : Rel K c F S σ H) (h : H p = none) : Rel K c F S σ (upd H p o) := by
  have nps : p ≠ c.ps := fun e => by
    have := r.sr.d
    rw [← e, h] at this
    cases this
  have npc : p ≠ c.pc := fun e => by
    have := r.sr.l
    rw [← e, h] at this
    cases this
  refine ⟨r.f0, r.fh.trans (upd_up h), r.fr, fun a x e n1 n2 => ?_, r.hs, r.hc, ⟨?_, ?_⟩, r.fs, r.fc, r.len, fun i x e => ?_, r.sep⟩
  · exact upd_up h a x (r.kp a x e n1 n2)
  · rw [upd_ne (Ne.symm nps)]
    exact r.sr.d
  · rw [upd_ne (Ne.symm npc)]
    exact r.sr.l
  · refine (r.sl i x e).mono (Same.refl F) fun q h1 h2 ⟨vs, h3⟩ => ?_
    exact ⟨h1, upd_ne (ne_of_none h3 h)⟩
/-- the address of a slot's own list -/
theorem Rel.own_at {i : Nat} {ds : List D} (r : Rel K c F S σ H) (e : S.env[i]? = some (.own ds)) :
    ∃ p vs, σ[i]? = some (some (.ref p)) ∧ H p = some (.lst vs) ∧ DpAll K F vs ds ∧ F p = none ∧ c.H0 p = none := by
  have h := r.sl i _ e
  cases q : (σ[i]?).join with
  | none =>
    rw [q] at h
    exact h.elim
  | some v =>
    rw [q] at h
    obtain ⟨p, vs, h1, h2, h3, h4, h5⟩ := h
    subst h1
    refine ⟨p, vs, ?_, h2, h3, h4, h5⟩
    cases z : σ[i]? with
    | none =>
      rw [z] at q
      cases q
    | some w =>
      rw [z] at q
      have q' : w = some (V.ref p) := q
      rw [q']
theorem Rel.fz_at {i : Nat} {d : D} (r : Rel K c F S σ H) (e : S.env[i]? = some (.fz d)) : ∃ v, σ[i]? = some (some v) ∧ Dp K F v d := by
  have h := r.sl i _ e
  cases z : σ[i]? with
  | none =>
    rw [z] at h
    exact h.elim
  | some w =>
    rw [z] at h
    cases w with
    | none => exact h.elim
    | some v => exact ⟨v, rfl, h⟩
theorem Rel.src_at {i : Nat} (r : Rel K c F S σ H) (e : S.env[i]? = some .src) : σ[i]? = some (some (.ref c.ps)) := by
  have h := r.sl i _ e
  cases z : σ[i]? with
  | none =>
    rw [z] at h
    exact h.elim
  | some w =>
    rw [z] at h
    cases w with
    | none => exact h.elim
    | some v =>
      have h' : v = .ref c.ps := h
      rw [h']
/-- a slot is stored, the value data -/
theorem Rel.set_fz {i : Nat} {v : V} {d : D} (r : Rel K c F S σ H) (h : Dp K F v d) : Rel K c F { S with env := S.env.set i (.fz d) } (σ.set i (some v)) H := by
  refine ⟨r.f0, r.fh, r.fr, r.kp, r.hs, r.hc, r.sr, r.fs, r.fc, by simp [r.len], fun j x e => ?_, fun j k a b n e1 e2 => ?_⟩
  · by_cases hj : i = j
    · subst hj
      by_cases hl : i < S.env.length
      · rw [List.getElem?_set_self hl] at e
        rw [List.getElem?_set_self (by rw [r.len]; exact hl)]
        cases e
        exact h
      · rw [List.getElem?_eq_none (by simp; omega)] at e
        cases e
    · rw [List.getElem?_set_ne hj] at e ⊢
      exact r.sl j x e
  · have e1' : S.env[j]? = some (.own a) ∧ j ≠ i := by
      by_cases hj : i = j
      · subst hj
        by_cases hl : i < S.env.length
        · rw [List.getElem?_set_self hl] at e1
          cases e1
        · rw [List.getElem?_eq_none (by simp; omega)] at e1
          cases e1
      · rw [List.getElem?_set_ne hj] at e1
        exact ⟨e1, Ne.symm hj⟩
    have e2' : S.env[k]? = some (.own b) ∧ k ≠ i := by
      by_cases hj : i = k
      · subst hj
        by_cases hl : i < S.env.length
        · rw [List.getElem?_set_self hl] at e2
          cases e2
        · rw [List.getElem?_eq_none (by simp; omega)] at e2
          cases e2
      · rw [List.getElem?_set_ne hj] at e2
        exact ⟨e2, Ne.symm hj⟩
    rw [List.getElem?_set_ne (Ne.symm e1'.2), List.getElem?_set_ne (Ne.symm e2'.2)]
    exact r.sep j k a b n e1'.1 e2'.1
/-- a new list is stored, one's own -/
theorem Rel.set_own {i : Nat} {p : Addr} {vs : List V} {ds : List D} (r : Rel K c F S σ H) (h : H p = none) (hd : DpAll K F vs ds) :
    Rel K c F { S with env := S.env.set i (.own ds) } (σ.set i (some (.ref p))) (upd H p (.lst vs)) := by
  have r' := r.junk (o := .lst vs) h
  have fp : F p = none := r.fh.free h
  have h0 : c.H0 p = none := by
    cases q : c.H0 p with
    | none => rfl
    | some u =>
      have nps : p ≠ c.ps := fun e => by
        have := r.sr.d
        rw [← e, h] at this
        cases this
      have npc : p ≠ c.pc := fun e => by
        have := r.sr.l
        rw [← e, h] at this
        cases this
      have := r.kp p u q nps npc
      rw [h] at this
      cases this
  have other : ∀ (j : Nat) (b : List D), S.env[j]? = some (.own b) → (σ[j]?).join ≠ some (.ref p) := fun j b e z => by
    obtain ⟨q, ws, h1, h2, _⟩ := r.own_at e
    rw [h1] at z
    have z' : q = p := by
      have : V.ref q = V.ref p := Option.some.inj z
      exact V.ref.inj this
    rw [z', h] at h2
    cases h2
  refine ⟨r'.f0, r'.fh, r'.fr, r'.kp, r.hs, r.hc, r'.sr, r.fs, r.fc, by simp [r.len], fun j x e => ?_, fun j k a b n e1 e2 => ?_⟩
  · by_cases hj : i = j
    · subst hj
      by_cases hl : i < S.env.length
      · rw [List.getElem?_set_self hl] at e
        rw [List.getElem?_set_self (by rw [r.len]; exact hl)]
        cases e
        exact ⟨p, vs, rfl, upd_same, hd, fp, h0⟩
      · rw [List.getElem?_eq_none (by simp; omega)] at e
        cases e
    · rw [List.getElem?_set_ne hj] at e ⊢
      exact r'.sl j x e
  · by_cases hj : i = j
    · subst hj
      have hl : i < S.env.length := by
        by_cases hl : i < S.env.length
        · exact hl
        · rw [List.getElem?_eq_none (by simp; omega)] at e1
          cases e1
      rw [List.getElem?_set_ne n] at e2
      rw [List.getElem?_set_self (by rw [r.len]; exact hl), List.getElem?_set_ne n]
      exact fun z => other k b e2 z.symm
    · rw [List.getElem?_set_ne hj] at e1
      by_cases hk : i = k
      · subst hk
        have hl : i < S.env.length := by
          by_cases hl : i < S.env.length
          · exact hl
          · rw [List.getElem?_eq_none (by simp; omega)] at e2
            cases e2
        rw [List.getElem?_set_self (by rw [r.len]; exact hl), List.getElem?_set_ne hj]
        exact other j a e1
      · rw [List.getElem?_set_ne hk] at e2
        rw [List.getElem?_set_ne hj, List.getElem?_set_ne hk]
        exact r.sep j k a b n e1 e2
/-- one's own list is changed -/
theorem Rel.put_own {i : Nat} {p : Addr} {vs : List V} {ds es : List D} (r : Rel K c F S σ H) (e : S.env[i]? = some (.own ds)) (hp : σ[i]? = some (some (.ref p))) (hd : DpAll K F vs es) :
    Rel K c F { S with env := S.env.set i (.own es) } σ (upd H p (.lst vs)) := by
  obtain ⟨q, ws, h1, h2, h3, h4, h5⟩ := r.own_at e
  obtain rfl : p = q := by
    rw [hp] at h1
    exact V.ref.inj (Option.some.inj (Option.some.inj h1))
  have hl : i < S.env.length := (List.getElem?_eq_some_iff.mp e).1
  have nps : p ≠ c.ps := fun z => r.hs (z ▸ h5)
  have npc : p ≠ c.pc := fun z => r.hc (z ▸ h5)
  refine ⟨r.f0, fun b x z => ?_, r.fr, fun a x z n1 n2 => ?_, r.hs, r.hc, ⟨?_, ?_⟩, r.fs, r.fc, by simp [r.len], fun j x z => ?_, fun j k a b n e1 e2 => ?_⟩
  · rw [upd_ne (ne_of_none z h4)]
    exact r.fh b x z
  · rw [upd_ne (ne_of_none z h5)]
    exact r.kp a x z n1 n2
  · rw [upd_ne (Ne.symm nps)]
    exact r.sr.d
  · rw [upd_ne (Ne.symm npc)]
    exact r.sr.l
  · by_cases hj : i = j
    · subst hj
      rw [List.getElem?_set_self hl] at z
      cases z
      rw [hp]
      exact ⟨p, vs, rfl, upd_same, hd, h4, h5⟩
    · rw [List.getElem?_set_ne hj] at z
      cases x with
      | own b =>
        obtain ⟨q, us, g1, g2, g3, g4, g5⟩ := r.own_at z
        have nq : q ≠ p := fun w => by
          refine r.sep i j ds b hj e z ?_
          rw [hp, g1, w]
        rw [g1]
        exact ⟨q, us, rfl, by rw [upd_ne nq]; exact g2, g3, g4, g5⟩
      | un => trivial
      | fz d =>
        obtain ⟨v, g1, g2⟩ := r.fz_at z
        rw [g1]
        exact g2
      | src =>
        rw [r.src_at z]
        rfl
  · have f1 : ∃ a', S.env[j]? = some (.own a') := by
      by_cases hj : i = j
      · subst hj
        exact ⟨ds, e⟩
      · rw [List.getElem?_set_ne hj] at e1
        exact ⟨a, e1⟩
    have f2 : ∃ b', S.env[k]? = some (.own b') := by
      by_cases hj : i = k
      · subst hj
        exact ⟨ds, e⟩
      · rw [List.getElem?_set_ne hj] at e2
        exact ⟨b, e2⟩
    obtain ⟨a', f1⟩ := f1
    obtain ⟨b', f2⟩ := f2
    exact r.sep j k a' b' n f1 f2
/-- one's own list stands still from here on -/
theorem Rel.freeze {i : Nat} {ds : List D} (r : Rel K c F S σ H) (e : S.env[i]? = some (.own ds)) :
    ∃ p F', σ[i]? = some (some (.ref p)) ∧ Same F F' ∧ Dp K F' (.ref p) (.list ds) ∧ Rel K c F' { S with env := S.env.set i (.fz (.list ds)) } σ H := by
  obtain ⟨p, vs, h1, h2, h3, h4, h5⟩ := r.own_at e
  have hl : i < S.env.length := (List.getElem?_eq_some_iff.mp e).1
  have nps : p ≠ c.ps := fun z => r.hs (z ▸ h5)
  have npc : p ≠ c.pc := fun z => r.hc (z ▸ h5)
  have up := upd_up (o := .lst vs) h4
  have hd : Dp K (upd F p (.lst vs)) (.ref p) (.list ds) := .lst (.inl (.inl upd_same)) (DpAll.up up ds vs h3)
  refine ⟨p, upd F p (.lst vs), h1, up, hd, r.f0.trans up, fun b x z => ?_, fun a x z => ?_, r.kp, r.hs, r.hc, r.sr, ?_, ?_, by simp [r.len], fun j x z => ?_, fun j k a b n e1 e2 => ?_⟩
  · by_cases hb : b = p
    · subst hb
      rw [upd_same] at z
      cases z
      exact h2
    · rw [upd_ne hb] at z
      exact r.fh b x z
  · by_cases hb : a = p
    · subst hb
      exact .inr h5
    · rw [upd_ne hb] at z
      exact r.fr a x z
  · rw [upd_ne (Ne.symm nps)]
    exact r.fs
  · rw [upd_ne (Ne.symm npc)]
    exact r.fc
  · by_cases hj : i = j
    · subst hj
      rw [List.getElem?_set_self hl] at z
      cases z
      rw [h1]
      exact hd
    · rw [List.getElem?_set_ne hj] at z
      cases x with
      | own b =>
        obtain ⟨q, us, g1, g2, g3, g4, g5⟩ := r.own_at z
        have nq : q ≠ p := fun w => by
          refine r.sep i j ds b hj e z ?_
          rw [h1, g1, w]
        rw [g1]
        exact ⟨q, us, rfl, g2, DpAll.up up b us g3, by rw [upd_ne nq]; exact g4, g5⟩
      | un => trivial
      | fz d =>
        obtain ⟨v, g1, g2⟩ := r.fz_at z
        rw [g1]
        exact Dp.up up d v g2
      | src =>
        rw [r.src_at z]
        rfl
  · have f1 : S.env[j]? = some (.own a) := by
      by_cases hj : i = j
      · subst hj
        rw [List.getElem?_set_self hl] at e1
        cases e1
      · rw [List.getElem?_set_ne hj] at e1
        exact e1
    have f2 : S.env[k]? = some (.own b) := by
      by_cases hj : i = k
      · subst hj
        rw [List.getElem?_set_self hl] at e2
        cases e2
      · rw [List.getElem?_set_ne hj] at e2
        exact e2
    exact r.sep j k a b n f1 f2
end
end DL

-- part DL1
set_option Elab.async false
set_option linter.all false
set_option maxRecDepth 100000
set_option maxHeartbeats 1000000
/-! DL1: operations on data, by values. -/
namespace DL
open PySem PySem.Spec PyProof.Rows L2

/-- the answer d, standing in F or as a new object -/
def RES (K : PySem.W.Frag) (F H : Hp) (d : D) (Q : VK) : Prop :=
  (∀ u, Dp K F u d → Q u H) ∧ ∀ p o, H p = none → Dp K (upd F p o) (.ref p) d → Q (.ref p) (upd H p o)
def r2D (K : PySem.W.Frag) (f : D → D → Option D) : R2 := fun v w H Q => ∃ F x y d, Same F H ∧ Dp K F v x ∧ Dp K F w y ∧ f x y = some d ∧ RES K F H d Q
def r1D (K : PySem.W.Frag) (f : D → Option D) : V → Hp → VK → Prop := fun v H Q => ∃ F x d, Same F H ∧ Dp K F v x ∧ f x = some d ∧ RES K F H d Q
def rnD (K : PySem.W.Frag) (f : List D → Option D) : List V → Hp → VK → Prop := fun vs H Q => ∃ F xs d, Same F H ∧ DpAll K F vs xs ∧ f xs = some d ∧ RES K F H d Q
/-- one function, else the other -/
def alt (f g : D → D → Option D) (x y : D) : Option D := match f x y with | some d => some d | none => g x y
def altN (f g : List D → Option D) (xs : List D) : Option D := match f xs with | some d => some d | none => g xs
theorem alt_l {f g : D → D → Option D} {x y d : D} (h : f x y = some d) : alt f g x y = some d := by unfold alt; rw [h]
theorem alt_r {f g : D → D → Option D} {x y d : D} (h : f x y = none) (h' : g x y = some d) : alt f g x y = some d := by unfold alt; rw [h]; exact h'
section
variable {X : Cx}
theorem opr_alt {fn : Value → Value → Sem Value} {f g : D → D → Option D} (h : OpR X fn (r2D X.K f)) (h' : OpR X fn (r2D X.K g)) : OpR X fn (r2D X.K (alt f g)) := by
  intro pins s σ H x y v u Q I rx ry q
  obtain ⟨F, a, b, d, e, ha, hb, hf, q⟩ := q
  unfold alt at hf
  cases z : f a b with
  | some d' =>
    rw [z] at hf
    exact h pins s σ H x y v u Q I rx ry ⟨F, a, b, d', e, ha, hb, z, Option.some.inj hf ▸ q⟩
  | none =>
    rw [z] at hf
    exact h' pins s σ H x y v u Q I rx ry ⟨F, a, b, d, e, ha, hb, hf, q⟩
theorem ixr_alt {f g : D → D → Option D} (h : IxR X (r2D X.K f)) (h' : IxR X (r2D X.K g)) : IxR X (r2D X.K (alt f g)) := by
  intro value slice pins s σ H x y v u Q I rx ry q hs
  obtain ⟨F, a, b, d, e, ha, hb, hf, q⟩ := q
  unfold alt at hf
  cases z : f a b with
  | some d' =>
    rw [z] at hf
    exact h value slice pins s σ H x y v u Q I rx ry ⟨F, a, b, d', e, ha, hb, z, Option.some.inj hf ▸ q⟩ hs
  | none =>
    rw [z] at hf
    exact h' value slice pins s σ H x y v u Q I rx ry ⟨F, a, b, d, e, ha, hb, hf, q⟩ hs
theorem callr_alt {fn : Value} {f g : List D → Option D} (h : CallR X fn (rnD X.K f)) (h' : CallR X fn (rnD X.K g)) : CallR X fn (rnD X.K (altN f g)) := by
  intro pins s σ H xs us Q I r q
  obtain ⟨F, ds, d, e, ha, hf, q⟩ := q
  unfold altN at hf
  cases z : f ds with
  | some d' =>
    rw [z] at hf
    exact h pins s σ H xs us Q I r ⟨F, ds, d', e, ha, z, Option.some.inj hf ▸ q⟩
  | none =>
    rw [z] at hf
    exact h' pins s σ H xs us Q I r ⟨F, ds, d, e, ha, hf, q⟩
/-- an operator's rule by a weaker reading -/
theorem opr_imp {fn : Value → Value → Sem Value} {r r' : R2} (h : OpR X fn r) (i : ∀ x y H Q, r' x y H Q → r x y H Q) : OpR X fn r' :=
  fun pins s σ H x y v u Q I rx ry q => h pins s σ H x y v u Q I rx ry (i x y H Q q)
theorem ixr_imp {r r' : R2} (h : IxR X r) (i : ∀ x y H Q, r' x y H Q → r x y H Q) : IxR X r' :=
  fun value slice pins s σ H x y v u Q I rx ry q hs => h value slice pins s σ H x y v u Q I rx ry (i x y H Q q) hs
theorem callr_imp {fn : Value} {r r' : List V → Hp → VK → Prop} (h : CallR X fn r) (i : ∀ xs H Q, r' xs H Q → r xs H Q) : CallR X fn r' :=
  fun pins s σ H xs us Q I rs q => h pins s σ H xs us Q I rs (i xs H Q q)
theorem unr_imp {fn : Value → Sem Value} {r r' : V → Hp → VK → Prop} (h : UnR X fn r) (i : ∀ x H Q, r' x H Q → r x H Q) : UnR X fn r' :=
  fun pins s σ H x v Q I rs q => h pins s σ H x v Q I rs (i x H Q q)

/-! ### ints -/
def oI (g : Int → Int → Option D) : D → D → Option D
  | .int i, .int j => g i j
  | _, _ => none
theorem oI_some {g : Int → Int → Option D} {x y d : D} (h : oI g x y = some d) : ∃ i j, x = .int i ∧ y = .int j ∧ g i j = some d := by
  cases x <;> cases y <;> first | exact ⟨_, _, rfl, rfl, h⟩ | exact nomatch h
theorem opI_D {fn : Value → Value → Sem Value} {C : Int → Int → Prop} {g : Int → Int → V} {f : Int → Int → Option D} (h : OpR X fn (rI C g)) (k : ∀ i j d, f i j = some d → C i j ∧ ∀ F, Dp X.K F (g i j) d) : OpR X fn (r2D X.K (oI f)) :=
  opr_imp h fun x y H Q ⟨F, a, b, d, e, ha, hb, hf, q⟩ => by
    obtain ⟨i, j, rfl, rfl, hg⟩ := oI_some hf
    cases ha
    cases hb
    obtain ⟨hc, hd⟩ := k i j d hg
    exact ⟨i, j, rfl, rfl, hc, q.1 _ (hd F)⟩
theorem opI0_D {fn : Value → Value → Sem Value} {g : Int → Int → V} {f : Int → Int → D} (h : OpR X fn (rI0 g)) (k : ∀ i j F, Dp X.K F (g i j) (f i j)) : OpR X fn (r2D X.K (oI fun i j => some (f i j))) :=
  opr_imp h fun x y H Q ⟨F, a, b, d, e, ha, hb, hf, q⟩ => by
    obtain ⟨i, j, rfl, rfl, hg⟩ := oI_some hf
    cases ha
    cases hb
    cases hg
    exact ⟨i, j, rfl, rfl, q.1 _ (k i j F)⟩
def addI : D → D → Option D := oI fun i j => some (.int (i + j))
def subI : D → D → Option D := oI fun i j => some (.int (i - j))
def mulI : D → D → Option D := oI fun i j => if i.natAbs.log2 + j.natAbs.log2 < 1000000 then some (.int (i * j)) else none
def divI : D → D → Option D := oI fun i j => if 0 < j ∧ j.natAbs.log2 < 9000 then some (.int (i / j)) else none
def modI : D → D → Option D := oI fun i j => if j ≠ 0 then some (.int (i.fmod j)) else none
def ltI : D → D → Option D := oI fun i j => some (.bool (decide (i < j)))
def leI : D → D → Option D := oI fun i j => some (.bool (decide (i ≤ j)))
def gtI : D → D → Option D := oI fun i j => some (.bool (decide (j < i)))
def geI : D → D → Option D := oI fun i j => some (.bool (decide (j ≤ i)))
theorem opd_add : OpR X (binaryOp .Add) (r2D X.K addI) := opI0_D op_add fun _ _ _ => .int _
theorem opd_sub : OpR X (binaryOp .Sub) (r2D X.K subI) := opI0_D op_sub fun _ _ _ => .int _
theorem opd_mul : OpR X (binaryOp .Mult) (r2D X.K mulI) := opI_D op_mulW fun i j d h => by
  by_cases c : i.natAbs.log2 + j.natAbs.log2 < 1000000
  · rw [if_pos c] at h
    cases h
    exact ⟨c, fun _ => .int _⟩
  · rw [if_neg c] at h
    cases h
theorem opd_div : OpR X (binaryOp .FloorDiv) (r2D X.K divI) := opI_D op_fdivW fun i j d h => by
  by_cases c : 0 < j ∧ j.natAbs.log2 < 9000
  · rw [if_pos c] at h
    cases h
    exact ⟨c, fun _ => .int _⟩
  · rw [if_neg c] at h
    cases h
theorem opd_mod : OpR X (binaryOp .Mod) (r2D X.K modI) := opI_D op_modN fun i j d h => by
  by_cases c : j ≠ 0
  · rw [if_pos c] at h
    cases h
    exact ⟨c, fun _ => .int _⟩
  · rw [if_neg c] at h
    cases h
theorem opd_lt : OpR X (compareOp .Lt) (r2D X.K ltI) := opI0_D op_lt fun _ _ _ => .bl _
theorem opd_le : OpR X (compareOp .LtE) (r2D X.K leI) := opI0_D op_le fun _ _ _ => .bl _
theorem opd_gt : OpR X (compareOp .Gt) (r2D X.K gtI) := opI0_D op_gt fun _ _ _ => .bl _
theorem opd_ge : OpR X (compareOp .GtE) (r2D X.K geI) := opI0_D op_ge fun _ _ _ => .bl _

/-! ### == over any data; None; bools -/
def okD (d : D) : Bool := d.canLay0 && decide (d.depth ≤ 64)
def eqD (x y : D) : Option D := if okD x = true ∧ okD y = true then some (.bool (PyData.eqv x y)) else none
def neD (x y : D) : Option D := if okD x = true ∧ okD y = true then some (.bool (!PyData.eqv x y)) else none
theorem opd_eq (hu : X.A.units + 64 < cLine) : OpR X (compareOp .Eq) (r2D X.K eqD) :=
  opr_imp (op_eqD hu) fun x y H Q ⟨F, a, b, d, e, ha, hb, hf, q⟩ => by
    unfold eqD at hf
    by_cases c : okD a = true ∧ okD b = true
    · rw [if_pos c] at hf
      cases hf
      exact ⟨a, b, Dp.up e _ _ ha, Dp.up e _ _ hb, c.1, c.2, q.1 _ (.bl _)⟩
    · rw [if_neg c] at hf
      cases hf
theorem opd_ne (hu : X.A.units + 64 < cLine) : OpR X (compareOp .NotEq) (r2D X.K neD) :=
  opr_imp (op_neD hu) fun x y H Q ⟨F, a, b, d, e, ha, hb, hf, q⟩ => by
    unfold neD at hf
    by_cases c : okD a = true ∧ okD b = true
    · rw [if_pos c] at hf
      cases hf
      exact ⟨a, b, Dp.up e _ _ ha, Dp.up e _ _ hb, c.1, c.2, q.1 _ (.bl _)⟩
    · rw [if_neg c] at hf
      cases hf
def isNone : D → Bool
  | .none => true
  | _ => false
def isD (x y : D) : Option D := match y with
  | .none => some (.bool (isNone x))
  | .bool b => match x with
    | .bool a => some (.bool (decide (a = b)))
    | _ => none
  | _ => none
def notIsD (x y : D) : Option D := match y with
  | .none => some (.bool (!isNone x))
  | .bool b => match x with
    | .bool a => some (.bool (!decide (a = b)))
    | _ => none
  | _ => none
theorem isNone_of {K : PySem.W.Frag} {F : Hp} {v : V} {d : D} (h : Dp K F v d) : decide (v = V.non) = isNone d := by
  cases h <;> rfl
theorem opd_is : OpR X (compareOp .Is) (r2D X.K isD) := by
  intro pins s σ H x y v u Q I rx ry q
  obtain ⟨F, a, b, d, e, ha, hb, hf, q⟩ := q
  cases hb with
  | non =>
    have hf' : some (PyData.bool (isNone a)) = some d := hf
    cases hf'
    exact op_isN pins s σ H x _ v u Q I rx ry ⟨rfl, by rw [isNone_of ha]; exact q.1 _ (.bl _)⟩
  | bl b =>
    cases ha with
    | bl a =>
      have hf' : some (PyData.bool (decide (a = b))) = some d := hf
      cases hf'
      exact op_isBl pins s σ H _ _ v u Q I rx ry ⟨a, b, rfl, rfl, q.1 _ (.bl _)⟩
    | non => exact nomatch hf
    | int _ => exact nomatch hf
    | str _ => exact nomatch hf
    | lst _ _ => exact nomatch hf
    | tup _ _ => exact nomatch hf
  | int _ => exact nomatch hf
  | str _ => exact nomatch hf
  | lst _ _ => exact nomatch hf
  | tup _ _ => exact nomatch hf
theorem opd_isnot : OpR X (compareOp .IsNot) (r2D X.K notIsD) := by
  intro pins s σ H x y v u Q I rx ry q
  obtain ⟨F, a, b, d, e, ha, hb, hf, q⟩ := q
  cases hb with
  | non =>
    have hf' : some (PyData.bool (!isNone a)) = some d := hf
    cases hf'
    exact op_notN pins s σ H x _ v u Q I rx ry ⟨rfl, by rw [isNone_of ha]; exact q.1 _ (.bl _)⟩
  | bl b =>
    cases ha with
    | bl a =>
      have hf' : some (PyData.bool (!decide (a = b))) = some d := hf
      cases hf'
      exact op_notBl pins s σ H _ _ v u Q I rx ry ⟨a, b, rfl, rfl, q.1 _ (.bl _)⟩
    | non => exact nomatch hf
    | int _ => exact nomatch hf
    | str _ => exact nomatch hf
    | lst _ _ => exact nomatch hf
    | tup _ _ => exact nomatch hf
  | int _ => exact nomatch hf
  | str _ => exact nomatch hf
  | lst _ _ => exact nomatch hf
  | tup _ _ => exact nomatch hf

/-! ### x in c -/
def items : D → Option (List D)
  | .list xs => some xs
  | .tuple xs => some xs
  | _ => none
def inD (x c : D) : Option D := match items c with
  | some xs => if okD c = true ∧ okD x = true then some (.bool (xs.any fun y => PyData.eqv y x)) else none
  | none => none
def notInD (x c : D) : Option D := match items c with
  | some xs => if okD c = true ∧ okD x = true then some (.bool (!xs.any fun y => PyData.eqv y x)) else none
  | none => none
theorem okD_plain {d : D} (h : okD d = true) : d.plain = true ∧ d.depth ≤ 64 := by
  unfold okD at h
  rw [Bool.and_eq_true] at h
  exact ⟨PyData.plain_of_canLay0 d h.1, of_decide_eq_true h.2⟩
theorem opd_in (hu : X.A.units + 66 < cLine) : OpR X (compareOp .In) (r2D X.K inD) := by
  intro pins s σ H x y v u Q I rx ry q
  obtain ⟨F, a, b, d, e, ha, hb, hf, q⟩ := q
  obtain ⟨as, ra⟩ := Dp.reads I a x v (Dp.up e _ _ ha) rx
  obtain ⟨bs, rb⟩ := Dp.reads I b y u (Dp.up e _ _ hb) ry
  unfold inD at hf
  cases b with
  | list xs =>
    have hf' : (if okD (.list xs) = true ∧ okD a = true then some (PyData.bool (xs.any fun y => PyData.eqv y a)) else none) = some d := hf
    by_cases c : okD (.list xs) = true ∧ okD a = true
    · rw [if_pos c] at hf'
      cases hf'
      have p1 := okD_plain c.1
      have p2 := okD_plain c.2
      exact PySem.SeqAt.in_list_data rb ra p1.1 p2.1 (by have := p2.2; omega) ⟨.bl _, H, I, rfl, q.1 _ (.bl _)⟩
    · rw [if_neg c] at hf'
      cases hf'
  | tuple xs =>
    have hf' : (if okD (.tuple xs) = true ∧ okD a = true then some (PyData.bool (xs.any fun y => PyData.eqv y a)) else none) = some d := hf
    by_cases c : okD (.tuple xs) = true ∧ okD a = true
    · rw [if_pos c] at hf'
      cases hf'
      have p1 := okD_plain c.1
      have p2 := okD_plain c.2
      exact PySem.SeqAt.in_tuple_data rb ra p1.1 p2.1 (by have := p2.2; omega) ⟨.bl _, H, I, rfl, q.1 _ (.bl _)⟩
    · rw [if_neg c] at hf'
      cases hf'
  | none => exact nomatch hf
  | bool _ => exact nomatch hf
  | int _ => exact nomatch hf
  | str _ => exact nomatch hf
  | dict _ => exact nomatch hf
theorem opd_notin (hu : X.A.units + 66 < cLine) : OpR X (compareOp .NotIn) (r2D X.K notInD) := by
  intro pins s σ H x y v u Q I rx ry q
  obtain ⟨F, a, b, d, e, ha, hb, hf, q⟩ := q
  obtain ⟨as, ra⟩ := Dp.reads I a x v (Dp.up e _ _ ha) rx
  obtain ⟨bs, rb⟩ := Dp.reads I b y u (Dp.up e _ _ hb) ry
  unfold notInD at hf
  cases b with
  | list xs =>
    have hf' : (if okD (.list xs) = true ∧ okD a = true then some (PyData.bool (!xs.any fun y => PyData.eqv y a)) else none) = some d := hf
    by_cases c : okD (.list xs) = true ∧ okD a = true
    · rw [if_pos c] at hf'
      cases hf'
      have p1 := okD_plain c.1
      have p2 := okD_plain c.2
      exact PySem.SeqAt.notIn_list_data rb ra p1.1 p2.1 (by have := p2.2; omega) ⟨.bl _, H, I, rfl, q.1 _ (.bl _)⟩
    · rw [if_neg c] at hf'
      cases hf'
  | tuple xs =>
    have hf' : (if okD (.tuple xs) = true ∧ okD a = true then some (PyData.bool (!xs.any fun y => PyData.eqv y a)) else none) = some d := hf
    by_cases c : okD (.tuple xs) = true ∧ okD a = true
    · rw [if_pos c] at hf'
      cases hf'
      have p1 := okD_plain c.1
      have p2 := okD_plain c.2
      exact PySem.SeqAt.notIn_tuple_data rb ra p1.1 p2.1 (by have := p2.2; omega) ⟨.bl _, H, I, rfl, q.1 _ (.bl _)⟩
    · rw [if_neg c] at hf'
      cases hf'
  | none => exact nomatch hf
  | bool _ => exact nomatch hf
  | int _ => exact nomatch hf
  | str _ => exact nomatch hf
  | dict _ => exact nomatch hf

/-! ### subscripts, t + u -/
def ixD (x y : D) : Option D := match items x, y with
  | some xs, .int i => atI xs i
  | _, _ => none
theorem _root_.L2.DpAll.atI {K : PySem.W.Frag} {F : Hp} {vs : List V} {ds : List D} {i : Int} {d : D} (h : DpAll K F vs ds) (e : L2.atI ds i = some d) : ∃ v, L2.atI vs i = some v ∧ Dp K F v d := by
  unfold L2.atI at e ⊢
  rw [h.len]
  cases z : L2.ixN ds.length i with
  | none =>
    rw [z] at e
    cases e
  | some j =>
    rw [z] at e
    exact h.get e
theorem ixr_D : IxR X (r2D X.K ixD) := by
  intro value slice pins s σ H x y v u Q I rx ry q hs
  obtain ⟨F, a, b, d, e, ha, hb, hf, q⟩ := q
  unfold ixD at hf
  cases ha with
  | lst h1 h2 =>
    cases hb with
    | int i =>
      have hf' : atI _ i = some d := hf
      obtain ⟨z, g1, g2⟩ := h2.atI hf'
      exact ix_list value slice pins s σ H _ _ v u Q I rx ry ⟨_, _, i, z, rfl, rfl, sqL_up e h1, g1, q.1 z g2⟩ hs
    | non => exact nomatch hf
    | bl _ => exact nomatch hf
    | str _ => exact nomatch hf
    | lst _ _ => exact nomatch hf
    | tup _ _ => exact nomatch hf
  | tup h1 h2 =>
    cases hb with
    | int i =>
      have hf' : atI _ i = some d := hf
      obtain ⟨z, g1, g2⟩ := h2.atI hf'
      exact ix_tup value slice pins s σ H _ _ v u Q I rx ry ⟨_, _, i, z, rfl, rfl, sqT_up e h1, g1, q.1 z g2⟩ hs
    | non => exact nomatch hf
    | bl _ => exact nomatch hf
    | str _ => exact nomatch hf
    | lst _ _ => exact nomatch hf
    | tup _ _ => exact nomatch hf
  | non => exact nomatch hf
  | bl _ => exact nomatch hf
  | int _ => exact nomatch hf
  | str _ => exact nomatch hf
def addT (x y : D) : Option D := match x, y with
  | .tuple xs, .tuple ys => if xs.length + ys.length ≤ sizeLine then some (.tuple (xs ++ ys)) else none
  | _, _ => none
theorem opd_addT : OpR X (binaryOp .Add) (r2D X.K addT) :=
  opr_imp op_catA fun x y H Q ⟨F, a, b, d, e, ha, hb, hf, q⟩ => by
    cases ha with
    | @tup p xs ds h1 h2 =>
      cases hb with
      | @tup p' ys es g1 g2 =>
        have hf' : (if ds.length + es.length ≤ sizeLine then some (PyData.tuple (ds ++ es)) else none) = some d := hf
        by_cases c : ds.length + es.length ≤ sizeLine
        · rw [if_pos c] at hf'
          cases hf'
          refine ⟨p, p', xs, ys, rfl, rfl, sqT_up e h1, sqT_up e g1, by rw [h2.len, g2.len]; exact c, fun z => ?_, fun _ z => ?_, fun _ _ l hl => ?_⟩
          · subst z
            cases h2
            exact q.1 _ (.tup g1 g2)
          · subst z
            cases g2
            rw [List.append_nil] at q
            exact q.1 _ (.tup h1 h2)
          · have fl := Same.free e hl
            exact q.2 l _ hl (.tup (.inl (.inl upd_same)) (DpAll.up (upd_up fl) _ _ (h2.append g2)))
        · rw [if_neg c] at hf'
          cases hf'
      | non => exact nomatch hf
      | bl _ => exact nomatch hf
      | str _ => exact nomatch hf
      | lst _ _ => exact nomatch hf
      | int _ => exact nomatch hf
    | non => exact nomatch hf
    | bl _ => exact nomatch hf
    | int _ => exact nomatch hf
    | str _ => exact nomatch hf
    | lst _ _ => exact nomatch hf
end
end DL

-- part DL2
set_option Elab.async false
set_option linter.all false
set_option maxRecDepth 100000
set_option maxHeartbeats 1000000
/-! DL2: expressions as functions of the slots. -/
namespace DL
open PySem PySem.Spec PyProof.Rows L2

abbrev MV (α : Type) := Sta → Option (α × Sta)
def ret {α : Type} (x : α) : MV α := fun S => some (x, S)
def bnd {α β : Type} (m : MV α) (k : α → MV β) : MV β := fun S => match m S with
  | some (x, S1) => k x S1
  | none => none
def opt {α : Type} (o : Option α) : MV α := fun S => match o with
  | some x => some (x, S)
  | none => none
theorem bnd_eq {α β : Type} {m : MV α} {k : α → MV β} {S S1 : Sta} {x : α} (h : m S = some (x, S1)) : bnd m k S = k x S1 := by
  unfold bnd
  rw [h]
theorem bnd_some {α β : Type} {m : MV α} {k : α → MV β} {S S' : Sta} {y : β} (h : bnd m k S = some (y, S')) : ∃ x S1, m S = some (x, S1) ∧ k x S1 = some (y, S') := by
  unfold bnd at h
  cases e : m S with
  | none =>
    rw [e] at h
    cases h
  | some p =>
    rw [e] at h
    exact ⟨p.1, p.2, rfl, h⟩
theorem opt_some {α : Type} {o : Option α} {S S' : Sta} {y : α} (h : opt o S = some (y, S')) : o = some y ∧ S' = S := by
  unfold opt at h
  cases o with
  | none => cases h
  | some x =>
    cases h
    exact ⟨rfl, rfl⟩

/-! ### readings -/
def Go (K : PySem.W.Frag) (c : Fr) (r : Option (D × Sta)) (F : Hp) (σ : L2.St) (Q : VK) : Prop :=
  ∃ d S', r = some (d, S') ∧ ∀ F' H' v, Same F F' → Rel K c F' S' σ H' → Dp K F' v d → Q v H'
def tD (K : PySem.W.Frag) (c : Fr) (m : MV D) : TE := fun σ H Q => ∃ F S, Rel K c F S σ H ∧ Go K c (m S) F σ Q
def DE (X : Cx) (c : Fr) (e : Expr) (m : MV D) : Prop := PE X e (tD X.K c m)
def GoT (K : PySem.W.Frag) (c : Fr) (r : Option (Bool × Sta)) (F : Hp) (σ : L2.St) (Q : Bool → Hp → Prop) : Prop :=
  ∃ b S', r = some (b, S') ∧ ∀ F' H', Same F F' → Rel K c F' S' σ H' → Q b H'
def tT (K : PySem.W.Frag) (c : Fr) (m : MV Bool) : TT := fun σ H Q => ∃ F S, Rel K c F S σ H ∧ GoT K c (m S) F σ Q
def DT (X : Cx) (c : Fr) (e : Expr) (m : MV Bool) : Prop := PT X e (tT X.K c m)
/-- arguments: data, or the source -/
inductive Arg where
  | d (x : D) | src
def ArgOk (K : PySem.W.Frag) (ps : Addr) (F : Hp) (v : V) : Arg → Prop
  | .d x => Dp K F v x
  | .src => v = .ref ps
inductive ArgsOk (K : PySem.W.Frag) (ps : Addr) (F : Hp) : List V → List Arg → Prop where
  | nil : ArgsOk K ps F [] []
  | cons {v : V} {vs : List V} {a : Arg} {as : List Arg} : ArgOk K ps F v a → ArgsOk K ps F vs as → ArgsOk K ps F (v :: vs) (a :: as)
def GoA (K : PySem.W.Frag) (c : Fr) (r : Option (List Arg × Sta)) (F : Hp) (σ : L2.St) (Q : List V → Hp → Prop) : Prop :=
  ∃ as S', r = some (as, S') ∧ ∀ F' H' vs, Same F F' → Rel K c F' S' σ H' → ArgsOk K c.ps F' vs as → Q vs H'
def tA (K : PySem.W.Frag) (c : Fr) (m : MV (List Arg)) : TA := fun σ H Q => ∃ F S, Rel K c F S σ H ∧ GoA K c (m S) F σ Q
def DA (X : Cx) (c : Fr) (es : List Expr) (m : MV (List Arg)) : Prop := PA X es (tA X.K c m)

theorem ArgOk.up {K : PySem.W.Frag} {ps : Addr} {F G : Hp} (e : Same F G) {v : V} {a : Arg} (h : ArgOk K ps F v a) : ArgOk K ps G v a := by
  cases a with
  | d x => exact Dp.up e x v h
  | src => exact h
theorem ArgsOk.up {K : PySem.W.Frag} {ps : Addr} {F G : Hp} (e : Same F G) : ∀ {vs : List V} {as : List Arg}, ArgsOk K ps F vs as → ArgsOk K ps G vs as
  | _, _, .nil => .nil
  | _, _, .cons h t => .cons (h.up e) (ArgsOk.up e t)
section
variable {X : Cx} {c : Fr} {K : PySem.W.Frag} {F : Hp} {S : Sta} {σ : L2.St} {H : Hp}
theorem pe_imp {e : Expr} {t t' : TE} (h : PE X e t) (i : ∀ σ H Q, t' σ H Q → t σ H Q) : PE X e t' := ⟨fun pins s σ H Q I q => h.run pins s σ H Q I (i σ H Q q)⟩
theorem pt_imp {e : Expr} {t t' : TT} (h : PT X e t) (i : ∀ σ H Q, t' σ H Q → t σ H Q) : PT X e t' := ⟨fun pins s σ H Q I q => h.run pins s σ H Q I (i σ H Q q)⟩
theorem pa_imp {es : List Expr} {t t' : TA} (h : PA X es t) (i : ∀ σ H Q, t' σ H Q → t σ H Q) : PA X es t' := ⟨fun pos pins s σ H Q I q => h.run pos pins s σ H Q I (i σ H Q q)⟩
theorem ps_imp {st : Stmt} {t t' : TS} (h : PS X st t) (i : ∀ D σ H, t' D σ H → t D σ H) : PS X st t' := ⟨fun pins s σ H D I q => h.run pins s σ H D I (i D σ H q)⟩
theorem pss_imp {st : List Stmt} {t t' : TS} (h : PSs X st t) (i : ∀ D σ H, t' D σ H → t D σ H) : PSs X st t' := ⟨fun pins s σ H D I q => h.run pins s σ H D I (i D σ H q)⟩
/-- one after another -/
theorem go_bnd {m : MV D} {k : D → MV D} {Q Q1 : VK} (h : Go K c (bnd m k S) F σ Q)
    (i : ∀ F1 S1 x v H1, Same F F1 → Rel K c F1 S1 σ H1 → Dp K F1 v x → Go K c (k x S1) F1 σ Q → Q1 v H1) : Go K c (m S) F σ Q1 := by
  obtain ⟨d, S', e, q⟩ := h
  obtain ⟨x, S1, e1, e2⟩ := bnd_some e
  exact ⟨x, S1, e1, fun F1 H1 v s1 r1 d1 => i F1 S1 x v H1 s1 r1 d1 ⟨d, S', e2, fun F' H' w s2 r2 d2 => q F' H' w (s1.trans s2) r2 d2⟩⟩
/-- an operation's answer on data -/
theorem res_of {d : D} {Q : VK} (r : Rel K c F S σ H) (q : ∀ F' H' v, Same F F' → Rel K c F' S σ H' → Dp K F' v d → Q v H') : RES K F H d Q :=
  ⟨fun u hu => q F H u (Same.refl F) r hu, fun p o hp hd => q (upd F p o) (upd H p o) (.ref p) (upd_up (r.fh.free hp)) (r.alloc hp) hd⟩

/-! ### names and constants -/
def vD (i : Nat) : MV D := fun S => match S.env[i]? with
  | some (.fz d) => some (d, S)
  | some (.own ds) => some (.list ds, { S with env := S.env.set i (.fz (.list ds)) })
  | _ => none
theorem de_var (i : Nat) {x : Str} {pos : Pos} (hN : X.N[i]? = some x := by rfl) (hv : Vis X.env.scope x := by first | exact Or.inl rfl | exact Or.inr (Or.inl rfl) | exact Or.inr (Or.inr rfl)) (hd : (x == ("__debug__" : Str)) = false := by decide)
    (hcd : (x == ("__classdict__" : Str)) = false := by decide) : DE X c (.Name x pos) (vD i) :=
  pe_imp (pe_var hN hv hd hcd) fun σ H Q h => by
    obtain ⟨F, S, r, d, S', e, q⟩ := h
    unfold vD at e
    cases z : S.env[i]? with
    | none =>
      rw [z] at e
      cases e
    | some y =>
      rw [z] at e
      cases y with
      | un => cases e
      | src => cases e
      | fz d' =>
        cases e
        obtain ⟨v, h1, h2⟩ := r.fz_at z
        exact ⟨v, h1, q F H v (Same.refl F) r h2⟩
      | own ds =>
        cases e
        obtain ⟨p, F', h1, h2, h3, h4⟩ := r.freeze z
        exact ⟨.ref p, h1, q F' H (.ref p) h2 h4 h3⟩
def cD (d : D) : MV D := ret d
theorem de_con {e : Expr} {v : V} {d : D} (h : PE X e (tC v)) (k : ∀ F, Dp X.K F v d) : DE X c e (cD d) :=
  pe_imp h fun σ H Q h => by
    obtain ⟨F, S, r, d', S', e, q⟩ := h
    cases e
    exact q F H v (Same.refl F) r (k F)
theorem de_int {i j pos} : DE X c (.Constant (.int i) j pos) (cD (.int i)) := de_con pe_int fun _ => .int _
theorem de_bool {b j pos} : DE X c (.Constant (.bool b) j pos) (cD (.bool b)) := de_con pe_bl fun _ => .bl _
theorem de_none {j pos} : DE X c (.Constant .none j pos) (cD .none) := de_con pe_non fun _ => .non
theorem de_str {x j pos} : DE X c (.Constant (.str x) j pos) (cD (.str x)) := de_con pe_str fun _ => .str _

/-! ### operators -/
def op2 (f : D → D → Option D) (m n : MV D) : MV D := bnd m fun x => bnd n fun y => opt (f x y)
def op1 (f : D → Option D) (m : MV D) : MV D := bnd m fun x => opt (f x)
theorem t_op2 {f : D → D → Option D} {m n : MV D} {σ : L2.St} {H : Hp} {Q : VK} (h : tD K c (op2 f m n) σ H Q) : tOp (r2D K f) (tD K c m) (tD K c n) σ H Q := by
  obtain ⟨F, S, r, g⟩ := h
  refine ⟨F, S, r, go_bnd g fun F1 S1 x v H1 s1 r1 d1 g1 => ⟨F1, S1, r1, go_bnd g1 fun F2 S2 y w H2 s2 r2 d2 g2 => ?_⟩⟩
  obtain ⟨d, S', e, q⟩ := g2
  obtain ⟨e1, e2⟩ := opt_some e
  subst e2
  exact ⟨F2, x, y, d, r2.fh, Dp.up s2 x v d1, d2, e1, res_of r2 q⟩
variable {a b : Expr} {pos : Pos} {m n : MV D} {f : D → D → Option D}
theorem de_op {op : Operator} (ho : OpR X (binaryOp op) (r2D X.K f)) (ha : DE X c a m) (hb : DE X c b n) : DE X c (.BinOp a op b pos) (op2 f m n) := pe_imp (pe_op ho ha hb) fun _ _ _ h => t_op2 h
theorem de_cmp {op : CmpOp} (ho : OpR X (compareOp op) (r2D X.K f)) (ha : DE X c a m) (hb : DE X c b n) (hm : behindInMarks op b = false := by first | exact nomark _ | rfl) : DE X c (.Compare a [op] [b] pos) (op2 f m n) :=
  pe_imp (pe_cmpR ho ha hb hm) fun _ _ _ h => t_op2 h
theorem de_ix (ha : DE X c a m) (hb : DE X c b n) (hs : PlainIx b := by intro _ _; rfl) : DE X c (.Subscript a b pos) (op2 ixD m n) := pe_imp (pe_ix ixr_D ha hb hs) fun _ _ _ h => t_op2 h
def negD : D → Option D
  | .int i => some (.int (-i))
  | _ => none
theorem de_neg (ha : DE X c a m) : DE X c (.UnaryOp .USub a pos) (op1 negD m) :=
  pe_imp (pe_un un_neg ha) fun σ H Q h => by
    obtain ⟨F, S, r, g⟩ := h
    refine ⟨F, S, r, go_bnd g fun F1 S1 x v H1 s1 r1 d1 g1 => ?_⟩
    obtain ⟨d, S', e, q⟩ := g1
    obtain ⟨e1, e2⟩ := opt_some e
    subst e2
    cases d1 with
    | int i =>
      cases e1
      exact ⟨i, rfl, q F1 H1 _ (Same.refl _) r1 (.int _)⟩
    | non => exact nomatch e1
    | bl _ => exact nomatch e1
    | str _ => exact nomatch e1
    | lst _ _ => exact nomatch e1
    | tup _ _ => exact nomatch e1

/-! ### tests -/
def toB (m : MV D) : MV Bool := bnd m fun d => match d with
  | .bool b => ret b
  | _ => fun _ => none
theorem toB_some {S S' : Sta} {b : Bool} (h : toB m S = some (b, S')) : m S = some (.bool b, S') := by
  obtain ⟨x, S1, e1, e2⟩ := bnd_some h
  cases x with
  | bool b' =>
    cases e2
    exact e1
  | none => exact nomatch e2
  | int _ => exact nomatch e2
  | str _ => exact nomatch e2
  | list _ => exact nomatch e2
  | tuple _ => exact nomatch e2
  | dict _ => exact nomatch e2
theorem toB_eq {S S' : Sta} {b : Bool} (h : m S = some (.bool b, S')) : toB m S = some (b, S') := bnd_eq h
theorem got_toB {Q : Bool → Hp → Prop} {Q1 : VK} (h : GoT K c (toB m S) F σ Q) (i : ∀ F1 S1 b H1, Same F F1 → Rel K c F1 S1 σ H1 → Q b H1 → Q1 (.bl b) H1) : Go K c (m S) F σ Q1 := by
  obtain ⟨b, S', e, q⟩ := h
  refine ⟨.bool b, S', toB_some e, fun F' H' v s r d => ?_⟩
  cases d
  exact i F' S' b H' s r (q F' H' s r)
theorem dt_cmp {op : CmpOp} (ho : OpR X (compareOp op) (r2D X.K f)) (ha : DE X c a m) (hb : DE X c b n) (hm : behindInMarks op b = false := by first | exact nomark _ | rfl) : DT X c (.Compare a [op] [b] pos) (toB (op2 f m n)) :=
  pt_imp (pt_cmpR ho ha hb hm) fun σ H Q h => by
    obtain ⟨F, S, r, g⟩ := h
    have g' : Go X.K c (op2 f m n S) F σ fun x H' => ∃ k, x = .bl k ∧ Q k H' := got_toB g fun F1 S1 b H1 _ _ q => ⟨b, rfl, q⟩
    exact t_op2 ⟨F, S, r, g'⟩
/-- a value that is a bool, as a test -/
theorem dt_val (ha : DE X c a m) (he : ∀ whole, isTrue a X.env whole = (do let v ← whole; standAt a.pos; holding [v] (truthy v)) := by intro _; rfl) : DT X c a (toB m) :=
  pt_imp (pt_val ha he) fun σ H Q h => by
    obtain ⟨F, S, r, g⟩ := h
    exact ⟨F, S, r, got_toB g fun F1 S1 b H1 _ _ q => ⟨b, rfl, q⟩⟩
def andT (m n : MV Bool) : MV Bool := bnd m fun b => if b = true then n else ret false
def orT (m n : MV Bool) : MV Bool := bnd m fun b => if b = true then ret true else n
def notT (m : MV Bool) : MV Bool := bnd m fun b => ret (!b)
theorem got_bnd {p : MV Bool} {k : Bool → MV Bool} {Q Q1 : Bool → Hp → Prop} (h : GoT K c (bnd p k S) F σ Q)
    (i : ∀ F1 S1 b H1, Same F F1 → Rel K c F1 S1 σ H1 → GoT K c (k b S1) F1 σ Q → Q1 b H1) : GoT K c (p S) F σ Q1 := by
  obtain ⟨d, S', e, q⟩ := h
  obtain ⟨x, S1, e1, e2⟩ := bnd_some e
  exact ⟨x, S1, e1, fun F1 H1 s1 r1 => i F1 S1 x H1 s1 r1 ⟨d, S', e2, fun F' H' s2 r2 => q F' H' (s1.trans s2) r2⟩⟩
theorem got_ret {x : Bool} {Q : Bool → Hp → Prop} (h : GoT K c (ret x S) F σ Q) (r : Rel K c F S σ H) : Q x H := by
  obtain ⟨d, S', e, q⟩ := h
  cases e
  exact q F H (Same.refl F) r
structure DW (X : Cx) (c : Fr) (e : Expr) (m : MV Bool) : Prop where
  pw : PW X e (tT X.K c m)
theorem DW.dt {p : MV Bool} (h : DW X c a p) : DT X c a p := h.pw.pt
variable {p q : MV Bool} {rest : List Expr}
theorem dw_and1 (ha : DT X c a p) : DW X c (.BoolOp .And [a] pos) p := ⟨pw_and1 ha⟩
theorem dw_or1 (ha : DT X c a p) : DW X c (.BoolOp .Or [a] pos) p := ⟨pw_or1 ha⟩
theorem pw_imp {e : Expr} {t t' : TT} (h : PW X e t) (i : ∀ σ H Q, t' σ H Q → t σ H Q) : PW X e t' := ⟨fun wh pins s σ H Q I q => h.run wh pins s σ H Q I (i σ H Q q)⟩
theorem dw_and (ha : DT X c a p) (hb : DW X c (.BoolOp .And (b :: rest) pos) q) : DW X c (.BoolOp .And (a :: b :: rest) pos) (andT p q) :=
  ⟨pw_imp (pw_and ha hb.pw) fun σ H Q h => by
    obtain ⟨F, S, r, g⟩ := h
    refine ⟨F, S, r, got_bnd g fun F1 S1 b H1 s1 r1 g1 => ?_⟩
    cases b with
    | true => exact ⟨F1, S1, r1, g1⟩
    | false => exact got_ret g1 r1⟩
theorem dw_or (ha : DT X c a p) (hb : DW X c (.BoolOp .Or (b :: rest) pos) q) : DW X c (.BoolOp .Or (a :: b :: rest) pos) (orT p q) :=
  ⟨pw_imp (pw_or ha hb.pw) fun σ H Q h => by
    obtain ⟨F, S, r, g⟩ := h
    refine ⟨F, S, r, got_bnd g fun F1 S1 b H1 s1 r1 g1 => ?_⟩
    cases b with
    | false => exact ⟨F1, S1, r1, g1⟩
    | true => exact got_ret g1 r1⟩
theorem dt_not (ha : DT X c a p) : DT X c (.UnaryOp .Not a pos) (notT p) :=
  pt_imp (pt_not ha) fun σ H Q h => by
    obtain ⟨F, S, r, g⟩ := h
    exact ⟨F, S, r, got_bnd g fun F1 S1 b H1 s1 r1 g1 => got_ret g1 r1⟩
/-- and, or, not as values, of bools -/
def andV (m n : MV D) : MV D := bnd (toB m) fun b => if b = true then n else ret (.bool false)
def orV (m n : MV D) : MV D := bnd (toB m) fun b => if b = true then ret (.bool true) else n
def notV (m : MV D) : MV D := bnd (toB m) fun b => ret (.bool (!b))
theorem go_toB {k : Bool → MV D} {Q Q1 : VK} (h : Go K c (bnd (toB m) k S) F σ Q)
    (i : ∀ F1 S1 b H1, Same F F1 → Rel K c F1 S1 σ H1 → Go K c (k b S1) F1 σ Q → Q1 (.bl b) H1) : Go K c (m S) F σ Q1 := by
  obtain ⟨d, S', e, q⟩ := h
  obtain ⟨x, S1, e1, e2⟩ := bnd_some e
  refine ⟨.bool x, S1, toB_some e1, fun F1 H1 v s1 r1 d1 => ?_⟩
  cases d1
  exact i F1 S1 x H1 s1 r1 ⟨d, S', e2, fun F' H' w s2 r2 d2 => q F' H' w (s1.trans s2) r2 d2⟩
theorem go_ret {x : D} {Q : VK} {v : V} (h : Go K c (ret x S) F σ Q) (r : Rel K c F S σ H) (d : Dp K F v x) : Q v H := by
  obtain ⟨d', S', e, q⟩ := h
  cases e
  exact q F H v (Same.refl F) r d
theorem de_and (ha : DE X c a m) (hb : DE X c (.BoolOp .And (b :: rest) pos) n) : DE X c (.BoolOp .And (a :: b :: rest) pos) (andV m n) :=
  pe_imp (pe_and ha hb) fun σ H Q h => by
    obtain ⟨F, S, r, g⟩ := h
    refine ⟨F, S, r, go_toB g fun F1 S1 b H1 s1 r1 g1 => ⟨b, rfl, ?_⟩⟩
    cases b with
    | true => exact ⟨F1, S1, r1, g1⟩
    | false => exact go_ret g1 r1 (.bl false)
theorem de_or (ha : DE X c a m) (hb : DE X c (.BoolOp .Or (b :: rest) pos) n) : DE X c (.BoolOp .Or (a :: b :: rest) pos) (orV m n) :=
  pe_imp (pe_or ha hb) fun σ H Q h => by
    obtain ⟨F, S, r, g⟩ := h
    refine ⟨F, S, r, go_toB g fun F1 S1 b H1 s1 r1 g1 => ⟨b, rfl, ?_⟩⟩
    cases b with
    | false => exact ⟨F1, S1, r1, g1⟩
    | true => exact go_ret g1 r1 (.bl true)
theorem de_one {op} (ha : DE X c a m) : DE X c (.BoolOp op [a] pos) m := pe_one ha
theorem de_not (ha : DE X c a m) : DE X c (.UnaryOp .Not a pos) (notV m) :=
  pe_imp (pe_not ha) fun σ H Q h => by
    obtain ⟨F, S, r, g⟩ := h
    exact ⟨F, S, r, go_toB g fun F1 S1 b H1 s1 r1 g1 => ⟨b, rfl, go_ret g1 r1 (.bl _)⟩⟩
def ifD (t : MV Bool) (m n : MV D) : MV D := bnd t fun b => if b = true then m else n
theorem got_go {k : Bool → MV D} {Q : VK} {Q1 : Bool → Hp → Prop} (h : Go K c (bnd p k S) F σ Q)
    (i : ∀ F1 S1 b H1, Same F F1 → Rel K c F1 S1 σ H1 → Go K c (k b S1) F1 σ Q → Q1 b H1) : GoT K c (p S) F σ Q1 := by
  obtain ⟨d, S', e, q⟩ := h
  obtain ⟨x, S1, e1, e2⟩ := bnd_some e
  exact ⟨x, S1, e1, fun F1 H1 s1 r1 => i F1 S1 x H1 s1 r1 ⟨d, S', e2, fun F' H' w s2 r2 d2 => q F' H' w (s1.trans s2) r2 d2⟩⟩
theorem de_if {t : Expr} (ht : DT X c t p) (ha : DE X c a m) (hb : DE X c b n) : DE X c (.IfExp t a b pos) (ifD p m n) :=
  pe_imp (pe_ifExp ht ha hb) fun σ H Q h => by
    obtain ⟨F, S, r, g⟩ := h
    refine ⟨F, S, r, got_go g fun F1 S1 b H1 s1 r1 g1 => ?_⟩
    cases b with
    | true => exact ⟨F1, S1, r1, g1⟩
    | false => exact ⟨F1, S1, r1, g1⟩
/-- a < b < c -/
def chn (f g : D → D → Option D) (m n l : MV D) : MV D := bnd m fun x => bnd n fun y => bnd (toB (opt (f x y))) fun b => if b = true then bnd l fun z => opt (g y z) else ret (.bool false)
theorem t_chn {g : D → D → Option D} {l : MV D} {σ : L2.St} {H : Hp} {Q : VK} (h : tD K c (chn f g m n l) σ H Q) : tChain (r2D K f) (r2D K g) (tD K c m) (tD K c n) (tD K c l) σ H Q := by
  obtain ⟨F, S, r, w⟩ := h
  refine ⟨F, S, r, go_bnd w fun F1 S1 x v H1 s1 r1 d1 g1 => ⟨F1, S1, r1, go_bnd g1 fun F2 S2 y w H2 s2 r2 d2 g2 => ?_⟩⟩
  obtain ⟨d, S', e, q⟩ := g2
  obtain ⟨b, S3, e1, e2⟩ := bnd_some e
  have e1' := toB_some e1
  obtain ⟨e3, e4⟩ := opt_some e1'
  subst e4
  refine ⟨F2, x, y, .bool b, r2.fh, Dp.up s2 x v d1, d2, e3, res_of r2 fun F3 H3 u s3 r3 d3 => ?_⟩
  cases d3
  refine ⟨b, rfl, ?_⟩
  cases b with
  | true =>
    have e2' : bnd l (fun z => opt (g y z)) S3 = some (d, S') := e2
    refine ⟨F3, S3, r3, go_bnd (k := fun z => opt (g y z)) ⟨d, S', e2', fun F' H' w s r' dd => q F' H' w (s3.trans s) r' dd⟩ fun F4 S4 z w' H4 s4 r4 d4 g4 => ?_⟩
    obtain ⟨dd, S5, e5, q5⟩ := g4
    obtain ⟨e6, e7⟩ := opt_some e5
    subst e7
    exact ⟨F4, y, z, dd, r4.fh, Dp.up (s3.trans s4) y w d2, d4, e6, res_of r4 q5⟩
  | false =>
    cases e2
    exact q F3 H3 _ s3 r3 (.bl false)
theorem de_chain {op op' : CmpOp} {e : Expr} {g : D → D → Option D} {l : MV D} (ho : OpR X (compareOp op) (r2D X.K f)) (ho' : OpR X (compareOp op') (r2D X.K g)) (ha : DE X c a m) (hb : DE X c b n) (hc : DE X c e l)
    (hm : lastMarks [op, op'] [b, e] = false := by with_unfolding_all rfl) : DE X c (.Compare a [op, op'] [b, e] pos) (chn f g m n l) :=
  pe_imp (pe_chain ho ho' ha hb hc hm) fun _ _ _ h => t_chn h
theorem dt_chain {op op' : CmpOp} {e : Expr} {g : D → D → Option D} {l : MV D} (ho : OpR X (compareOp op) (r2D X.K f)) (ho' : OpR X (compareOp op') (r2D X.K g)) (ha : DE X c a m) (hb : DE X c b n) (hc : DE X c e l)
    (hm : lastMarks [op, op'] [b, e] = false := by with_unfolding_all rfl) : DT X c (.Compare a [op, op'] [b, e] pos) (toB (chn f g m n l)) :=
  pt_imp (pt_chain ho ho' ha hb hc hm) fun σ H Q h => by
    obtain ⟨F, S, r, w⟩ := h
    have g' : Go X.K c (chn f g m n l S) F σ fun x H' => ∃ k, x = .bl k ∧ Q k H' := got_toB w fun F1 S1 b H1 _ _ q => ⟨b, rfl, q⟩
    exact t_chn ⟨F, S, r, g'⟩
end
end DL

-- part DL3
set_option Elab.async false
set_option linter.all false
set_option maxRecDepth 100000
set_option maxHeartbeats 1000000
/-! DL3: arguments, calls, displays, slices, built-in functions. -/
namespace DL
open PySem PySem.Spec PyProof.Rows L2

/-! ### argument lists of data alone -/
def GoL (K : PySem.W.Frag) (c : Fr) (r : Option (List D × Sta)) (F : Hp) (σ : L2.St) (Q : List V → Hp → Prop) : Prop :=
  ∃ as S', r = some (as, S') ∧ ∀ F' H' vs, Same F F' → Rel K c F' S' σ H' → DpAll K F' vs as → Q vs H'
def tL (K : PySem.W.Frag) (c : Fr) (m : MV (List D)) : TA := fun σ H Q => ∃ F S, Rel K c F S σ H ∧ GoL K c (m S) F σ Q
def DL (X : Cx) (c : Fr) (es : List Expr) (m : MV (List D)) : Prop := PA X es (tL X.K c m)
def consL (m : MV D) (n : MV (List D)) : MV (List D) := bnd m fun x => bnd n fun xs => ret (x :: xs)
def consA (m : MV D) (n : MV (List Arg)) : MV (List Arg) := bnd m fun x => bnd n fun xs => ret (.d x :: xs)
def srcA (i : Nat) (n : MV (List Arg)) : MV (List Arg) := fun S => match S.env[i]? with
  | some .src => bnd n (fun xs => ret (Arg.src :: xs)) S
  | _ => none
section
variable {X : Cx} {c : Fr} {K : PySem.W.Frag} {F : Hp} {S : Sta} {σ : L2.St} {H : Hp} {e : Expr} {es : List Expr} {m : MV D} {n : MV (List D)} {l : MV (List Arg)} {pos : Pos}
theorem dl_nil : DL X c [] (ret []) := pa_imp pa_nil fun σ H Q h => by
  obtain ⟨F, S, r, as, S', e, q⟩ := h
  cases e
  exact q F H [] (Same.refl F) r .nil
theorem dl_cons (ha : DE X c e m) (hr : DL X c es n) (hs : starEach (e :: es) X.env = (false, eval e X.env) :: starEach es X.env := by rfl) : DL X c (e :: es) (consL m n) :=
  pa_imp (pa_cons ha hr hs) fun σ H Q h => by
    obtain ⟨F, S, r, as, S', e, q⟩ := h
    obtain ⟨x, S1, e1, e2⟩ := bnd_some e
    obtain ⟨xs, S2, e3, e4⟩ := bnd_some e2
    cases e4
    refine ⟨F, S, r, x, S1, e1, fun F1 H1 v s1 r1 d1 => ⟨F1, S1, r1, xs, _, e3, fun F2 H2 vs s2 r2 d2 => ?_⟩⟩
    exact q F2 H2 (v :: vs) (s1.trans s2) r2 (.cons (Dp.up s2 x v d1) d2)
theorem da_nil : DA X c [] (ret []) := pa_imp pa_nil fun σ H Q h => by
  obtain ⟨F, S, r, as, S', e, q⟩ := h
  cases e
  exact q F H [] (Same.refl F) r .nil
theorem da_cons (ha : DE X c e m) (hr : DA X c es l) (hs : starEach (e :: es) X.env = (false, eval e X.env) :: starEach es X.env := by rfl) : DA X c (e :: es) (consA m l) :=
  pa_imp (pa_cons ha hr hs) fun σ H Q h => by
    obtain ⟨F, S, r, as, S', e, q⟩ := h
    obtain ⟨x, S1, e1, e2⟩ := bnd_some e
    obtain ⟨xs, S2, e3, e4⟩ := bnd_some e2
    cases e4
    refine ⟨F, S, r, x, S1, e1, fun F1 H1 v s1 r1 d1 => ⟨F1, S1, r1, xs, _, e3, fun F2 H2 vs s2 r2 d2 => ?_⟩⟩
    exact q F2 H2 (v :: vs) (s1.trans s2) r2 (.cons (Dp.up s2 x v d1) d2)
/-- the source as an argument -/
theorem da_src (i : Nat) {x : Str} {p : Pos} (hr : DA X c es l) (hN : X.N[i]? = some x := by rfl) (hv : Vis X.env.scope x := by first | exact Or.inl rfl | exact Or.inr (Or.inl rfl) | exact Or.inr (Or.inr rfl)) (hd : (x == ("__debug__" : Str)) = false := by decide)
    (hcd : (x == ("__classdict__" : Str)) = false := by decide) (hs : starEach (.Name x p :: es) X.env = (false, eval (.Name x p) X.env) :: starEach es X.env := by rfl) : DA X c (.Name x p :: es) (srcA i l) :=
  pa_imp (pa_cons (pe_var hN hv hd hcd) hr hs) fun σ H Q h => by
    obtain ⟨F, S, r, as, S', e, q⟩ := h
    unfold srcA at e
    cases z : S.env[i]? with
    | none =>
      rw [z] at e
      cases e
    | some y =>
      rw [z] at e
      cases y with
      | un => cases e
      | fz d => cases e
      | own ds => cases e
      | src =>
        have e' : bnd l (fun xs => ret (Arg.src :: xs)) S = some (as, S') := e
        obtain ⟨xs, S2, e3, e4⟩ := bnd_some e'
        cases e4
        refine ⟨.ref c.ps, r.src_at z, F, S, r, xs, _, e3, fun F2 H2 vs s2 r2 d2 => ?_⟩
        exact q F2 H2 (.ref c.ps :: vs) s2 r2 (.cons rfl d2)

/-! ### defs -/
abbrev DF := List Arg → Src → Option (D × Src)
def spD (n : Nat) (m : DF) (K : PySem.W.Frag) : Sp := fun vs H Q _ => ∃ ps pc F as s d s', as.length = n ∧ Same F H ∧ ArgsOk K ps F vs as ∧ SrcAt ps pc s H ∧ F ps = none ∧ F pc = none ∧ m as s = some (d, s') ∧
  ∀ F' H' v, Same F F' → Same F' H' → (∀ a o, F' a = some o → F a = some o ∨ H a = none) → (∀ a o, H a = some o → a ≠ ps → a ≠ pc → H' a = some o) → SrcAt ps pc s' H' → Dp K F' v d → Q v H'
theorem ArgsOk.len {ps : Addr} : ∀ {vs : List V} {as : List Arg}, ArgsOk K ps F vs as → vs.length = as.length
  | _, _, .nil => rfl
  | _, _, .cons _ t => by simp [ArgsOk.len t]
theorem spD_len {n : Nat} {f : DF} {vs : List V} {Q : VK} {E : XK} (h : spD n f K vs H Q E) : vs.length = n := by
  obtain ⟨ps, pc, F, as, s, d, s', h1, h2, h3, _⟩ := h
  rw [h3.len, h1]
def callD (f : DF) (l : MV (List Arg)) : MV D := bnd l fun as => fun S => match f as S.src with
  | some (d, s') => some (d, { S with src := s' })
  | none => none
theorem t_call {n : Nat} {f : DF} {σ : L2.St} {H : Hp} {Q : VK} {E : XK} (hn : ∀ S as S', l S = some (as, S') → as.length = n) (h : tD K c (callD f l) σ H Q) : tCall (spD n f K) [] E (tA K c l) σ H Q := by
  obtain ⟨F, S, r, d, S', e, q⟩ := h
  obtain ⟨as, S1, e1, e2⟩ := bnd_some e
  refine ⟨F, S, r, as, S1, e1, fun F1 H1 vs s1 r1 a1 => ?_⟩
  show spD n f K (vs ++ []) H1 Q E
  rw [List.append_nil]
  cases z : f as S1.src with
  | none =>
    rw [z] at e2
    cases e2
  | some p =>
    rw [z] at e2
    cases e2
    refine ⟨c.ps, c.pc, F1, as, S1.src, p.1, p.2, hn S as S1 e1, r1.fh, a1, r1.sr, r1.fs, r1.fc, z, fun F' H' v g1 g2 g3 g4 g5 g6 => ?_⟩
    have Hs : H1 c.ps ≠ none := fun w => by
      have := r1.sr.d
      rw [w] at this
      cases this
    have Hc : H1 c.pc ≠ none := fun w => by
      have := r1.sr.l
      rw [w] at this
      cases this
    have fs' : F' c.ps = none := by
      cases w : F' c.ps with
      | none => rfl
      | some o =>
        rcases g3 _ _ w with z | z
        · rw [r1.fs] at z
          cases z
        · exact absurd z Hs
    have fc' : F' c.pc = none := by
      cases w : F' c.pc with
      | none => rfl
      | some o =>
        rcases g3 _ _ w with z | z
        · rw [r1.fc] at z
          cases z
        · exact absurd z Hc
    have ff : ∀ a, H1 a ≠ none → F1 a = none → F' a = none := fun a h1 h2 => by
      cases w : F' a with
      | none => rfl
      | some o =>
        rcases g3 _ _ w with z | z
        · rw [h2] at z
          cases z
        · exact absurd z h1
    refine q F' H' v (s1.trans g1) ⟨r1.f0.trans g1, g2, fun a o w => ?_, fun a o w n1 n2 => g4 a o (r1.kp a o w n1 n2) n1 n2, r1.hs, r1.hc, g5, fs', fc', r1.len, fun i x w => ?_, r1.sep⟩ g6
    · rcases g3 a o w with z | z
      · exact r1.fr a o z
      · refine .inr ?_
        cases w0 : c.H0 a with
        | none => rfl
        | some o' =>
          by_cases ha : a = c.ps
          · exact absurd (ha ▸ z) Hs
          · by_cases hb : a = c.pc
            · exact absurd (hb ▸ z) Hc
            · have := r1.kp a o' w0 ha hb
              rw [z] at this
              cases this
    · refine (r1.sl i x w).mono g1 fun p h1 h2 ⟨vs, h3⟩ => ?_
      have n1 : p ≠ c.ps := fun w => r1.hs (w ▸ h2)
      have n2 : p ≠ c.pc := fun w => r1.hc (w ▸ h2)
      exact ⟨ff p (by rw [h3]; exact fun w => nomatch w) h1, (g4 p _ h3 n1 n2).trans h3.symm⟩
theorem de_call {n : Nat} {f : DF} {k : Nat} {ff : Addr} {fd : FuncData} {ps : List Str} {x : Str} {p : Pos} {E : XK} (G : FnOk X.prog X.w X.K X.mg X.base CX0 k ff fd ps (spD n f X.K)) (hr : Room k X.A) (hg : Gl X x) (hm : X.mg x = some (.ref ff)) (hk : PySem.W.keepIn X.K (.ref ff) = true) (hb : Binds X.K fd ps [])
    (ha : DA X c (e :: es) l) (hn : ∀ S as S', l S = some (as, S') → as.length = n) (hdb : (x == ("__debug__" : Str)) = false := by decide) (he : starEach (e :: es) X.env = (false, eval e X.env) :: starEach es X.env := by rfl) (hpl : (backTo pos (starEach es X.env)).any (·.1) = false := by rfl) :
    DE X c (.Call (.Name x p) (e :: es) [] pos) (callD f l) :=
  pe_imp (pe_call G hr hg hm hk hb .nil pass0 ha hdb he hpl) fun σ H Q h => t_call hn h
theorem len_nil {S S' : Sta} {as : List Arg} (h : ret ([] : List Arg) S = some (as, S')) : as.length = 0 := by
  cases h
  rfl
theorem len_cons {k : Nat} (h : ∀ S as S', l S = some (as, S') → as.length = k) : ∀ S as S', consA m l S = some (as, S') → as.length = k + 1 := fun S as S' e => by
  obtain ⟨x, S1, e1, e2⟩ := bnd_some e
  obtain ⟨xs, S2, e3, e4⟩ := bnd_some e2
  cases e4
  simp [h _ _ _ e3]
theorem len_src {k i : Nat} (h : ∀ S as S', l S = some (as, S') → as.length = k) : ∀ S as S', srcA i l S = some (as, S') → as.length = k + 1 := fun S as S' e => by
  unfold srcA at e
  split at e
  · obtain ⟨xs, S2, e3, e4⟩ := bnd_some e
    cases e4
    simp [h _ _ _ e3]
  · cases e

/-! ### displays -/
def tupD (n : MV (List D)) : MV D := bnd n fun xs => if xs.length ≤ sizeLine then ret (.tuple xs) else fun _ => none
def lstD (n : MV (List D)) : MV D := bnd n fun xs => if xs.length ≤ sizeLine then ret (.list xs) else fun _ => none
theorem de_tup {x1} (h : DL X c es n) : DE X c (.Tuple es x1 pos) (tupD n) :=
  pe_imp (pe_tup h) fun σ H Q h => by
    obtain ⟨F, S, r, d, S', e, q⟩ := h
    obtain ⟨xs, S1, e1, e2⟩ := bnd_some e
    refine ⟨F, S, r, xs, S1, e1, fun F1 H1 vs s1 r1 d1 => ?_⟩
    by_cases z : xs.length ≤ sizeLine
    · rw [if_pos z] at e2
      cases e2
      refine ⟨by rw [d1.len]; exact z, fun p hp => ?_⟩
      have fp := r1.fh.free hp
      exact q _ _ _ (s1.trans (upd_up fp)) (r1.alloc hp) (.tup (.inl (.inl upd_same)) (DpAll.up (upd_up fp) _ _ d1))
    · rw [if_neg z] at e2
      cases e2
theorem de_lst (h : DL X c es n) : DE X c (.List es pos) (lstD n) :=
  pe_imp (pe_lst h) fun σ H Q h => by
    obtain ⟨F, S, r, d, S', e, q⟩ := h
    obtain ⟨xs, S1, e1, e2⟩ := bnd_some e
    refine ⟨F, S, r, xs, S1, e1, fun F1 H1 vs s1 r1 d1 => ?_⟩
    by_cases z : xs.length ≤ sizeLine
    · rw [if_pos z] at e2
      cases e2
      refine ⟨by rw [d1.len]; exact z, fun p hp => ?_⟩
      have fp := r1.fh.free hp
      exact q _ _ _ (s1.trans (upd_up fp)) (r1.alloc hp) (.lst (.inl (.inl upd_same)) (DpAll.up (upd_up fp) _ _ d1))
    · rw [if_neg z] at e2
      cases e2

/-! ### slices -/
def cutD (xs : List D) (lo hi : Option Int) : List D := (xs.drop (HT.sIx xs.length 0 lo)).take (HT.sIx xs.length xs.length hi - HT.sIx xs.length 0 lo)
def slD (x : D) (lo hi : Option Int) : Option D := match x with
  | .list xs => some (.list (cutD xs lo hi))
  | .tuple xs => some (.tuple (cutD xs lo hi))
  | _ => none
theorem cut_all {vs : List V} {ds : List D} {lo hi : Option Int} (h : DpAll K F vs ds) : DpAll K F (cutV vs lo hi) (cutD ds lo hi) := by
  unfold cutV cutD
  rw [h.len]
  exact (h.drop _).take _
def r3D (K : PySem.W.Frag) : V → Option Int → Option Int → Hp → VK → Prop := fun v lo hi H Q => ∃ F x d, Same F H ∧ Dp K F v x ∧ slD x lo hi = some d ∧ RES K F H d Q
theorem slr_D : SlR X (r3D X.K) := by
  intro pins s σ H x v vl vu lo hi sl Q I rx hs pl pu h
  obtain ⟨F, a, d, e, ha, hf, q⟩ := h
  cases ha with
  | @lst p xs ds h1 h2 =>
    cases hf
    refine sl_list pins s σ H _ v vl vu lo hi sl Q I rx hs pl pu ⟨p, xs, rfl, sqL_up e h1, fun l hl => ?_⟩
    exact q.2 l _ hl (.lst (.inl (.inl upd_same)) (DpAll.up (upd_up (Same.free e hl)) _ _ (cut_all h2)))
  | @tup p xs ds h1 h2 =>
    cases hf
    refine sl_tupA pins s σ H _ v vl vu lo hi sl Q I rx hs pl pu ⟨p, xs, rfl, sqT_up e h1, fun w => ?_, fun w l hl => ?_⟩
    · refine q.1 _ (.tup h1 ?_)
      have := cut_all (lo := lo) (hi := hi) h2
      unfold cutV at this
      rw [w.1, w.2] at this
      simpa using this
    · exact q.2 l _ hl (.tup (.inl (.inl upd_same)) (DpAll.up (upd_up (Same.free e hl)) _ _ (cut_all h2)))
  | non => exact nomatch hf
  | bl _ => exact nomatch hf
  | str _ => exact nomatch hf
  | int _ => exact nomatch hf
def GoO (K : PySem.W.Frag) (c : Fr) (r : Option (Option Int × Sta)) (F : Hp) (σ : L2.St) (Q : Option Int → Hp → Prop) : Prop :=
  ∃ o S', r = some (o, S') ∧ ∀ F' H', Same F F' → Rel K c F' S' σ H' → Q o H'
def tO (K : PySem.W.Frag) (c : Fr) (m : MV (Option Int)) : TO := fun σ H Q => ∃ F S, Rel K c F S σ H ∧ GoO K c (m S) F σ Q
def DO (X : Cx) (c : Fr) (e : Option Expr) (m : MV (Option Int)) : Prop := PO X e (tO X.K c m)
theorem po_imp {e : Option Expr} {t t' : TO} (h : PO X e t) (i : ∀ σ H Q, t' σ H Q → t σ H Q) : PO X e t' := ⟨fun pins s σ H Q I q => h.run pins s σ H Q I (i σ H Q q)⟩
def someI (m : MV D) : MV (Option Int) := bnd m fun d => match d with
  | .int i => ret (some i)
  | _ => fun _ => none
theorem do_none : DO X c none (ret none) := po_imp po_none fun σ H Q h => by
  obtain ⟨F, S, r, o, S', e, q⟩ := h
  cases e
  exact q F H (Same.refl F) r
theorem do_some (h : DE X c e m) : DO X c (some e) (someI m) := po_imp (po_some h) fun σ H Q h => by
  obtain ⟨F, S, r, o, S', e, q⟩ := h
  obtain ⟨x, S1, e1, e2⟩ := bnd_some e
  refine ⟨F, S, r, x, S1, e1, fun F1 H1 v s1 r1 d1 => ?_⟩
  cases d1 with
  | int i =>
    cases e2
    exact ⟨i, rfl, q F1 H1 s1 r1⟩
  | non => exact nomatch e2
  | bl _ => exact nomatch e2
  | str _ => exact nomatch e2
  | lst _ _ => exact nomatch e2
  | tup _ _ => exact nomatch e2
def sliceD (m : MV D) (lo hi : MV (Option Int)) : MV D := bnd m fun x => bnd lo fun a => bnd hi fun b => opt (slD x a b)
theorem de_slice {lo hi : Option Expr} {a b : MV (Option Int)} {p2} (h : DE X c e m) (hl : DO X c lo a) (hu : DO X c hi b) : DE X c (.Subscript e (.Slice lo hi none p2) pos) (sliceD m a b) :=
  pe_imp (pe_slice slr_D h hl hu) fun σ H Q h => by
    obtain ⟨F, S, r, g⟩ := h
    refine ⟨F, S, r, go_bnd g fun F1 S1 x v H1 s1 r1 d1 g1 => ?_⟩
    obtain ⟨d, S', e, q⟩ := g1
    obtain ⟨o1, S2, e2, e3⟩ := bnd_some e
    obtain ⟨o2, S3, e4, e5⟩ := bnd_some e3
    obtain ⟨e6, e7⟩ := opt_some e5
    subst e7
    refine ⟨F1, S1, r1, o1, S2, e2, fun F2 H2 s2 r2 => ⟨F2, S2, r2, o2, _, e4, fun F3 H3 s3 r3 => ?_⟩⟩
    exact ⟨F3, x, d, r3.fh, Dp.up (s2.trans s3) x v d1, e6, res_of r3 fun F' H' w s' r' d' => q F' H' w ((s2.trans s3).trans s') r' d'⟩

/-! ### built-in functions -/
def callN (g : List D → Option D) (n : MV (List D)) : MV D := bnd n fun xs => opt (g xs)
theorem t_callN {g : List D → Option D} {σ : L2.St} {H : Hp} {Q : VK} (h : tD K c (callN g n) σ H Q) : tCB (rnD K g) (tL K c n) σ H Q := by
  obtain ⟨F, S, r, d, S', e, q⟩ := h
  obtain ⟨xs, S1, e1, e2⟩ := bnd_some e
  obtain ⟨e3, e4⟩ := opt_some e2
  subst e4
  exact ⟨F, S, r, xs, _, e1, fun F1 H1 vs s1 r1 d1 => ⟨F1, xs, d, r1.fh, d1, e3, res_of r1 fun F' H' v s' r' d' => q F' H' v (s1.trans s') r' d'⟩⟩
theorem de_callB {id : String} {g : List D → Option D} {x : Str} {p : Pos} (hc : CallR X (.builtin id) (rnD X.K g)) (hg : Gl X x) (hm : X.mg x = none) (hv : bootBuiltins x = some (.builtin id)) (ha : DL X c (e :: es) n) (hn : x ≠ "__name__" := by decide) (hdb : (x == ("__debug__" : Str)) = false := by decide)
    (he : starEach (e :: es) X.env = (false, eval e X.env) :: starEach es X.env := by rfl) (hpl : (backTo pos (starEach es X.env)).any (·.1) = false := by rfl) : DE X c (.Call (.Name x p) (e :: es) [] pos) (callN g n) :=
  pe_imp (pe_callB hc hg hm hv ha hn hdb he hpl) fun _ _ _ h => t_callN h
theorem de_callTy {T : String} {g : List D → Option D} {x : Str} {p : Pos} (hc : CallR X (.type T) (rnD X.K g)) (hg : Gl X x) (hm : X.mg x = none) (hv : bootBuiltins x = some (.type T)) (ha : DL X c (e :: es) n) (hn : x ≠ "__name__" := by decide) (hdb : (x == ("__debug__" : Str)) = false := by decide)
    (he : starEach (e :: es) X.env = (false, eval e X.env) :: starEach es X.env := by rfl) (hpl : (backTo pos (starEach es X.env)).any (·.1) = false := by rfl) : DE X c (.Call (.Name x p) (e :: es) [] pos) (callN g n) :=
  pe_imp (pe_callTy hc hg hm hv ha hn hdb he hpl) fun _ _ _ h => t_callN h
theorem DpAll.one {K : PySem.W.Frag} {F : Hp} {vs : List V} {x : D} (h : DpAll K F vs [x]) : ∃ v, vs = [v] ∧ Dp K F v x := by
  cases h with
  | cons h t =>
    cases t
    exact ⟨_, rfl, h⟩
theorem DpAll.two {K : PySem.W.Frag} {F : Hp} {vs : List V} {x y : D} (h : DpAll K F vs [x, y]) : ∃ v w, vs = [v, w] ∧ Dp K F v x ∧ Dp K F w y := by
  cases h with
  | cons h t =>
    obtain ⟨w, rfl, h2⟩ := DpAll.one t
    exact ⟨_, w, rfl, h, h2⟩
def lenD : List D → Option D
  | [.list xs] => some (.int xs.length)
  | [.tuple xs] => some (.int xs.length)
  | _ => none
theorem callr_len : CallR X (.builtin "len") (rnD X.K lenD) := callr_imp call_len_seq fun vs H Q ⟨F, xs, d, e, ha, hf, q⟩ => by
  match xs, hf with
  | [.list xs], hf =>
    obtain ⟨v, rfl, hv⟩ := DpAll.one ha
    cases hf
    cases hv with
    | @lst p ys _ h1 h2 => exact ⟨p, ys, rfl, .inl (sqL_up e h1), by rw [h2.len]; exact q.1 _ (.int _)⟩
  | [.tuple xs], hf =>
    obtain ⟨v, rfl, hv⟩ := DpAll.one ha
    cases hf
    cases hv with
    | @tup p ys _ h1 h2 => exact ⟨p, ys, rfl, .inr (sqT_up e h1), by rw [h2.len]; exact q.1 _ (.int _)⟩
def absD : List D → Option D
  | [.int i] => some (.int (if i < 0 then -i else i))
  | _ => none
theorem callr_abs : CallR X (.builtin "abs") (rnD X.K absD) := callr_imp call_abs fun vs H Q ⟨F, xs, d, e, ha, hf, q⟩ => by
  match xs, hf with
  | [.int i], hf =>
    obtain ⟨v, rfl, hv⟩ := DpAll.one ha
    cases hf
    cases hv
    exact ⟨i, rfl, q.1 _ (.int _)⟩
def max2D : List D → Option D
  | [.int i, .int j] => some (.int (if j > i then j else i))
  | _ => none
def min2D : List D → Option D
  | [.int i, .int j] => some (.int (if j < i then j else i))
  | _ => none
theorem callr_max2 (hc : X.calm = true) : CallR X (.builtin "max") (rnD X.K max2D) := callr_imp (call_max2 hc) fun vs H Q ⟨F, xs, d, e, ha, hf, q⟩ => by
  match xs, hf with
  | [.int i, .int j], hf =>
    obtain ⟨v, w, rfl, hv, hw⟩ := DpAll.two ha
    cases hf
    cases hv
    cases hw
    exact ⟨i, j, rfl, q.1 _ (.int _)⟩
theorem callr_min2 (hc : X.calm = true) : CallR X (.builtin "min") (rnD X.K min2D) := callr_imp (call_min2 hc) fun vs H Q ⟨F, xs, d, e, ha, hf, q⟩ => by
  match xs, hf with
  | [.int i, .int j], hf =>
    obtain ⟨v, w, rfl, hv, hw⟩ := DpAll.two ha
    cases hf
    cases hv
    cases hw
    exact ⟨i, j, rfl, q.1 _ (.int _)⟩
def intD : List D → Option D
  | [.int i] => some (.int i)
  | [.bool k] => some (.int (if k then 1 else 0))
  | _ => none
theorem callr_int : CallR X (.type "int") (rnD X.K intD) := callr_imp call_int1 fun vs H Q ⟨F, xs, d, e, ha, hf, q⟩ => by
  match xs, hf with
  | [.int i], hf =>
    obtain ⟨v, rfl, hv⟩ := DpAll.one ha
    cases hf
    cases hv
    exact .inl ⟨i, rfl, q.1 _ (.int _)⟩
  | [.bool i], hf =>
    obtain ⟨v, rfl, hv⟩ := DpAll.one ha
    cases hf
    cases hv
    exact .inr ⟨i, rfl, q.1 _ (.int _)⟩
def tupleD : List D → Option D
  | [.list xs] => some (.tuple xs)
  | [.tuple xs] => some (.tuple xs)
  | _ => none
theorem callr_tuple : CallR X (.type "tuple") (rnD X.K tupleD) := callr_imp call_tuple_of fun vs H Q ⟨F, xs, d, e, ha, hf, q⟩ => by
  match xs, hf with
  | [.list xs], hf =>
    obtain ⟨v, rfl, hv⟩ := DpAll.one ha
    cases hf
    cases hv with
    | @lst p ys _ h1 h2 => exact ⟨p, ys, rfl, .inl ⟨sqL_up e h1, fun l hl => q.2 l _ hl (.tup (.inl (.inl upd_same)) (DpAll.up (upd_up (Same.free e hl)) _ _ h2))⟩⟩
  | [.tuple xs], hf =>
    obtain ⟨v, rfl, hv⟩ := DpAll.one ha
    cases hf
    cases hv with
    | @tup p ys _ h1 h2 => exact ⟨p, ys, rfl, .inr ⟨sqT_up e h1, q.1 _ (.tup h1 h2)⟩⟩
def listD : List D → Option D
  | [.list xs] => some (.list xs)
  | [.tuple xs] => some (.list xs)
  | _ => none
theorem callr_list : CallR X (.type "list") (rnD X.K listD) := callr_imp call_list_of fun vs H Q ⟨F, xs, d, e, ha, hf, q⟩ => by
  match xs, hf with
  | [.list xs], hf =>
    obtain ⟨v, rfl, hv⟩ := DpAll.one ha
    cases hf
    cases hv with
    | @lst p ys _ h1 h2 => exact ⟨p, ys, rfl, .inl (sqL_up e h1), fun l hl => q.2 l _ hl (.lst (.inl (.inl upd_same)) (DpAll.up (upd_up (Same.free e hl)) _ _ h2))⟩
  | [.tuple xs], hf =>
    obtain ⟨v, rfl, hv⟩ := DpAll.one ha
    cases hf
    cases hv with
    | @tup p ys _ h1 h2 => exact ⟨p, ys, rfl, .inr (sqT_up e h1), fun l hl => q.2 l _ hl (.lst (.inl (.inl upd_same)) (DpAll.up (upd_up (Same.free e hl)) _ _ h2))⟩
/-- the ints of data -/
def intsOf : List D → Option (List Int)
  | [] => some []
  | .int i :: xs => (intsOf xs).map (i :: ·)
  | _ :: _ => none
theorem intsOf_some : ∀ {xs : List D} {ns : List Int}, intsOf xs = some ns → xs = ns.map PyData.int
  | [], ns, h => by
    cases h
    rfl
  | .int i :: xs, ns, h => by
    have h' : (intsOf xs).map (i :: ·) = some ns := h
    cases z : intsOf xs with
    | none =>
      rw [z] at h'
      cases h'
    | some ms =>
      rw [z] at h'
      cases h'
      rw [intsOf_some z]
      rfl
  | .none :: _, _, h => nomatch h
  | .bool _ :: _, _, h => nomatch h
  | .str _ :: _, _, h => nomatch h
  | .list _ :: _, _, h => nomatch h
  | .tuple _ :: _, _, h => nomatch h
  | .dict _ :: _, _, h => nomatch h
theorem intsOf_map : ∀ ns : List Int, intsOf (ns.map PyData.int) = some ns
  | [] => rfl
  | n :: ns => by
    show (intsOf (ns.map PyData.int)).map (n :: ·) = some (n :: ns)
    rw [intsOf_map ns]
    rfl
def sumD : List D → Option D
  | [.list xs] => (intsOf xs).map fun ns => .int ns.sum
  | _ => none
theorem callr_sum (hc : X.calm = true) : CallR X (.builtin "sum") (rnD X.K sumD) := callr_imp (cr_sum hc) fun vs H Q ⟨F, xs, d, e, ha, hf, q⟩ => by
  match xs, hf with
  | [.list xs], hf =>
    obtain ⟨v, rfl, hv⟩ := DpAll.one ha
    have hf' : (intsOf xs).map (fun ns => PyData.int ns.sum) = some d := hf
    cases z : intsOf xs with
    | none =>
      rw [z] at hf'
      cases hf'
    | some ns =>
      rw [z] at hf'
      cases hf'
      have zz := intsOf_some z
      subst zz
      cases hv with
      | @lst p ys _ h1 h2 =>
        have := DpAll.ints h2
        subst this
        exact ⟨p, ns, rfl, sqL_up e h1, q.1 _ (.int _)⟩
def boolsOf : List D → Option (List Bool)
  | [] => some []
  | .bool i :: xs => (boolsOf xs).map (i :: ·)
  | _ :: _ => none
theorem boolsOf_some : ∀ {xs : List D} {ns : List Bool}, boolsOf xs = some ns → xs = ns.map PyData.bool
  | [], ns, h => by
    cases h
    rfl
  | .bool i :: xs, ns, h => by
    have h' : (boolsOf xs).map (i :: ·) = some ns := h
    cases z : boolsOf xs with
    | none =>
      rw [z] at h'
      cases h'
    | some ms =>
      rw [z] at h'
      cases h'
      rw [boolsOf_some z]
      rfl
  | .none :: _, _, h => nomatch h
  | .int _ :: _, _, h => nomatch h
  | .str _ :: _, _, h => nomatch h
  | .list _ :: _, _, h => nomatch h
  | .tuple _ :: _, _, h => nomatch h
  | .dict _ :: _, _, h => nomatch h
theorem boolsOf_map : ∀ ns : List Bool, boolsOf (ns.map PyData.bool) = some ns
  | [] => rfl
  | n :: ns => by
    show (boolsOf (ns.map PyData.bool)).map (n :: ·) = some (n :: ns)
    rw [boolsOf_map ns]
    rfl
def allD : List D → Option D
  | [.list xs] => (boolsOf xs).map fun ns => .bool (ns.all id)
  | _ => none
def anyD : List D → Option D
  | [.list xs] => (boolsOf xs).map fun ns => .bool (ns.any id)
  | _ => none
theorem callr_all (hc : X.calm = true) : CallR X (.builtin "all") (rnD X.K allD) := callr_imp (cr_all hc) fun vs H Q ⟨F, xs, d, e, ha, hf, q⟩ => by
  match xs, hf with
  | [.list xs], hf =>
    obtain ⟨v, rfl, hv⟩ := DpAll.one ha
    have hf' : (boolsOf xs).map (fun ns => PyData.bool (ns.all id)) = some d := hf
    cases z : boolsOf xs with
    | none =>
      rw [z] at hf'
      cases hf'
    | some ns =>
      rw [z] at hf'
      cases hf'
      have zz := boolsOf_some z
      subst zz
      cases hv with
      | @lst p ys _ h1 h2 =>
        have := DpAll.bools h2
        subst this
        exact ⟨p, ns, rfl, sqL_up e h1, q.1 _ (.bl _)⟩
theorem callr_any (hc : X.calm = true) : CallR X (.builtin "any") (rnD X.K anyD) := callr_imp (cr_any hc) fun vs H Q ⟨F, xs, d, e, ha, hf, q⟩ => by
  match xs, hf with
  | [.list xs], hf =>
    obtain ⟨v, rfl, hv⟩ := DpAll.one ha
    have hf' : (boolsOf xs).map (fun ns => PyData.bool (ns.any id)) = some d := hf
    cases z : boolsOf xs with
    | none =>
      rw [z] at hf'
      cases hf'
    | some ns =>
      rw [z] at hf'
      cases hf'
      have zz := boolsOf_some z
      subst zz
      cases hv with
      | @lst p ys _ h1 h2 =>
        have := DpAll.bools h2
        subst this
        exact ⟨p, ns, rfl, sqL_up e h1, q.1 _ (.bl _)⟩
/-- sorted ints -/
def sortI (ns : List Int) : List Int := ns.mergeSort (fun a b => decide (a ≤ b))
theorem sortI_perm (ns : List Int) : (sortI ns).Perm ns := List.mergeSort_perm ns _
theorem sortI_sorted (ns : List Int) : (sortI ns).Pairwise (· ≤ ·) := by
  have h := List.pairwise_mergeSort (le := fun a b : Int => decide (a ≤ b)) (fun a b c h1 h2 => by simp at *; omega) (fun a b => by simp; omega) ns
  exact h.imp fun {a b} hab => of_decide_eq_true hab
theorem sorted_uniq {a b : List Int} (hp : a.Perm b) (ha : a.Pairwise (· ≤ ·)) (hb : b.Pairwise (· ≤ ·)) : a = b :=
  hp.eq_of_pairwise (fun x y _ _ h1 h2 => Int.le_antisymm h1 h2) ha hb
def sortedD : List D → Option D
  | [.list xs] => (intsOf xs).map fun ns => .list ((sortI ns).map .int)
  | _ => none
theorem callr_sorted : CallR X (.builtin "sorted") (rnD X.K sortedD) := callr_imp cr_sortedI fun vs H Q ⟨F, xs, d, e, ha, hf, q⟩ => by
  match xs, hf with
  | [.list xs], hf =>
    obtain ⟨v, rfl, hv⟩ := DpAll.one ha
    have hf' : (intsOf xs).map (fun ns => PyData.list ((sortI ns).map .int)) = some d := hf
    cases z : intsOf xs with
    | none =>
      rw [z] at hf'
      cases hf'
    | some ns =>
      rw [z] at hf'
      cases hf'
      have zz := intsOf_some z
      subst zz
      cases hv with
      | @lst p ys _ h1 h2 =>
        have := DpAll.ints h2
        subst this
        refine ⟨p, ns, rfl, sqL_up e h1, fun ns' l hp hs hl => ?_⟩
        have eq : ns' = sortI ns := sorted_uniq (hp.trans (sortI_perm ns).symm) hs (sortI_sorted ns)
        subst eq
        exact q.2 l _ hl (.lst (.inl (.inl upd_same)) (DpAll.of_ints _))
end
end DL

-- part DL4
set_option Elab.async false
set_option linter.all false
set_option maxRecDepth 100000
set_option maxHeartbeats 1000000
/-! DL4: targets, what is walked, comprehensions. -/
namespace DL
open PySem PySem.Spec PyProof.Rows L2 RZ

/-! ### targets -/
inductive Pat where
  | nm (i : Nat)
  | tp (ps : List Pat)
mutual
def Pat.bind : Pat → D → List Slot → Option (List Slot)
  | .nm i, d, env => some (env.set i (.fz d))
  | .tp ps, d, env => match d with
    | .tuple ds => Pat.binds ps ds env
    | _ => none
def Pat.binds : List Pat → List D → List Slot → Option (List Slot)
  | [], [], env => some env
  | p :: ps, d :: ds, env => match Pat.bind p d env with
    | some env' => Pat.binds ps ds env'
    | none => none
  | _, _, _ => none
end
mutual
def Pat.vars : Pat → List Nat
  | .nm i => [i]
  | .tp ps => Pat.varss ps
def Pat.varss : List Pat → List Nat
  | [] => []
  | p :: ps => Pat.vars p ++ Pat.varss ps
end
mutual
def gP (K : PySem.W.Frag) : Pat → TG
  | .nm i => gName i
  | .tp ps => gTup K ps.length (gPs K ps)
def gPs (K : PySem.W.Frag) : List Pat → TGs
  | [] => gNil
  | p :: ps => gCons (gP K p) (gPs K ps)
end
def DG (X : Cx) (e : Expr) (p : Pat) : Prop := PG X e (gP X.K p)
def DGs (X : Cx) (es : List Expr) (ps : List Pat) : Prop := PGs X es (gPs X.K ps)
/-- σ' differs from σ at some places alone -/
def OnlyAt (vs : List Nat) (σ σ' : L2.St) : Prop := σ'.length = σ.length ∧ ∀ i, i ∉ vs → σ'[i]? = σ[i]?
theorem OnlyAt.refl (vs : List Nat) (σ : L2.St) : OnlyAt vs σ σ := ⟨rfl, fun _ _ => rfl⟩
theorem OnlyAt.trans {vs ws : List Nat} {σ σ1 σ2 : L2.St} (a : OnlyAt vs σ σ1) (b : OnlyAt ws σ1 σ2) : OnlyAt (vs ++ ws) σ σ2 :=
  ⟨b.1.trans a.1, fun i h => by
    simp only [List.mem_append, not_or] at h
    rw [b.2 i h.2, a.2 i h.1]⟩
section
variable {X : Cx} {K : PySem.W.Frag} {c : Fr} {pos : Pos}
theorem dg_nm (i : Nat) {x : Str} (hN : X.N.Nodup) (hi : X.N[i]? = some x := by rfl) (hx : Loc X.env.scope x := by first | exact Or.inl rfl | exact Or.inr rfl) (hf : X.fn x = true ∨ X.env.scope.names.lookup x = some .local := by first | exact .inl rfl | exact .inr rfl) : DG X (.Name x pos) (.nm i) := by
  unfold DG gP
  exact pg_name hN hi hx hf
theorem dg_tp {es : List Expr} {k : Nat} {ps : List Pat} (hc : X.calm = true) (h : DGs X es ps) (hn : (assignEach es X.env).length = ps.length := by rfl) (hst : (assignEach es X.env).findIdx? (·.1) = none := by rfl) : DG X (.Tuple es k pos) (.tp ps) := by
  unfold DG gP
  exact pg_tup hc h hn hst
theorem dgs_nil : DGs X [] [] := by
  unfold DGs gPs
  exact pgs_nil
theorem dgs_cons {e : Expr} {es : List Expr} {p : Pat} {ps : List Pat} (h1 : DG X e p) (h2 : DGs X es ps) (hs : (assignEach (e :: es) X.env).map (·.2) = assign e X.env :: (assignEach es X.env).map (·.2) := by rfl) : DGs X (e :: es) (p :: ps) := by
  unfold DGs gPs
  exact pgs_cons h1 h2 hs
mutual
theorem gP_run : ∀ (p : Pat) {F : Hp} {S : Sta} {σ : L2.St} {H : Hp} {v : V} {d : D} {env : List Slot} {Q : L2.St → Hp → Prop}, Rel K c F S σ H → Dp K F v d → p.bind d S.env = some env →
    (∀ σ', Rel K c F { S with env := env } σ' H → OnlyAt p.vars σ σ' → Q σ' H) → gP K p v σ H Q
  | .nm i, F, S, σ, H, v, d, env, Q, r, hd, hb, q => by
    unfold Pat.bind at hb
    cases hb
    unfold gP
    refine q _ (r.set_fz hd) ⟨by simp, fun j hj => ?_⟩
    unfold Pat.vars at hj
    simp only [List.mem_singleton] at hj
    exact List.getElem?_set_ne (Ne.symm hj)
  | .tp ps, F, S, σ, H, v, d, env, Q, r, hd, hb, q => by
    unfold Pat.bind at hb
    unfold gP
    cases hd with
    | @tup a xs ds h1 h2 =>
      have hb' : Pat.binds ps ds S.env = some env := hb
      refine ⟨a, xs, rfl, sqT_up r.fh h1, ?_, ?_⟩
      · rw [h2.len]
        exact gPs_len ps ds S.env env hb'
      · refine gPs_run ps r h2 hb' fun σ' r' o => q σ' r' ?_
        unfold Pat.vars
        exact o
    | non => cases hb
    | bl _ => cases hb
    | int _ => cases hb
    | str _ => cases hb
    | lst _ _ => cases hb
theorem gPs_run : ∀ (ps : List Pat) {F : Hp} {S : Sta} {σ : L2.St} {H : Hp} {vs : List V} {ds : List D} {env : List Slot} {Q : L2.St → Hp → Prop}, Rel K c F S σ H → DpAll K F vs ds → Pat.binds ps ds S.env = some env →
    (∀ σ', Rel K c F { S with env := env } σ' H → OnlyAt (Pat.varss ps) σ σ' → Q σ' H) → gPs K ps vs σ H Q
  | [], F, S, σ, H, vs, ds, env, Q, r, hd, hb, q => by
    unfold gPs
    cases hd with
    | nil =>
      unfold Pat.binds at hb
      cases hb
      exact ⟨rfl, q σ r (OnlyAt.refl _ σ)⟩
    | cons _ _ =>
      unfold Pat.binds at hb
      cases hb
  | p :: ps, F, S, σ, H, vs, ds, env, Q, r, hd, hb, q => by
    unfold gPs
    cases hd with
    | nil =>
      unfold Pat.binds at hb
      cases hb
    | @cons v vs d ds h1 h2 =>
      unfold Pat.binds at hb
      cases z : Pat.bind p d S.env with
      | none =>
        rw [z] at hb
        cases hb
      | some env' =>
        rw [z] at hb
        refine ⟨v, vs, rfl, gP_run p r h1 z fun σ' r' o => gPs_run ps (S := { S with env := env' }) r' h2 hb fun σ2 r2 o2 => q σ2 r2 ?_⟩
        unfold Pat.varss
        exact o.trans o2
theorem gPs_len : ∀ (ps : List Pat) (ds : List D) (env env' : List Slot), Pat.binds ps ds env = some env' → ds.length = ps.length
  | [], [], _, _, _ => rfl
  | [], _ :: _, _, _, h => by
    unfold Pat.binds at h
    cases h
  | p :: ps, [], _, _, h => by
    unfold Pat.binds at h
    cases h
  | p :: ps, d :: ds, env, env', h => by
    unfold Pat.binds at h
    cases z : Pat.bind p d env with
    | none =>
      rw [z] at h
      cases h
    | some e1 =>
      rw [z] at h
      simp [gPs_len ps ds e1 env' h]
end
end

/-! ### what is walked -/
def YOk (K : PySem.W.Frag) (ds : List D) (F : Hp) (Y : Nat → Hp → V → Hp → Prop) : Prop :=
  ∀ i c F1 S1 σ1 H1 x H2, Same F F1 → Rel K c F1 S1 σ1 H1 → Y i H1 x H2 → ∃ F2 d, Same F1 F2 ∧ Rel K c F2 S1 σ1 H2 ∧ ds[i]? = some d ∧ Dp K F2 x d
def GoI (K : PySem.W.Frag) (c : Fr) (r : Option (List D × Sta)) (F : Hp) (σ : L2.St) (R : It → Hp → Prop) : Prop :=
  ∃ ds S', r = some (ds, S') ∧ ∀ F' H' (J : It) (G : Hp → Prop) (Y : Nat → Hp → V → Hp → Prop), Same F F' → Rel K c F' S' σ H' → L2.Walk J ds.length G Y → (∀ F1 H1, Same F' F1 → Same F1 H1 → G H1) → YOk K ds F' Y → R J H'
def tI (K : PySem.W.Frag) (c : Fr) (m : MV (List D)) : TI := fun σ H R => ∃ F S, Rel K c F S σ H ∧ GoI K c (m S) F σ R
def DI (X : Cx) (c : Fr) (tg e : Expr) (m : MV (List D)) : Prop := PI X tg e (tI X.K c m)
section
variable {X : Cx} {K : PySem.W.Frag} {c : Fr} {pos p : Pos} {tg e e2 : Expr} {m : MV D} {n : MV (List D)}
theorem pi_imp {t t' : TI} (h : PI X tg e t) (i : ∀ σ H R, t' σ H R → t σ H R) : PI X tg e t' := ⟨fun pins s σ H R I q => h.run pins s σ H R I (i σ H R q)⟩
theorem pi_or {t t' : TI} (h : PI X tg e t) (h' : PI X tg e t') : PI X tg e (fun σ H R => t σ H R ∨ t' σ H R) := ⟨fun pins s σ H R I q => q.elim (h.run pins s σ H R I) (h'.run pins s σ H R I)⟩
theorem yAt_ok {F : Hp} {xs : List V} {ds : List D} (h : DpAll K F xs ds) : YOk K ds F (YAt xs) := fun i c F1 S1 σ1 H1 x H2 s r y => by
  obtain ⟨y1, y2⟩ := y
  subst y1
  obtain ⟨d, e1, e2⟩ := h.getV y2
  exact ⟨F1, d, Same.refl F1, r, e1, Dp.up s d x e2⟩
/-- a list or a tuple -/
def seqI (m : MV D) : MV (List D) := bnd m fun d => opt (items d)
theorem di_seq (h : DE X c e m) : DI X c tg e (seqI m) := by
  refine pi_imp (pi_or (pi_list (tg := tg) h) (pi_tup (tg := tg) h)) fun σ H R q => ?_
  obtain ⟨F, S, r, ds, S', e1, q⟩ := q
  obtain ⟨x, S1, e2, e3⟩ := bnd_some e1
  obtain ⟨e4, e5⟩ := opt_some e3
  subst e5
  cases x with
  | list xs =>
    cases e4
    refine .inl ⟨F, S, r, _, _, e2, fun F' H' v s r' d' => ?_⟩
    cases d' with
    | @lst a vs _ h1 h2 =>
      refine ⟨a, rfl, ⟨vs, sqL_up r'.fh h1⟩, q F' H' (Itl X.K a) (fun H => SqL X.K H a vs) (YAt vs) s r' ?_ (fun F1 H1 s1 s2 => sqL_up s2 (sqL_up s1 h1)) (yAt_ok h2)⟩
      rw [← h2.len]
      exact walk_list
  | tuple xs =>
    cases e4
    refine .inr ⟨F, S, r, _, _, e2, fun F' H' v s r' d' => ?_⟩
    cases d' with
    | @tup a vs _ h1 h2 =>
      refine ⟨a, rfl, ⟨vs, sqT_up r'.fh h1⟩, q F' H' (Itt X.K a) (fun H => SqT X.K H a vs) (YAt vs) s r' ?_ (fun F1 H1 s1 s2 => sqT_up s2 (sqT_up s1 h1)) (yAt_ok h2)⟩
      rw [← h2.len]
      exact walk_tup
  | none => cases e4
  | bool _ => cases e4
  | int _ => cases e4
  | str _ => cases e4
  | dict _ => cases e4
/-- ranges -/
def upTo (lo hi : Int) : List D := (List.range (hi - lo).toNat).map fun (k : Nat) => PyData.int (lo + (k : Int))
def downTo (lo hi : Int) : List D := (List.range (lo - hi).toNat).map fun (k : Nat) => PyData.int (lo + (k : Int) * (-1))
theorem yFn_ok {F : Hp} {f : Nat → Int} {k : Nat} {Y : Nat → Hp → V → Hp → Prop} (hY : ∀ i H x H', i < k → Y i H x H' → H' = H ∧ x = .int (f i)) (hk : ∀ i H x H', Y i H x H' → i < k) : YOk K ((List.range k).map fun i => PyData.int (f i)) F Y := fun i c F1 S1 σ1 H1 x H2 s r y => by
  have hi := hk i H1 x H2 y
  obtain ⟨y1, y2⟩ := hY i H1 x H2 hi y
  subst y1
  subst y2
  exact ⟨F1, .int (f i), Same.refl F1, r, by simp [hi], .int _⟩
def rangeI1 (n : MV (List D)) : MV (List D) := bnd n fun xs => match xs with
  | [.int j] => if -(2 ^ 62) ≤ j ∧ j < 2 ^ 62 then ret (upTo 0 j) else fun _ => none
  | _ => fun _ => none
def rangeI2 (n : MV (List D)) : MV (List D) := bnd n fun xs => match xs with
  | [.int i, .int j] => if (-(2 ^ 62) ≤ i ∧ i < 2 ^ 62) ∧ -(2 ^ 62) ≤ j ∧ j < 2 ^ 62 then ret (upTo i j) else fun _ => none
  | _ => fun _ => none
/-- range(i, j, -1) -/
def rangeI3 (n : MV (List D)) : MV (List D) := bnd n fun xs => match xs with
  | [.int i, .int j, .int k] => if k = -1 ∧ (-(2 ^ 62) ≤ i ∧ i < 2 ^ 62) ∧ -(2 ^ 62) ≤ j ∧ j < 2 ^ 62 then ret (downTo i j) else fun _ => none
  | _ => fun _ => none
theorem walk_rangeB {lo : Int} {n : Nat} : L2.Walk (Itr lo n) n (fun _ => True) (fun i H x H' => i < n ∧ H' = H ∧ x = .int (lo + (i : Int))) :=
  ⟨fun _ _ hi _ => hi, fun _ _ => Nat.le_refl _, fun _ _ _ _ hi _ y => ⟨hi, y⟩⟩
theorem walk_rangeCB {lo k : Int} {n : Nat} : L2.Walk (Itc lo k n) n (fun _ => True) (fun i H x H' => i < n ∧ H' = H ∧ x = .int (lo + (i : Int) * k)) :=
  ⟨fun _ _ hi _ => hi, fun _ _ => Nat.le_refl _, fun _ _ _ _ hi _ y => ⟨hi, y⟩⟩
theorem int1 {F : Hp} {vs : List V} {xs : List D} {S1 S' : Sta} {ds : List D} {k : Int → MV (List D)} (d : DpAll K F vs xs) (h : (match xs with | [.int j] => k j | _ => fun _ => none) S1 = some (ds, S')) :
    ∃ j, vs = [.int j] ∧ xs = [.int j] ∧ k j S1 = some (ds, S') := by
  split at h
  · obtain ⟨v, rfl, hv⟩ := DpAll.one d
    cases hv
    exact ⟨_, rfl, rfl, h⟩
  · cases h
theorem int2 {F : Hp} {vs : List V} {xs : List D} {S1 S' : Sta} {ds : List D} {k : Int → Int → MV (List D)} (d : DpAll K F vs xs) (h : (match xs with | [.int i, .int j] => k i j | _ => fun _ => none) S1 = some (ds, S')) :
    ∃ i j, vs = [.int i, .int j] ∧ k i j S1 = some (ds, S') := by
  split at h
  · obtain ⟨v, w, rfl, hv, hw⟩ := DpAll.two d
    cases hv
    cases hw
    exact ⟨_, _, rfl, h⟩
  · cases h
theorem int3 {F : Hp} {vs : List V} {xs : List D} {S1 S' : Sta} {ds : List D} {k : Int → Int → Int → MV (List D)} (d : DpAll K F vs xs) (h : (match xs with | [.int i, .int j, .int l] => k i j l | _ => fun _ => none) S1 = some (ds, S')) :
    ∃ i j l, vs = [.int i, .int j, .int l] ∧ k i j l S1 = some (ds, S') := by
  split at h
  · cases d with
    | cons h1 t =>
      obtain ⟨v, w, rfl, hv, hw⟩ := DpAll.two t
      cases h1
      cases hv
      cases hw
      exact ⟨_, _, _, rfl, h⟩
  · cases h
theorem di_range1 (hg : Gl X "range") (hm : X.mg "range" = none) (ha : DL X c [e] n) (hs : starEach [e] X.env = [(false, eval e X.env)] := by rfl) : DI X c tg (.Call (.Name "range" p) [e] [] pos) (rangeI1 n) := by
  refine pi_imp (pi_range1 (tg := tg) hg hm ha hs) fun σ H R q => ?_
  obtain ⟨F, S, r, ds, S', e1, q⟩ := q
  obtain ⟨xs, S1, e2, e3⟩ := bnd_some e1
  refine ⟨F, S, r, xs, S1, e2, fun F' H' vs s r' d' => ?_⟩
  obtain ⟨j, rfl, rfl, e4⟩ := int1 d' e3
  by_cases z : -(2 ^ 62) ≤ j ∧ j < 2 ^ 62
  · rw [if_pos z] at e4
    cases e4
    refine ⟨j, rfl, z.1, z.2, ?_⟩
    refine q F' H' (Itr 0 j.toNat) (fun _ => True) (fun i H x H' => i < j.toNat ∧ H' = H ∧ x = .int (0 + (i : Int))) s r' ?_ (fun _ _ _ _ => trivial) ?_
    · unfold upTo
      simp only [List.length_map, List.length_range, Int.sub_zero]
      exact walk_rangeB
    · unfold upTo
      rw [Int.sub_zero]
      exact yFn_ok (f := fun i => 0 + (i : Int)) (fun i H x H' _ y => y.2) (fun i H x H' y => y.1)
  · rw [if_neg z] at e4
    cases e4
theorem di_range2 (hg : Gl X "range") (hm : X.mg "range" = none) (ha : DL X c [e, e2] n) (hs : starEach [e, e2] X.env = [(false, eval e X.env), (false, eval e2 X.env)] := by rfl) (hs2 : starEach [e2] X.env = [(false, eval e2 X.env)] := by rfl) : DI X c tg (.Call (.Name "range" p) [e, e2] [] pos) (rangeI2 n) := by
  refine pi_imp (pi_range2 (tg := tg) hg hm ha hs hs2) fun σ H R q => ?_
  obtain ⟨F, S, r, ds, S', e1, q⟩ := q
  obtain ⟨xs, S1, e2, e3⟩ := bnd_some e1
  refine ⟨F, S, r, xs, S1, e2, fun F' H' vs s r' d' => ?_⟩
  obtain ⟨i, j, rfl, e4⟩ := int2 d' e3
  by_cases z : (-(2 ^ 62) ≤ i ∧ i < 2 ^ 62) ∧ -(2 ^ 62) ≤ j ∧ j < 2 ^ 62
  · rw [if_pos z] at e4
    cases e4
    refine ⟨i, j, rfl, ⟨z.1.1, z.1.2, z.2.1, z.2.2⟩, ?_⟩
    refine q F' H' (Itr i (j - i).toNat) (fun _ => True) (fun k H x H' => k < (j - i).toNat ∧ H' = H ∧ x = .int (i + (k : Int))) s r' ?_ (fun _ _ _ _ => trivial) ?_
    · unfold upTo
      simp only [List.length_map, List.length_range]
      exact walk_rangeB
    · unfold upTo
      exact yFn_ok (f := fun k => i + (k : Int)) (fun i H x H' _ y => y.2) (fun i H x H' y => y.1)
  · rw [if_neg z] at e4
    cases e4
theorem di_range3 {e3 : Expr} (hg : Gl X "range") (hm : X.mg "range" = none) (ha : DL X c [e, e2, e3] n) (hs : starEach [e, e2, e3] X.env = (false, eval e X.env) :: starEach [e2, e3] X.env := by rfl) (hpl : (backTo pos (starEach [e2, e3] X.env)).any (·.1) = false := by rfl) :
    DI X c tg (.Call (.Name "range" p) [e, e2, e3] [] pos) (rangeI3 n) := by
  refine pi_imp (pi_range3 (tg := tg) hg hm ha hs hpl) fun σ H R q => ?_
  obtain ⟨F, S, r, ds, S', e1, q⟩ := q
  obtain ⟨xs, S1, e2, e3⟩ := bnd_some e1
  refine ⟨F, S, r, xs, S1, e2, fun F' H' vs s r' d' => ?_⟩
  obtain ⟨i, j, k, rfl, e4⟩ := int3 d' e3
  by_cases z : k = -1 ∧ (-(2 ^ 62) ≤ i ∧ i < 2 ^ 62) ∧ -(2 ^ 62) ≤ j ∧ j < 2 ^ 62
  · rw [if_pos z] at e4
    cases e4
    obtain ⟨rfl, z1, z2⟩ := z
    refine ⟨i, j, -1, (i - j).toNat, rfl, RgC.neg z1.1 z1.2 z2.1 z2.2, ?_⟩
    refine q F' H' (Itc i (-1) (i - j).toNat) (fun _ => True) (fun k H x H' => k < (i - j).toNat ∧ H' = H ∧ x = .int (i + (k : Int) * (-1))) s r' ?_ (fun _ _ _ _ => trivial) ?_
    · unfold downTo
      simp only [List.length_map, List.length_range]
      exact walk_rangeCB
    · unfold downTo
      exact yFn_ok (f := fun k => i + (k : Int) * (-1)) (fun i H x H' _ y => y.2) (fun i H x H' y => y.1)
  · rw [if_neg z] at e4
    cases e4
/-- new pairs -/
theorem yPair_ok {F : Hp} {a b : Nat → Option V} {ds : List D} (h : ∀ i x y, a i = some x → b i = some y → ∃ d e, ds[i]? = some (.tuple [d, e]) ∧ Dp K F x d ∧ Dp K F y e) : YOk K ds F (YPair a b) := fun i c F1 S1 σ1 H1 v H2 s r y => by
  obtain ⟨T, x, z, rfl, hT, rfl, h1, h2⟩ := y
  obtain ⟨d, e, g1, g2, g3⟩ := h i x z h1 h2
  have fT := r.fh.free hT
  refine ⟨upd F1 T (.tup [x, z]), .tuple [d, e], upd_up fT, r.alloc hT, g1, .tup (.inl (.inl upd_same)) ?_⟩
  have up := s.trans (upd_up (o := .tup [x, z]) fT)
  exact .cons (Dp.up up d x g2) (.cons (Dp.up up e z g3) .nil)
def zipL (xs ys : List D) : List D := List.zipWith (fun a b => PyData.tuple [a, b]) xs ys
/-- zip of two lists, of two tuples -/
def zipI (n : MV (List D)) : MV (List D) := bnd n fun xs => match xs with
  | [.list a, .list b] => ret (zipL a b)
  | [.tuple a, .tuple b] => ret (zipL a b)
  | _ => fun _ => none
theorem zipL_ok {F : Hp} {vs ws : List V} {a b : List D} (h1 : DpAll K F vs a) (h2 : DpAll K F ws b) : YOk K (zipL a b) F (YPair (fun i => vs[i]?) (fun i => ws[i]?)) :=
  yPair_ok fun i x y e1 e2 => by
    obtain ⟨d, g1, g2⟩ := h1.getV e1
    obtain ⟨e, g3, g4⟩ := h2.getV e2
    refine ⟨d, e, ?_, g2, g4⟩
    unfold zipL
    rw [List.getElem?_zipWith, g1, g3]
theorem walk_zipT {a b : Addr} {xs ys : List V} {n : Nat} (hn : n = min xs.length ys.length) : L2.Walk (ItzT K a b) n (fun H => SqT K H a xs ∧ SqT K H b ys) (YPair (fun i => xs[i]?) (fun i => ys[i]?)) := by
  subst hn
  refine ⟨fun i _ hi q => ?_, fun _ q => ⟨xs, ys, q.1, q.2, by omega⟩, fun i H v H' _ q y => ?_⟩
  · have h1 : i < xs.length := by omega
    have h2 : i < ys.length := by omega
    exact ⟨xs, ys, xs[i], ys[i], q.1, q.2, by simp [h1], by simp [h2]⟩
  · obtain ⟨T, x, z, h1, h2, h3, h4, h5⟩ := y
    exact ⟨T, x, z, h1, h2, h3, h4 xs q.1, h5 ys q.2⟩
theorem di_zip {elts : List Expr} {kk : Nat} {tpos : Pos} (hg : Gl X "zip") (hm : X.mg "zip" = none) (ha : DL X c [e, e2] n)
    (hs : starEach [e, e2] X.env = (false, eval e X.env) :: starEach [e2] X.env := by rfl) (hpl : (backTo pos (starEach [e2] X.env)).any (·.1) = false := by rfl) : DI X c (.Tuple elts kk tpos) (.Call (.Name "zip" p) [e, e2] [] pos) (zipI n) := by
  refine pi_imp (pi_zipA hg hm ha hs hpl) fun σ H R q => ?_
  obtain ⟨F, S, r, ds, S', e1, q⟩ := q
  obtain ⟨xs, S1, e2, e3⟩ := bnd_some e1
  refine ⟨F, S, r, xs, S1, e2, fun F' H' vs s r' d' => ?_⟩
  split at e3
  · obtain ⟨v, w, rfl, hv, hw⟩ := DpAll.two d'
    cases e3
    cases hv with
    | @lst p1 us _ h1 h2 =>
      cases hw with
      | @lst p2 ws _ g1 g2 =>
        refine ⟨p1, p2, us, ws, rfl, .inl ⟨sqL_up r'.fh h1, sqL_up r'.fh g1, q F' H' (Itz X.K p1 p2) (fun H => SqL X.K H p1 us ∧ SqL X.K H p2 ws) _ s r' (walk_zip ?_) (fun F1 H1 s1 s2 => ⟨sqL_up (s1.trans s2) h1, sqL_up (s1.trans s2) g1⟩) (zipL_ok h2 g2)⟩⟩
        unfold zipL
        rw [List.length_zipWith, h2.len, g2.len]
  · obtain ⟨v, w, rfl, hv, hw⟩ := DpAll.two d'
    cases e3
    cases hv with
    | @tup p1 us _ h1 h2 =>
      cases hw with
      | @tup p2 ws _ g1 g2 =>
        refine ⟨p1, p2, us, ws, rfl, .inr ⟨sqT_up r'.fh h1, sqT_up r'.fh g1, q F' H' (ItzT X.K p1 p2) (fun H => SqT X.K H p1 us ∧ SqT X.K H p2 ws) _ s r' (walk_zipT ?_) (fun F1 H1 s1 s2 => ⟨sqT_up (s1.trans s2) h1, sqT_up (s1.trans s2) g1⟩) (zipL_ok h2 g2)⟩⟩
        unfold zipL
        rw [List.length_zipWith, h2.len, g2.len]
  · cases e3
/-- enumerate of a list -/
def enumL (xs : List D) : List D := List.zipWith (fun (i : Nat) x => PyData.tuple [.int i, x]) (List.range xs.length) xs
def enumI (n : MV (List D)) : MV (List D) := bnd n fun xs => match xs with
  | [.list a] => ret (enumL a)
  | _ => fun _ => none
theorem enumL_get {xs : List D} {i : Nat} {x : D} (h : xs[i]? = some x) : (enumL xs)[i]? = some (.tuple [.int i, x]) := by
  have hi := (List.getElem?_eq_some_iff.mp h).1
  unfold enumL
  rw [List.getElem?_zipWith, h, List.getElem?_range hi]
theorem enumL_len (xs : List D) : (enumL xs).length = xs.length := by
  unfold enumL
  simp
theorem di_enum {elts : List Expr} {kk : Nat} {tpos : Pos} (hg : Gl X "enumerate") (hm : X.mg "enumerate" = none) (ha : DL X c [e] n) (hs : starEach [e] X.env = [(false, eval e X.env)] := by rfl) :
    DI X c (.Tuple elts kk tpos) (.Call (.Name "enumerate" p) [e] [] pos) (enumI n) := by
  refine pi_imp (pi_enum hg hm ha hs) fun σ H R q => ?_
  obtain ⟨F, S, r, ds, S', e1, q⟩ := q
  obtain ⟨xs, S1, e2, e3⟩ := bnd_some e1
  refine ⟨F, S, r, xs, S1, e2, fun F' H' vs s r' d' => ?_⟩
  split at e3
  · obtain ⟨v, rfl, hv⟩ := DpAll.one d'
    cases e3
    cases hv with
    | @lst p1 us ds h1 h2 =>
      refine ⟨p1, us, rfl, sqL_up r'.fh h1, q F' H' (Ite X.K p1) (fun H => SqL X.K H p1 us) (YPair (fun i => some (.int (i : Nat))) (fun i => us[i]?)) s r' ?_ (fun F1 H1 s1 s2 => sqL_up (s1.trans s2) h1) (yPair_ok fun i x y e1 e2 => ?_)⟩
      · rw [enumL_len, ← h2.len]
        exact walk_enum
      · obtain ⟨d, g1, g2⟩ := h2.getV e2
        cases e1
        exact ⟨.int i, d, enumL_get g1, .int _, g2⟩
  · cases e3
end

/-! ### comprehensions -/
def wipeE (env : List Slot) : List Nat → List Slot
  | [] => env
  | v :: vs => (wipeE env vs).set v .un
def Slot.isOwn : Slot → Bool
  | .own _ => true
  | _ => false
/-- the slots at vs as they were -/
def backE (old new : List Slot) : List Nat → List Slot
  | [] => new
  | v :: vs => (backE old new vs).set v (old.getD v .un)
def wipeS (vs : List Nat) : MV Unit := fun S => some ((), { S with env := wipeE S.env vs })
/-- the turns: each begins with the block's own slots empty -/
def compM (vs : List Nat) (p : Pat) (t : MV Bool) (m : MV D) : List D → MV (List D)
  | [] => ret []
  | d :: ds => fun S => match p.bind d S.env with
    | none => none
    | some env1 => bnd t (fun b => if b = true then bnd m fun y => bnd (wipeS vs) fun _ => bnd (compM vs p t m ds) fun ys => ret (y :: ys) else bnd (wipeS vs) fun _ => compM vs p t m ds) { S with env := env1 }
def compD (vs : List Nat) (i : MV (List D)) (p : Pat) (t : MV Bool) (m : MV D) : MV D := bnd i fun ds => fun S =>
  if vs.all (fun v => !(S.env.getD v .un).isOwn) = true ∧ ds.length ≤ 1000000 then
    match compM vs p t m ds { S with env := wipeE S.env vs } with
    | some (ys, S2) => some (.list ys, { S2 with env := backE S.env S2.env vs })
    | none => none
  else none
end DL

-- part DL5
set_option Elab.async false
set_option linter.all false
set_option maxRecDepth 100000
set_option maxHeartbeats 1000000
/-! DL5: comprehensions. -/
namespace DL
open PySem PySem.Spec PyProof.Rows L2 RZ
section
variable {K : PySem.W.Frag} {c : Fr} {F H : Hp} {S : Sta} {σ : L2.St} {o u : HO} {Dl : Addr}
def Fr.push (c : Fr) (d : Addr) (o : HO) : Fr := { c with H0 := upd c.H0 d o }
/-- an object beside all that is known is kept, too -/
theorem Rel.push (r : Rel K c F S σ H) (h : H Dl = some o) (hF : F Dl = none) (h0 : c.H0 Dl = none) (hx : ∀ (i : Nat) (ds : List D), S.env[i]? = some (.own ds) → σ[i]? ≠ some (some (.ref Dl))) : Rel K (c.push Dl o) F S σ H := by
  have ns : c.ps ≠ Dl := fun e => r.hs (e ▸ h0)
  have nc : c.pc ≠ Dl := fun e => r.hc (e ▸ h0)
  refine ⟨r.f0, r.fh, fun a x e => ?_, fun a x e n1 n2 => ?_, ?_, ?_, r.sr, r.fs, r.fc, r.len, fun i x e => ?_, r.sep⟩
  · have na : a ≠ Dl := ne_of_none e hF
    rcases r.fr a x e with z | z
    · exact .inl z
    · refine .inr ?_
      show upd c.H0 Dl o a = none
      rw [upd_ne na]
      exact z
  · have e' : upd c.H0 Dl o a = some x := e
    by_cases ha : a = Dl
    · subst ha
      rw [upd_same] at e'
      cases e'
      exact h
    · rw [upd_ne ha] at e'
      exact r.kp a x e' n1 n2
  · show upd c.H0 Dl o c.ps ≠ none
    rw [upd_ne ns]
    exact r.hs
  · show upd c.H0 Dl o c.pc ≠ none
    rw [upd_ne nc]
    exact r.hc
  · cases x with
    | un => trivial
    | fz d =>
      obtain ⟨v, g1, g2⟩ := r.fz_at e
      rw [g1]
      exact g2
    | own ds =>
      obtain ⟨p, vs, g1, g2, g3, g4, g5⟩ := r.own_at e
      rw [g1]
      refine ⟨p, vs, rfl, g2, g3, g4, ?_⟩
      show upd c.H0 Dl o p = none
      rw [upd_ne fun z => hx i ds e (by rw [g1, z])]
      exact g5
    | src =>
      rw [r.src_at e]
      rfl
theorem Rel.pop (r : Rel K (c.push Dl o) F S σ H) (h0 : c.H0 Dl = none) (f0 : c.F0 Dl = none) (hs : c.H0 c.ps ≠ none) (hc : c.H0 c.pc ≠ none) :
    Rel K c F S σ H ∧ H Dl = some o ∧ F Dl = none ∧ ∀ (i : Nat) (ds : List D), S.env[i]? = some (.own ds) → σ[i]? ≠ some (some (.ref Dl)) := by
  have ns : Dl ≠ c.ps := fun e => hs (e ▸ h0)
  have nc : Dl ≠ c.pc := fun e => hc (e ▸ h0)
  have hp : (c.push Dl o).H0 Dl = some o := upd_same
  have low : ∀ a, (c.push Dl o).H0 a = none → c.H0 a = none := fun a e => by
    have e' : upd c.H0 Dl o a = none := e
    by_cases ha : a = Dl
    · rw [ha]
      exact h0
    · rw [upd_ne ha] at e'
      exact e'
  have hF : F Dl = none := by
    cases z : F Dl with
    | none => rfl
    | some x =>
      rcases r.fr Dl x z with w | w
      · have : c.F0 Dl = some x := w
        rw [f0] at this
        cases this
      · rw [hp] at w
        cases w
  refine ⟨⟨r.f0, r.fh, fun a x e => ?_, fun a x e n1 n2 => ?_, hs, hc, r.sr, r.fs, r.fc, r.len, fun i x e => ?_, r.sep⟩, r.kp Dl o hp ns nc, hF, fun i ds e z => ?_⟩
  · exact (r.fr a x e).imp id (low a)
  · refine r.kp a x ?_ n1 n2
    show upd c.H0 Dl o a = some x
    rw [upd_ne (ne_of_none e h0)]
    exact e
  · cases x with
    | un => trivial
    | fz d =>
      obtain ⟨v, g1, g2⟩ := r.fz_at e
      rw [g1]
      exact g2
    | own ds =>
      obtain ⟨p, vs, g1, g2, g3, g4, g5⟩ := r.own_at e
      rw [g1]
      exact ⟨p, vs, rfl, g2, g3, g4, low p g5⟩
    | src =>
      rw [r.src_at e]
      rfl
  · obtain ⟨p, vs, g1, g2, g3, g4, g5⟩ := r.own_at e
    rw [g1] at z
    have z' : p = Dl := V.ref.inj (Option.some.inj (Option.some.inj z))
    rw [z', hp] at g5
    cases g5
/-- the object beside is changed -/
theorem Rel.repush (r : Rel K (c.push Dl o) F S σ H) (h0 : c.H0 Dl = none) (f0 : c.F0 Dl = none) (hs : c.H0 c.ps ≠ none) (hc : c.H0 c.pc ≠ none) : Rel K (c.push Dl u) F S σ (upd H Dl u) := by
  obtain ⟨r1, h1, h2, h3⟩ := r.pop h0 f0 hs hc
  have ns : c.ps ≠ Dl := fun e => hs (e ▸ h0)
  have nc : c.pc ≠ Dl := fun e => hc (e ▸ h0)
  refine Rel.push ⟨r1.f0, fun b x e => ?_, r1.fr, fun a x e n1 n2 => ?_, hs, hc, ⟨?_, ?_⟩, r1.fs, r1.fc, r1.len, fun i x e => ?_, r1.sep⟩ upd_same h2 h0 h3
  · rw [upd_ne (ne_of_none e h2)]
    exact r1.fh b x e
  · rw [upd_ne (ne_of_none e h0)]
    exact r1.kp a x e n1 n2
  · rw [upd_ne ns]
    exact r1.sr.d
  · rw [upd_ne nc]
    exact r1.sr.l
  · cases x with
    | un => trivial
    | fz d =>
      obtain ⟨v, g1, g2⟩ := r1.fz_at e
      rw [g1]
      exact g2
    | own ds =>
      obtain ⟨p, vs, g1, g2, g3, g4, g5⟩ := r1.own_at e
      rw [g1]
      refine ⟨p, vs, rfl, ?_, g3, g4, g5⟩
      rw [upd_ne fun z => h3 i ds e (by rw [g1, z])]
      exact g2
    | src =>
      rw [r1.src_at e]
      rfl
theorem wipeE_length (env : List Slot) : ∀ vs : List Nat, (wipeE env vs).length = env.length
  | [] => rfl
  | v :: vs => by
    unfold wipeE
    rw [List.length_set, wipeE_length env vs]
theorem wipeE_in {env : List Slot} {i : Nat} : ∀ {vs : List Nat}, i ∈ vs → ∀ x, (wipeE env vs)[i]? = some x → x = .un
  | v :: vs, h, x, e => by
    unfold wipeE at e
    by_cases hi : v = i
    · subst hi
      by_cases hl : v < (wipeE env vs).length
      · rw [List.getElem?_set_self hl] at e
        exact (Option.some.inj e).symm
      · rw [List.getElem?_eq_none (by simpa using hl)] at e
        cases e
    · rw [List.getElem?_set_ne hi] at e
      refine wipeE_in (vs := vs) ?_ x e
      rcases List.mem_cons.mp h with z | z
      · exact absurd z.symm hi
      · exact z
theorem wipeE_out {env : List Slot} {i : Nat} : ∀ {vs : List Nat}, i ∉ vs → (wipeE env vs)[i]? = env[i]?
  | [], _ => rfl
  | v :: vs, h => by
    simp only [List.mem_cons, not_or] at h
    unfold wipeE
    rw [List.getElem?_set_ne (Ne.symm h.1)]
    exact wipeE_out h.2
theorem wipe_out' {σ : L2.St} {i : Nat} : ∀ {vs : List Nat}, i ∉ vs → (wipe σ vs)[i]? = σ[i]?
  | [], _ => rfl
  | v :: vs, h => by
    simp only [List.mem_cons, not_or] at h
    unfold wipe
    rw [List.getElem?_set_ne (Ne.symm h.1)]
    exact wipe_out' h.2
/-- only the kept slots matter -/
theorem Rel.slots {env : List Slot} {τ : L2.St} (r : Rel K c F S σ H) (hl : τ.length = env.length) (h : ∀ (i : Nat) (x : Slot), env[i]? = some x → x = .un ∨ (S.env[i]? = some x ∧ τ[i]? = σ[i]?) ∨ (x.isOwn = false ∧ SlotOk K c F H (τ[i]?).join x)) : Rel K c F { S with env := env } τ H := by
  have own : ∀ (i : Nat) (ds : List D), env[i]? = some (.own ds) → S.env[i]? = some (.own ds) ∧ τ[i]? = σ[i]? := fun i ds e => by
    rcases h i _ e with z | z | z
    · cases z
    · exact z
    · exact absurd (show true = false from z.1) (by decide)
  refine ⟨r.f0, r.fh, r.fr, r.kp, r.hs, r.hc, r.sr, r.fs, r.fc, hl, fun i x e => ?_, fun i j a b n e1 e2 => ?_⟩
  · rcases h i x e with z | z | z
    · rw [z]
      trivial
    · rw [z.2]
      exact r.sl i x z.1
    · exact z.2
  · obtain ⟨g1, g2⟩ := own i a e1
    obtain ⟨g3, g4⟩ := own j b e2
    rw [g2, g4]
    exact r.sep i j a b n g1 g3
theorem Rel.wipe (r : Rel K c F S σ H) (vs : List Nat) : Rel K c F { S with env := wipeE S.env vs } (L2.wipe σ vs) H :=
  r.slots (by rw [wipe_length, wipeE_length, r.len]) fun i x e => by
    by_cases h : i ∈ vs
    · exact .inl (wipeE_in h x e)
    · rw [wipeE_out h] at e
      exact .inr (.inl ⟨e, wipe_out' h⟩)
theorem backE_length (a b : List Slot) : ∀ vs : List Nat, (backE a b vs).length = b.length
  | [] => rfl
  | v :: vs => by
    unfold backE
    rw [List.length_set, backE_length a b vs]
theorem backE_in {a b : List Slot} {i : Nat} : ∀ {vs : List Nat}, i ∈ vs → ∀ x, (backE a b vs)[i]? = some x → x = a.getD i .un
  | v :: vs, h, x, e => by
    unfold backE at e
    by_cases hi : v = i
    · subst hi
      by_cases hl : v < (backE a b vs).length
      · rw [List.getElem?_set_self hl] at e
        exact (Option.some.inj e).symm
      · rw [List.getElem?_eq_none (by simpa using hl)] at e
        cases e
    · rw [List.getElem?_set_ne hi] at e
      refine backE_in (vs := vs) ?_ x e
      rcases List.mem_cons.mp h with z | z
      · exact absurd z.symm hi
      · exact z
theorem backE_out {a b : List Slot} {i : Nat} : ∀ {vs : List Nat}, i ∉ vs → (backE a b vs)[i]? = b[i]?
  | [], _ => rfl
  | v :: vs, h => by
    simp only [List.mem_cons, not_or] at h
    unfold backE
    rw [List.getElem?_set_ne (Ne.symm h.1)]
    exact backE_out h.2
/-- behind a comprehension: its own slots as they were -/
theorem Rel.back {F1 H1 : Hp} {S1 : Sta} (vs : List Nat) (r : Rel K c F S σ H) (r1 : Rel K c F1 S1 (L2.wipe σ vs) H1) (s : Same F F1) (hv : vs.all (fun v => !(S.env.getD v .un).isOwn) = true) : Rel K c F1 { S1 with env := backE S.env S1.env vs } σ H1 := by
  refine r1.slots (by rw [backE_length, ← r1.len, wipe_length]) fun i x e => ?_
  by_cases h : i ∈ vs
  · have e1 := backE_in h x e
    have e2 := List.all_eq_true.mp hv i h
    by_cases hl : i < S.env.length
    · have e3 : S.env[i]? = some x := by
        rw [e1, List.getD_eq_getElem?_getD, List.getElem?_eq_getElem hl]
        rfl
      rw [← e1] at e2
      have e4 : x.isOwn = false := by
        cases z : x.isOwn with
        | false => rfl
        | true =>
          rw [z] at e2
          cases e2
      refine .inr (.inr ⟨e4, ?_⟩)
      cases x with
      | un => trivial
      | fz d =>
        obtain ⟨v, g1, g2⟩ := r.fz_at e3
        rw [g1]
        exact Dp.up s d v g2
      | own ds => exact absurd (show true = false from e4) (by decide)
      | src =>
        rw [r.src_at e3]
        rfl
    · left
      rw [e1, List.getD_eq_getElem?_getD, List.getElem?_eq_none (by omega)]
      rfl
  · rw [backE_out h] at e
    exact .inr (.inl ⟨e, (wipe_out' h).symm⟩)
theorem wipe_only {τ : L2.St} : ∀ {ws vs : List Nat}, OnlyAt ws (L2.wipe σ vs) τ → (∀ i ∈ ws, i ∈ vs) → L2.wipe τ vs = L2.wipe σ vs := fun {ws vs} o h => by
  refine List.ext_getElem? fun i => ?_
  by_cases hi : i ∈ vs
  · have big : ∀ (τ : L2.St) (vs : List Nat), i ∈ vs → (L2.wipe τ vs)[i]? = if i < τ.length then some none else none := by
      intro τ vs
      induction vs with
      | nil => intro h; cases h
      | cons v vs ih =>
        intro h
        unfold L2.wipe
        by_cases hv : v = i
        · subst hv
          by_cases hl : v < (L2.wipe τ vs).length
          · rw [List.getElem?_set_self hl]
            rw [wipe_length] at hl
            rw [if_pos hl]
          · rw [List.getElem?_eq_none (by simpa using hl)]
            rw [wipe_length] at hl
            rw [if_neg hl]
        · rw [List.getElem?_set_ne hv]
          refine ih ?_
          rcases List.mem_cons.mp h with z | z
          · exact absurd z.symm hv
          · exact z
    rw [big τ vs hi, big σ vs hi, o.1, wipe_length]
  · rw [wipe_out' hi, wipe_out' hi, o.2 i fun z => hi (h i z), wipe_out' hi]
/-- one's own names are stored in the comprehension's block alone -/
theorem Rel.fresh0 {p : Addr} (r : Rel K c F S σ H) (h : H p = none) : c.H0 p = none ∧ F p = none ∧ c.F0 p = none ∧ ∀ (i : Nat) (ds : List D), S.env[i]? = some (.own ds) → σ[i]? ≠ some (some (.ref p)) := by
  have nps : p ≠ c.ps := fun e => by
    have := r.sr.d
    rw [← e, h] at this
    cases this
  have npc : p ≠ c.pc := fun e => by
    have := r.sr.l
    rw [← e, h] at this
    cases this
  have fp := r.fh.free h
  refine ⟨?_, fp, r.f0.free fp, fun i ds e z => ?_⟩
  · cases q : c.H0 p with
    | none => rfl
    | some u =>
      have := r.kp p u q nps npc
      rw [h] at this
      cases this
  · obtain ⟨q, vs, g1, g2, _⟩ := r.own_at e
    rw [g1] at z
    have z' : q = p := V.ref.inj (Option.some.inj (Option.some.inj z))
    rw [z', h] at g2
    cases g2
end
/-- whatever stands beside -/
def tDx (K : PySem.W.Frag) (m : MV D) : TE := fun σ H Q => ∃ c, tD K c m σ H Q
def tTx (K : PySem.W.Frag) (m : MV Bool) : TT := fun σ H Q => ∃ c, tT K c m σ H Q
/-- a comprehension's new list as it stands -/
def GoN (K : PySem.W.Frag) (c : Fr) (r : Option (D × Sta)) (F : Hp) (σ : L2.St) (Q : VK) : Prop :=
  ∃ ys S', r = some (.list ys, S') ∧ ∀ F' H' (l : Addr) ws, Same F F' → Rel K c F' S' σ H' → F' l = none → c.H0 l = none → (∀ (j : Nat) (ds : List D), S'.env[j]? = some (.own ds) → σ[j]? ≠ some (some (.ref l))) → H' l = some (.lst ws) → DpAll K F' ws ys → Q (.ref l) H'
def tN (K : PySem.W.Frag) (c : Fr) (m : MV D) : TE := fun σ H Q => ∃ F S, Rel K c F S σ H ∧ GoN K c (m S) F σ Q
/-- the reading of a comprehension -/
theorem t_comp {K : PySem.W.Frag} {c : Fr} {vs : List Nat} {i : MV (List D)} {p : Pat} {t : MV Bool} {m : MV D} {σ : L2.St} {H : Hp} {Q : VK}
    (hvs : ∀ j ∈ p.vars, j ∈ vs) (h : tN K c (compD vs i p t m) σ H Q) : tLc (tI K c i) (gP K p) (tTx K t) (tDx K m) vs σ H Q := by
  obtain ⟨F, S, r, ys, S', e, q⟩ := h
  obtain ⟨ds, S1, e1, e2⟩ := bnd_some e
  have e2' : (if vs.all (fun v => !(S1.env.getD v .un).isOwn) = true ∧ ds.length ≤ 1000000 then
    match compM vs p t m ds { S1 with env := wipeE S1.env vs } with
    | some (ys, S2) => some (PyData.list ys, { S2 with env := backE S1.env S2.env vs })
    | none => none
  else none) = some (PyData.list ys, S') := e2
  by_cases z : vs.all (fun v => !(S1.env.getD v .un).isOwn) = true ∧ ds.length ≤ 1000000
  · rw [if_pos z] at e2'
    cases ec : compM vs p t m ds { S1 with env := wipeE S1.env vs } with
    | none =>
      rw [ec] at e2'
      cases e2'
    | some r2 =>
      obtain ⟨ys', S2⟩ := r2
      rw [ec] at e2'
      have e3 : ys' = ys ∧ { S2 with env := backE S1.env S2.env vs } = S' := by
        have := Option.some.inj e2'
        exact ⟨PyData.list.inj (congrArg Prod.fst this), congrArg Prod.snd this⟩
      obtain ⟨rfl, rfl⟩ := e3
      refine ⟨F, S, r, ds, S1, e1, fun F1 H1 J G Y s1 r1 W hG hY Dl hD => ?_⟩
      obtain ⟨d0, dF, dF0, dx⟩ := r1.fresh0 hD
      have first : Rel K (c.push Dl (.lst [])) F1 { S1 with env := wipeE S1.env vs } (wipe σ vs) (upd H1 Dl (.lst [])) := by
        have ra := (r1.junk (o := .lst []) hD).wipe vs
        refine ra.push upd_same dF d0 fun j ds' ej z' => ?_
        by_cases hj : j ∈ vs
        · have := wipeE_in hj _ ej
          cases this
        · rw [wipeE_out hj] at ej
          rw [wipe_out' hj] at z'
          exact dx j ds' ej z'
      -- the loop's word: what is made so far, and what the rest gives
      refine lc_it (g := gP K p) (tt := tTx K t) (te := tDx K m) (vs := vs) (σ := σ) (D := Dl) (Qd := fun H' => Q (.ref Dl) H') W
        (fun k Hk => ∃ acc F2 S3 dn rest, Rel K (c.push Dl (.lst acc)) F2 S3 (wipe σ vs) Hk ∧ Same F1 F2 ∧ DpAll K F2 acc dn ∧ acc.length ≤ k ∧ compM vs p t m (ds.drop k) S3 = some (rest, S2) ∧ dn ++ rest = ys') ?_ ?_ ?_ ?_
      · exact ⟨[], F1, _, [], ys', first, Same.refl F1, .nil, Nat.zero_le _, by simpa using ec, rfl⟩
      · rintro k Hk _ ⟨acc, F2, S3, dn, rest, g1, g2, _⟩
        exact hG F2 Hk g2 (g1.fh)
      · rintro k x Hk Hk' hk ⟨acc, F2, S3, dn, rest, g1, g2, g3, g4, g5, g6⟩ y
        obtain ⟨F3, d, s3, r3, ed, hd⟩ := hY k _ F2 S3 (wipe σ vs) Hk x Hk' g2 g1 y
        have hk' : k < ds.length := hk
        have edrop : ds.drop k = d :: ds.drop (k + 1) := by
          rw [List.drop_eq_getElem_cons hk']
          rw [List.getElem?_eq_getElem hk'] at ed
          rw [Option.some.inj ed]
        rw [edrop] at g5
        unfold compM at g5
        cases eb : p.bind d S3.env with
        | none =>
          rw [eb] at g5
          cases g5
        | some env1 =>
          rw [eb] at g5
          have hs : c.H0 c.ps ≠ none := r1.hs
          have hc : c.H0 c.pc ≠ none := r1.hc
          refine gP_run p r3 hd eb fun σ2 r4 o4 => ⟨wipe_only o4 hvs, ?_⟩
          obtain ⟨b, S5, e5, e6⟩ := bnd_some g5
          refine ⟨c.push Dl (.lst acc), F3, _, r4, b, S5, e5, fun F5 H5 s5 r5 => ?_⟩
          cases b with
          | true =>
            rw [if_pos rfl]
            obtain ⟨y', S6, e7, e8⟩ := bnd_some e6
            obtain ⟨_, S7, e9, e10⟩ := bnd_some e8
            cases e9
            obtain ⟨ys2, S8, e11, e12⟩ := bnd_some e10
            cases e12
            refine ⟨c.push Dl (.lst acc), F5, S5, r5, y', S6, e7, fun F6 H6 v6 s6 r6 d6 => ?_⟩
            have up := (s3.trans s5).trans s6
            obtain ⟨_, l1, l2, _⟩ := r6.pop d0 dF0 hs hc
            refine ⟨acc, l1, ?_, acc ++ [v6], F6, _, dn ++ [y'], ys2, ?_, g2.trans up, (DpAll.up up _ _ g3).append (.cons d6 .nil), ?_, e11, ?_⟩
            · have : sizeLine = 16777216 := sizeLine_eq
              omega
            · have w := (r6.repush (u := .lst (acc ++ [v6])) d0 dF0 hs hc).wipe vs
              rw [wipe_only o4 hvs] at w
              exact w
            · simp
              omega
            · rw [← g6]
              simp
          | false =>
            rw [if_neg Bool.false_ne_true]
            have e6' : bnd (wipeS vs) (fun _ => compM vs p t m (ds.drop (k + 1))) S5 = some (rest, S2) := e6
            obtain ⟨_, S7, e9, e10⟩ := bnd_some e6'
            cases e9
            have up := s3.trans s5
            refine ⟨acc, F5, _, dn, rest, ?_, g2.trans up, DpAll.up up _ _ g3, by omega, e10, g6⟩
            have w := r5.wipe vs
            rw [wipe_only o4 hvs] at w
            exact w
      · rintro Hk ⟨acc, F2, S3, dn, rest, g1, g2, g3, g4, g5, g6⟩
        rw [List.drop_length] at g5
        unfold compM at g5
        cases g5
        rw [List.append_nil] at g6
        subst g6
        obtain ⟨k1, k2, k3, k4⟩ := g1.pop d0 dF0 r1.hs r1.hc
        have k5 := r1.back vs k1 g2 z.1
        refine q F2 Hk Dl acc (s1.trans g2) k5 k3 d0 (fun j ds' ej zj => ?_) k2 g3
        by_cases hj : j ∈ vs
        · have e1 := backE_in hj _ ej
          have e2 := List.all_eq_true.mp z.1 j hj
          rw [← e1] at e2
          cases e2
        · have ej' : (backE S1.env S2.env vs)[j]? = some (.own ds') := ej
          rw [backE_out hj] at ej'
          rw [← wipe_out' hj] at zj
          exact k4 j ds' ej' zj
  · rw [if_neg z] at e2'
    cases e2'
section
variable {X : Cx} {c : Fr} {e : Expr} {m : MV D}
/-- a new list, as an expression's value, stands still -/
theorem tN_tD {K : PySem.W.Frag} {σ : L2.St} {H : Hp} {Q : VK} (hl : ∀ S d S', m S = some (d, S') → ∃ ys, d = .list ys) (h : tD K c m σ H Q) : tN K c m σ H Q := by
  obtain ⟨F, S, r, d, S', e, q⟩ := h
  obtain ⟨ys, rfl⟩ := hl S d S' e
  refine ⟨F, S, r, ys, S', e, fun F' H' l ws s r' g1 g2 g3 g4 g5 => ?_⟩
  -- l is put to what stands still
  have ns : l ≠ c.ps := fun w => r.hs (w ▸ g2)
  have nc : l ≠ c.pc := fun w => r.hc (w ▸ g2)
  have up := upd_up (o := .lst ws) g1
  refine q (upd F' l (.lst ws)) H' (.ref l) (s.trans up) ⟨r'.f0.trans up, fun b x w => ?_, fun a x w => ?_, r'.kp, r'.hs, r'.hc, r'.sr, ?_, ?_, r'.len, fun i x w => ?_, r'.sep⟩ (.lst (.inl (.inl upd_same)) (DpAll.up up _ _ g5))
  · by_cases hb : b = l
    · subst hb
      rw [upd_same] at w
      cases w
      exact g4
    · rw [upd_ne hb] at w
      exact r'.fh b x w
  · by_cases hb : a = l
    · subst hb
      exact .inr g2
    · rw [upd_ne hb] at w
      exact r'.fr a x w
  · rw [upd_ne (Ne.symm ns)]
    exact r'.fs
  · rw [upd_ne (Ne.symm nc)]
    exact r'.fc
  · cases x with
    | un => trivial
    | fz d =>
      obtain ⟨v, k1, k2⟩ := r'.fz_at w
      rw [k1]
      exact Dp.up up d v k2
    | own ds =>
      obtain ⟨p, us, k1, k2, k3, k4, k5⟩ := r'.own_at w
      rw [k1]
      refine ⟨p, us, rfl, k2, DpAll.up up _ _ k3, ?_, k5⟩
      rw [upd_ne fun z => g3 i ds w (by rw [k1, z])]
      exact k4
    | src =>
      rw [r'.src_at w]
      rfl
theorem compD_list {vs : List Nat} {i : MV (List D)} {p : Pat} {t : MV Bool} {S S' : Sta} {d : D} (h : compD vs i p t m S = some (d, S')) : ∃ ys, d = .list ys := by
  obtain ⟨ds, S1, e1, e2⟩ := bnd_some h
  have e2' : (if vs.all (fun v => !(S1.env.getD v .un).isOwn) = true ∧ ds.length ≤ 1000000 then
    match compM vs p t m ds { S1 with env := wipeE S1.env vs } with
    | some (ys, S2) => some (PyData.list ys, { S2 with env := backE S1.env S2.env vs })
    | none => none
  else none) = some (d, S') := e2
  split at e2'
  · split at e2'
    · cases e2'
      exact ⟨_, rfl⟩
    · cases e2'
  · cases e2'
/-- a comprehension's tests -/
def DTs (X : Cx) (ifs : List Expr) (t : MV Bool) : Prop := PTs X ifs (tTx X.K t)
theorem pts_imp {ifs : List Expr} {t t' : TT} (h : PTs X ifs t) (i : ∀ σ H Q, t' σ H Q → t σ H Q) : PTs X ifs t' := ⟨fun pins s σ H Q I q => h.run pins s σ H Q I (i σ H Q q)⟩
theorem pt_ex {e : Expr} {t : MV Bool} (h : ∀ c, DT X c e t) : PT X e (tTx X.K t) := ⟨fun pins s σ H Q I ⟨c, q⟩ => (h c).run pins s σ H Q I q⟩
theorem pe_ex {e : Expr} {m : MV D} (h : ∀ c, DE X c e m) : PE X e (tDx X.K m) := ⟨fun pins s σ H Q I ⟨c, q⟩ => (h c).run pins s σ H Q I q⟩
theorem dts_nil : DTs X [] (ret true) := pts_imp pts_nil fun σ H Q ⟨c, F, S, r, b, S', e, q⟩ => by
  cases e
  exact q F H (Same.refl F) r
theorem dts_one {t : MV Bool} (h : ∀ c, DT X c e t) : DTs X [e] t := pts_one (pt_ex h)
variable {elt tg iter : Expr} {ifs : List Expr} {scope : Scope} {own : List (Str × Nat)} {pos : Pos} {i : MV (List D)} {p : Pat} {t : MV Bool}
theorem pe_comp (hc : X.calm = true) (hN : X.N.Nodup) (hi : DI X c tg iter i) (ok : BlkOk X.N X.env.scope scope own) (hvs : ∀ j ∈ p.vars, j ∈ own.map (·.2))
    (hg : ∀ (s : Shared) (H : Hp) (C : Addr) (cl : List (Str × Addr)) (fp : List Addr), DG (X.blk s H scope (compEnvC scope cl C X.env) fp) tg p) (ht : ∀ (s : Shared) (H : Hp) (C : Addr) (cl : List (Str × Addr)) (fp : List Addr), DTs (X.blk s H scope (compEnvC scope cl C X.env) fp) ifs t)
    (he : ∀ (s : Shared) (H : Hp) (C : Addr) (cl : List (Str × Addr)) (fp : List Addr) (c' : Fr), DE (X.blk s H scope (compEnvC scope cl C X.env) fp) c' elt m) (hs : ∀ x, foldedSetIterable iter X.env x = pure x := by intro _; rfl) :
    PE X (.ListComp elt [⟨tg, iter, ifs, 0⟩] scope pos) (tN X.K c (compD (own.map (·.2)) i p t m)) :=
  pe_imp (pe_lc (g := gP X.K p) (tt := tTx X.K t) (te := tDx X.K m) hc hN hi ok hg ht (fun s H C cl fp => pe_ex (he s H C cl fp)) hs) fun σ H Q h => t_comp hvs h
theorem de_comp (hc : X.calm = true) (hN : X.N.Nodup) (hi : DI X c tg iter i) (ok : BlkOk X.N X.env.scope scope own) (hvs : ∀ j ∈ p.vars, j ∈ own.map (·.2))
    (hg : ∀ (s : Shared) (H : Hp) (C : Addr) (cl : List (Str × Addr)) (fp : List Addr), DG (X.blk s H scope (compEnvC scope cl C X.env) fp) tg p) (ht : ∀ (s : Shared) (H : Hp) (C : Addr) (cl : List (Str × Addr)) (fp : List Addr), DTs (X.blk s H scope (compEnvC scope cl C X.env) fp) ifs t)
    (he : ∀ (s : Shared) (H : Hp) (C : Addr) (cl : List (Str × Addr)) (fp : List Addr) (c' : Fr), DE (X.blk s H scope (compEnvC scope cl C X.env) fp) c' elt m) (hs : ∀ x, foldedSetIterable iter X.env x = pure x := by intro _; rfl) :
    DE X c (.ListComp elt [⟨tg, iter, ifs, 0⟩] scope pos) (compD (own.map (·.2)) i p t m) :=
  pe_imp (pe_comp hc hN hi ok hvs hg ht he hs) fun σ H Q h => tN_tD (fun S d S' e => compD_list e) h
end
end DL

-- part DL6
set_option Elab.async false
set_option linter.all false
set_option maxRecDepth 100000
set_option maxHeartbeats 1000000
/-! DL6: statements, defs. -/
namespace DL
open PySem PySem.Spec PyProof.Rows L2 RZ

inductive Out where
  | nx | rt (d : D) | bk | ct
abbrev MS := MV Out
def EndAt (K : PySem.W.Frag) (F : Hp) (D : Ends) (o : Out) (σ : L2.St) (H : Hp) : Prop := match o with
  | .nx => D.nx σ H
  | .bk => D.bk σ H
  | .ct => D.ct σ H
  | .rt d => ∀ v, Dp K F v d → D.rt v H
def GoS (K : PySem.W.Frag) (c : Fr) (r : Option (Out × Sta)) (F : Hp) (D : Ends) : Prop :=
  ∃ o S', r = some (o, S') ∧ ∀ F' H' σ', Same F F' → Rel K c F' S' σ' H' → EndAt K F' D o σ' H'
def tS (K : PySem.W.Frag) (c : Fr) (m : MS) : TS := fun D σ H => ∃ F S, Rel K c F S σ H ∧ GoS K c (m S) F D
def DS (X : Cx) (c : Fr) (st : Stmt) (m : MS) : Prop := PS X st (tS X.K c m)
def DSs (X : Cx) (c : Fr) (st : List Stmt) (m : MS) : Prop := PSs X st (tS X.K c m)
def setF (i : Nat) (d : D) : MS := fun S => some (.nx, { S with env := S.env.set i (.fz d) })
def setO (i : Nat) (ds : List D) : MS := fun S => some (.nx, { S with env := S.env.set i (.own ds) })
def bindS (p : Pat) (d : D) : MS := fun S => match p.bind d S.env with
  | some env => some (.nx, { S with env := env })
  | none => none
def seqS (m n : MS) : MS := bnd m fun o => match o with
  | .nx => n
  | o => ret o
def asgS (i : Nat) (m : MV D) : MS := bnd m (setF i)
/-- name = a new list: one's own -/
def asgN (i : Nat) (m : MV D) : MS := bnd m fun d => match d with
  | .list ys => setO i ys
  | _ => fun _ => none
def retS (m : MV D) : MS := bnd m fun d => ret (.rt d)
def dropS (m : MV D) : MS := bnd m fun _ => ret .nx
def ifS (t : MV Bool) (m n : MS) : MS := bnd t fun b => if b = true then m else n
def unpS (p : Pat) (m : MV D) : MS := bnd m (bindS p)
def forM (p : Pat) (b : MS) : List D → MS
  | [] => ret .nx
  | d :: ds => fun S => match p.bind d S.env with
    | none => none
    | some env1 => bnd b (fun o => match o with
      | .nx => forM p b ds
      | .ct => forM p b ds
      | .bk => ret .nx
      | .rt d => ret (.rt d)) { S with env := env1 }
def forS (i : MV (List D)) (p : Pat) (b : MS) : MS := bnd i (forM p b)
def whileF (t : MV Bool) (b : MS) : Nat → MS
  | 0 => fun _ => none
  | n + 1 => bnd t fun k => if k = true then bnd b fun o => match o with
      | .nx => whileF t b n
      | .ct => whileF t b n
      | .bk => ret .nx
      | .rt d => ret (.rt d)
    else ret .nx
open Classical in
noncomputable def whileS (t : MV Bool) (b : MS) : MS := fun S => if h : ∃ n r, whileF t b n S = some r then some h.choose_spec.choose else none
theorem whileF_mono {t : MV Bool} {b : MS} : ∀ (n : Nat) (S : Sta) (r : Out × Sta) (k : Nat), whileF t b n S = some r → whileF t b (n + k) S = some r
  | 0, S, r, k, h => by cases h
  | n + 1, S, r, k, h => by
    rw [show n + 1 + k = (n + k) + 1 by omega]
    unfold whileF at h ⊢
    obtain ⟨o', S'⟩ := r
    obtain ⟨x, S1, e1, e2⟩ := bnd_some h
    rw [bnd_eq e1]
    cases x with
    | false => exact e2
    | true =>
      rw [if_pos rfl] at e2 ⊢
      obtain ⟨o, S2, e3, e4⟩ := bnd_some e2
      rw [bnd_eq e3]
      cases o with
      | nx => exact whileF_mono n S2 _ k e4
      | ct => exact whileF_mono n S2 _ k e4
      | bk => exact e4
      | rt d => exact e4
theorem whileS_of {t : MV Bool} {b : MS} {n : Nat} {S : Sta} {r : Out × Sta} (h : whileF t b n S = some r) : whileS t b S = some r := by
  have ex : ∃ n r, whileF t b n S = some r := ⟨n, r, h⟩
  unfold whileS
  rw [dif_pos ex]
  have h2 := ex.choose_spec.choose_spec
  have a := whileF_mono n S r ex.choose h
  have b := whileF_mono _ S _ n h2
  rw [Nat.add_comm] at b
  rw [a] at b
  rw [← Option.some.inj b]
theorem whileS_some {t : MV Bool} {b : MS} {S : Sta} {r : Out × Sta} (h : whileS t b S = some r) : ∃ n, whileF t b n S = some r := by
  unfold whileS at h
  by_cases ex : ∃ n r, whileF t b n S = some r
  · rw [dif_pos ex] at h
    have h2 := ex.choose_spec.choose_spec
    rw [Option.some.inj h] at h2
    exact ⟨_, h2⟩
  · rw [dif_neg ex] at h
    cases h
theorem whileS_end {t : MV Bool} {b : MS} {S S1 : Sta} (h : t S = some (false, S1)) : whileS t b S = some (.nx, S1) := whileS_of (n := 1) (by
  unfold whileF
  rw [bnd_eq h]
  rfl)
theorem whileS_go {t : MV Bool} {b : MS} {S S1 S2 : Sta} {r : Out × Sta} (h : t S = some (true, S1)) (hb : b S1 = some (.nx, S2)) (hr : whileS t b S2 = some r) : whileS t b S = some r := by
  obtain ⟨n, hn⟩ := whileS_some hr
  refine whileS_of (n := n + 1) ?_
  unfold whileF
  rw [bnd_eq h, if_pos rfl, bnd_eq hb]
  exact hn
section
variable {X : Cx} {c : Fr} {K : PySem.W.Frag} {F H : Hp} {S : Sta} {σ : L2.St} {e : Expr} {m : MV D} {pos : Pos} {st : Stmt} {rest : List Stmt} {a b : MS} {t : MV Bool}
/-- a list that no one else knows becomes one's own -/
theorem Rel.adopt {i : Nat} {l : Addr} {ws : List V} {ys : List D} (r : Rel K c F S σ H) (h : H l = some (.lst ws)) (hF : F l = none) (h0 : c.H0 l = none) (hx : ∀ (j : Nat) (ds : List D), S.env[j]? = some (.own ds) → σ[j]? ≠ some (some (.ref l))) (hd : DpAll K F ws ys) :
    Rel K c F { S with env := S.env.set i (.own ys) } (σ.set i (some (.ref l))) H := by
  refine ⟨r.f0, r.fh, r.fr, r.kp, r.hs, r.hc, r.sr, r.fs, r.fc, by simp [r.len], fun j x e => ?_, fun j k a b n e1 e2 => ?_⟩
  · by_cases hj : i = j
    · subst hj
      by_cases hl : i < S.env.length
      · rw [List.getElem?_set_self hl] at e
        rw [List.getElem?_set_self (by rw [r.len]; exact hl)]
        cases e
        exact ⟨l, ws, rfl, h, hd, hF, h0⟩
      · rw [List.getElem?_eq_none (by simp; omega)] at e
        cases e
    · rw [List.getElem?_set_ne hj] at e ⊢
      exact r.sl j x e
  · have other : ∀ (j : Nat) (b : List D), S.env[j]? = some (.own b) → (σ[j]?).join ≠ some (.ref l) := fun j b e z => by
      obtain ⟨q, us, h1, _⟩ := r.own_at e
      refine hx j b e ?_
      rw [h1] at z ⊢
      exact congrArg some z
    by_cases hj : i = j
    · subst hj
      have hl : i < S.env.length := by
        by_cases hl : i < S.env.length
        · exact hl
        · rw [List.getElem?_eq_none (by simp; omega)] at e1
          cases e1
      rw [List.getElem?_set_ne n] at e2
      rw [List.getElem?_set_self (by rw [r.len]; exact hl), List.getElem?_set_ne n]
      exact fun z => other k b e2 z.symm
    · rw [List.getElem?_set_ne hj] at e1
      by_cases hk : i = k
      · subst hk
        have hl : i < S.env.length := by
          by_cases hl : i < S.env.length
          · exact hl
          · rw [List.getElem?_eq_none (by simp; omega)] at e2
            cases e2
        rw [List.getElem?_set_self (by rw [r.len]; exact hl), List.getElem?_set_ne hj]
        exact other j a e1
      · rw [List.getElem?_set_ne hk] at e2
        rw [List.getElem?_set_ne hj, List.getElem?_set_ne hk]
        exact r.sep j k a b n e1 e2
/-- an expression, then a statement's end -/
theorem go_gos {k : D → MS} {D' : Ends} {Q1 : VK} (h : GoS K c (bnd m k S) F D')
    (i : ∀ F1 S1 x v H1, Same F F1 → Rel K c F1 S1 σ H1 → Dp K F1 v x → GoS K c (k x S1) F1 D' → Q1 v H1) : Go K c (m S) F σ Q1 := by
  obtain ⟨o, S', e, q⟩ := h
  obtain ⟨x, S1, e1, e2⟩ := bnd_some e
  exact ⟨x, S1, e1, fun F1 H1 v s1 r1 d1 => i F1 S1 x v H1 s1 r1 d1 ⟨o, S', e2, fun F' H' σ' s2 r2 => q F' H' σ' (s1.trans s2) r2⟩⟩
theorem got_gos {k : Bool → MS} {D' : Ends} {Q1 : Bool → Hp → Prop} (h : GoS K c (bnd t k S) F D')
    (i : ∀ F1 S1 x H1, Same F F1 → Rel K c F1 S1 σ H1 → GoS K c (k x S1) F1 D' → Q1 x H1) : GoT K c (t S) F σ Q1 := by
  obtain ⟨o, S', e, q⟩ := h
  obtain ⟨x, S1, e1, e2⟩ := bnd_some e
  exact ⟨x, S1, e1, fun F1 H1 s1 r1 => i F1 S1 x H1 s1 r1 ⟨o, S', e2, fun F' H' σ' s2 r2 => q F' H' σ' (s1.trans s2) r2⟩⟩
theorem gos_ret {o : Out} {D' : Ends} (h : GoS K c (ret o S) F D') (r : Rel K c F S σ H) : EndAt K F D' o σ H := by
  obtain ⟨o', S', e, q⟩ := h
  cases e
  exact q F H σ (Same.refl F) r
theorem dss_nil : DSs X c [] (ret .nx) := pss_imp pss_nil fun D' σ H ⟨F, S, r, g⟩ => gos_ret g r
theorem dss_cons (h1 : DS X c st a) (h2 : DSs X c rest b) : DSs X c (st :: rest) (seqS a b) :=
  pss_imp (pss_cons h1 h2) fun D' σ H ⟨F, S, r, o, S', e, q⟩ => by
    obtain ⟨x, S1, e1, e2⟩ := bnd_some e
    refine ⟨F, S, r, x, S1, e1, fun F1 H1 σ1 s1 r1 => ?_⟩
    cases x with
    | nx => exact ⟨F1, S1, r1, o, S', e2, fun F' H' σ' s2 r2 => q F' H' σ' (s1.trans s2) r2⟩
    | bk =>
      cases e2
      exact q F1 H1 σ1 s1 r1
    | ct =>
      cases e2
      exact q F1 H1 σ1 s1 r1
    | rt d =>
      cases e2
      exact q F1 H1 σ1 s1 r1
theorem dss_one (h1 : DS X c st a) : DSs X c [st] a := pss_one h1
theorem ds_ret (h : DE X c e m) : DS X c (.Return (some e) pos) (retS m) :=
  ps_imp (ps_ret h) fun D' σ H ⟨F, S, r, g⟩ => ⟨F, S, r, go_gos g fun F1 S1 x v H1 s1 r1 d1 g1 => gos_ret g1 r1 v d1⟩
theorem ds_retN : DS X c (.Return none pos) (ret (.rt .none)) :=
  ps_imp ps_retN fun D' σ H ⟨F, S, r, g⟩ => gos_ret g r .non .non
theorem ds_pass : DS X c (.Pass pos) (ret .nx) := ps_imp ps_pass fun D' σ H ⟨F, S, r, g⟩ => gos_ret g r
theorem ds_break : DS X c (.Break pos) (ret .bk) := ps_imp ps_break fun D' σ H ⟨F, S, r, g⟩ => gos_ret g r
theorem ds_continue : DS X c (.Continue pos) (ret .ct) := ps_imp ps_continue fun D' σ H ⟨F, S, r, g⟩ => gos_ret g r
theorem ds_expr (h : DE X c e m) (hs : swapsWith e none pos.line X.env = pure false := by rfl) : DS X c (.Expr e pos) (dropS m) :=
  ps_imp (ps_expr h hs) fun D' σ H ⟨F, S, r, g⟩ => ⟨F, S, r, go_gos g fun F1 S1 x v H1 s1 r1 d1 g1 => gos_ret g1 r1⟩
theorem ds_if {x y : List Stmt} {q : Expr} (hq : DT X c q t) (ha : DSs X c x a) (hb : DSs X c y b) : DS X c (.If q x y pos) (ifS t a b) :=
  ps_imp (ps_if hq ha hb) fun D' σ H ⟨F, S, r, g⟩ => ⟨F, S, r, got_gos g fun F1 S1 k H1 s1 r1 g1 => by
    cases k with
    | true => exact ⟨F1, S1, r1, g1⟩
    | false => exact ⟨F1, S1, r1, g1⟩⟩
/-- name = e, data -/
theorem ds_asg {x : Str} {pos' : Pos} (i : Nat) (h : DE X c e m) (hN : X.N.Nodup) (hi : X.N[i]? = some x := by rfl) (hx : Loc X.env.scope x := by first | exact Or.inl rfl | exact Or.inr rfl) (hs : swapsWith e (some (.Name x pos')) pos.line X.env = pure false := by rfl)
    (hf : X.fn x = true ∨ X.env.scope.names.lookup x = some .local := by first | exact .inl rfl | exact .inr rfl) : DS X c (.Assign [.Name x pos'] e pos) (asgS i m) :=
  ps_imp (ps_set hN hi hx h hs hf) fun D' σ H ⟨F, S, r, g⟩ => ⟨F, S, r, go_gos g fun F1 S1 y v H1 s1 r1 d1 ⟨o, S', e2, q⟩ => by
    cases e2
    exact q F1 H1 (σ.set i (some v)) (Same.refl F1) (r1.set_fz d1)⟩
/-- name = a new list -/
theorem t_new {i : Nat} {D' : Ends} {Q : VK} (h : GoS K c (asgN i m S) F D') (k : ∀ v H1, D'.nx (σ.set i (some v)) H1 → Q v H1) : GoN K c (m S) F σ Q := by
  obtain ⟨o, S', e, q⟩ := h
  obtain ⟨x, S1, e1, e2⟩ := bnd_some e
  cases x with
  | list ys =>
    cases e2
    refine ⟨ys, S1, e1, fun F' H' l ws s r' g1 g2 g3 g4 g5 => k _ _ ?_⟩
    exact q F' H' (σ.set i (some (.ref l))) s (r'.adopt g4 g1 g2 g3 g5)
  | none => cases e2
  | bool _ => cases e2
  | int _ => cases e2
  | str _ => cases e2
  | tuple _ => cases e2
  | dict _ => cases e2
def DN (X : Cx) (c : Fr) (e : Expr) (m : MV D) : Prop := PE X e (tN X.K c m)
theorem ds_new {x : Str} {pos' : Pos} (i : Nat) (h : DN X c e m) (hN : X.N.Nodup) (hi : X.N[i]? = some x := by rfl) (hx : Loc X.env.scope x := by first | exact Or.inl rfl | exact Or.inr rfl) (hs : swapsWith e (some (.Name x pos')) pos.line X.env = pure false := by rfl)
    (hf : X.fn x = true ∨ X.env.scope.names.lookup x = some .local := by first | exact .inl rfl | exact .inr rfl) : DS X c (.Assign [.Name x pos'] e pos) (asgN i m) :=
  ps_imp (ps_set hN hi hx h hs hf) fun D' σ H ⟨F, S, r, g⟩ => ⟨F, S, r, t_new g fun v H1 q => q⟩
/-- name = [.. for ..] where the name is a plain local one -/
theorem ds_setComp {elt tg iter : Expr} {ifs : List Expr} {scope : Scope} {own : List (Str × Nat)} {spos py : Pos} {y : Str} {i : MV (List D)} {p : Pat} (j : Nat) (hc : X.calm = true) (hN : X.N.Nodup) (hsw : swapsWith (.ListComp elt [⟨tg, iter, ifs, 0⟩] scope pos) (some (.Name y py)) spos.line X.env = pure true)
    (hi : DI X c tg iter i) (ok : BlkOk X.N X.env.scope scope own) (hvs : ∀ j ∈ p.vars, j ∈ own.map (·.2))
    (hg : ∀ (s : Shared) (H : Hp) (C : Addr) (cl : List (Str × Addr)) (fp : List Addr), DG (X.blk s H scope (compEnvC scope cl C X.env) fp) tg p) (ht : ∀ (s : Shared) (H : Hp) (C : Addr) (cl : List (Str × Addr)) (fp : List Addr), DTs (X.blk s H scope (compEnvC scope cl C X.env) fp) ifs t)
    (he : ∀ (s : Shared) (H : Hp) (C : Addr) (cl : List (Str × Addr)) (fp : List Addr) (c' : Fr), DE (X.blk s H scope (compEnvC scope cl C X.env) fp) c' elt m) (hy : X.N[j]? = some y := by rfl) (hyl : X.env.scope.names.lookup y = some .local := by rfl) (hs : ∀ x, foldedSetIterable iter X.env x = pure x := by intro _; rfl) :
    DS X c (.Assign [.Name y py] (.ListComp elt [⟨tg, iter, ifs, 0⟩] scope pos) spos) (asgN j (compD (own.map (·.2)) i p t m)) :=
  ps_imp (ps_setLc (g := gP X.K p) (tt := tTx X.K t) (te := tDx X.K m) hc hN hy hyl hsw hi ok hg ht (fun s H C cl fp => pe_ex (he s H C cl fp)) hs) fun D' σ H ⟨F, S, r, g⟩ => by
    have z : tN X.K c (compD (own.map (·.2)) i p t m) σ H (fun x H1 => gName j x σ H1 D'.nx) := ⟨F, S, r, t_new g fun v H1 q => q⟩
    exact t_comp hvs z
theorem dn_comp {elt tg iter : Expr} {ifs : List Expr} {scope : Scope} {own : List (Str × Nat)} {i : MV (List D)} {p : Pat} (hc : X.calm = true) (hN : X.N.Nodup) (hi : DI X c tg iter i) (ok : BlkOk X.N X.env.scope scope own) (hvs : ∀ j ∈ p.vars, j ∈ own.map (·.2))
    (hg : ∀ (s : Shared) (H : Hp) (C : Addr) (cl : List (Str × Addr)) (fp : List Addr), DG (X.blk s H scope (compEnvC scope cl C X.env) fp) tg p) (ht : ∀ (s : Shared) (H : Hp) (C : Addr) (cl : List (Str × Addr)) (fp : List Addr), DTs (X.blk s H scope (compEnvC scope cl C X.env) fp) ifs t)
    (he : ∀ (s : Shared) (H : Hp) (C : Addr) (cl : List (Str × Addr)) (fp : List Addr) (c' : Fr), DE (X.blk s H scope (compEnvC scope cl C X.env) fp) c' elt m) (hs : ∀ x, foldedSetIterable iter X.env x = pure x := by intro _; rfl) :
    DN X c (.ListComp elt [⟨tg, iter, ifs, 0⟩] scope pos) (compD (own.map (·.2)) i p t m) := pe_comp hc hN hi ok hvs hg ht he hs
/-- a display as a new list -/
theorem dn_lst {es : List Expr} {n : MV (List D)} (h : DL X c es n) : DN X c (.List es pos) (lstD n) :=
  pe_imp (pe_lst h) fun σ H Q ⟨F, S, r, ys, S', e, q⟩ => by
    obtain ⟨xs, S1, e1, e2⟩ := bnd_some e
    refine ⟨F, S, r, xs, S1, e1, fun F1 H1 vs s1 r1 d1 => ?_⟩
    by_cases z : xs.length ≤ sizeLine
    · rw [if_pos z] at e2
      cases e2
      refine ⟨by rw [d1.len]; exact z, fun p hp => ?_⟩
      obtain ⟨g1, g2, g3, g4⟩ := r1.fresh0 hp
      exact q F1 _ p vs s1 (r1.junk hp) g2 g1 g4 upd_same d1
    · rw [if_neg z] at e2
      cases e2
/-- list(xs), a new list -/
theorem dn_list {p : Pos} {n : MV (List D)} (hg : Gl X "list") (hm : X.mg "list" = none) (hv : bootBuiltins "list" = some (.type "list")) (ha : DL X c [e] n) (he : starEach [e] X.env = (false, eval e X.env) :: starEach [] X.env := by rfl) (hpl : (backTo pos (starEach [] X.env)).any (·.1) = false := by rfl) :
    DN X c (.Call (.Name "list" p) [e] [] pos) (callN listD n) :=
  pe_imp (pe_callTy call_list_of hg hm hv ha (by decide) (by decide) he hpl) fun σ H Q ⟨F, S, r, ys, S', e, q⟩ => by
    obtain ⟨xs, S1, e1, e2⟩ := bnd_some e
    obtain ⟨e3, e4⟩ := opt_some e2
    subst e4
    refine ⟨F, S, r, xs, _, e1, fun F1 H1 vs s1 r1 d1 => ?_⟩
    match xs, e3 with
    | [.list xs], e3 =>
      obtain ⟨v, rfl, hv⟩ := DpAll.one d1
      cases e3
      cases hv with
      | @lst p ws _ h1 h2 =>
        refine ⟨p, ws, rfl, .inl (sqL_up r1.fh h1), fun l hl => ?_⟩
        obtain ⟨g1, g2, g3, g4⟩ := r1.fresh0 hl
        exact q F1 _ l ws s1 (r1.junk hl) g2 g1 g4 upd_same h2
    | [.tuple xs], e3 =>
      obtain ⟨v, rfl, hv⟩ := DpAll.one d1
      cases e3
      cases hv with
      | @tup p ws _ h1 h2 =>
        refine ⟨p, ws, rfl, .inr (sqT_up r1.fh h1), fun l hl => ?_⟩
        obtain ⟨g1, g2, g3, g4⟩ := r1.fresh0 hl
        exact q F1 _ l ws s1 (r1.junk hl) g2 g1 g4 upd_same h2
/-- name.append(e), the name's list one's own -/
def appS (i : Nat) (m : MV D) : MS := fun S0 => match S0.env[i]? with
  | some (.own _) => bnd m (fun d => fun S => match S.env[i]? with
    | some (.own ds) => if ds.length < sizeLine then some (.nx, { S with env := S.env.set i (.own (ds ++ [d])) }) else none
    | _ => none) S0
  | _ => none
theorem tyV_list {p : Addr} {vs : List V} (h : H p = some (.lst vs)) : tyV K "list" (.ref p) H := .inl ⟨rfl, _, .inl (.inl h)⟩
theorem ds_append {cl : Expr} {i : Nat} (h : PE X cl (tBM X.K "list" rAppend (tVar i) (tCons (tD X.K c m) tNil))) (hs : swapsWith cl none pos.line X.env = pure false := by rfl) : DS X c (.Expr cl pos) (appS i m) :=
  ps_imp (ps_expr h hs) fun D' σ H ⟨F, S, r, o, S', e, q⟩ => by
    unfold appS at e
    split at e
    · rename_i ds0 e0
      obtain ⟨x, S1, e1, e2⟩ := bnd_some e
      split at e2
      · rename_i ds ez
        by_cases z : ds.length < sizeLine
        · rw [if_pos z] at e2
          cases e2
          obtain ⟨p0, us, k1, k2, _⟩ := r.own_at e0
          refine ⟨.ref p0, k1, tyV_list k2, F, S, r, x, S1, e1, fun F1 H1 v s1 r1 d1 => ?_⟩
          obtain ⟨p, vs, g1, g2, g3, _⟩ := r1.own_at ez
          have ep : p0 = p := by
            rw [k1] at g1
            exact V.ref.inj (Option.some.inj (Option.some.inj g1))
          subst ep
          refine ⟨p0, vs, v, rfl, rfl, g2, by rw [g3.len]; exact z, ?_⟩
          exact q F1 _ σ s1 (r1.put_own ez g1 (g3.append (.cons d1 .nil)))
        · rw [if_neg z] at e2
          cases e2
      · cases e2
    · cases e
/-- while -/
theorem ds_while {q : Expr} {body : List Stmt} (hp : PassesOwn (model X.prog X.w) X.A X.env X.xe) (hq : DT X c q t) (hb : DSs X c body b) : DS X c (.While q body [] pos) (whileS t b) :=
  ps_imp (ps_while hp hq hb) fun D' σ H ⟨F, S, r, o, S', e, q⟩ => by
    obtain ⟨n, hn⟩ := whileS_some e
    refine ⟨fun k σ1 H1 => ∃ F1 S1, Same F F1 ∧ Rel X.K c F1 S1 σ1 H1 ∧ whileF t b k S1 = some (o, S'), ⟨n, F, S, Same.refl F, r, hn⟩, ?_⟩
    rintro k σ1 H1 ⟨F1, S1, s1, r1, h1⟩
    cases k with
    | zero => cases h1
    | succ k =>
      unfold whileF at h1
      obtain ⟨x, S2, e1, e2⟩ := bnd_some h1
      refine ⟨F1, S1, r1, x, S2, e1, fun F2 H2 s2 r2 => ?_⟩
      cases x with
      | false =>
        rw [if_neg Bool.false_ne_true]
        cases e2
        exact q F2 H2 σ1 (s1.trans s2) r2
      | true =>
        rw [if_pos rfl]
        rw [if_pos rfl] at e2
        obtain ⟨o2, S3, e3, e4⟩ := bnd_some e2
        refine ⟨fun σ' H' => ∃ F3 S4, Same F F3 ∧ Rel X.K c F3 S4 σ' H' ∧ whileF t b k S4 = some (o, S'), fun σ' H' h => ⟨k, Nat.lt_succ_self k, h⟩, F2, S2, r2, o2, S3, e3, fun F3 H3 σ3 s3 r3 => ?_⟩
        have up := (s1.trans s2).trans s3
        cases o2 with
        | nx => exact ⟨F3, S3, up, r3, e4⟩
        | ct => exact ⟨F3, S3, up, r3, e4⟩
        | bk =>
          cases e4
          exact q F3 H3 σ3 up r3
        | rt d =>
          cases e4
          exact q F3 H3 σ3 up r3
/-- for -/
theorem ds_for {tg iter : Expr} {body : List Stmt} {i : MV (List D)} {p : Pat} (hp : PassesOwn (model X.prog X.w) X.A X.env X.xe) (hc : X.calm = true) (hi : DI X c tg iter i) (hg : DG X tg p) (hb : DSs X c body b)
    (hs : ∀ x, foldedSetIterable iter X.env x = pure x := by intro _; rfl) : DS X c (.For tg iter body [] pos) (forS i p b) :=
  ps_imp (ps_for hp hc hi hg hb hs) fun D' σ H ⟨F, S, r, o, S', e, q⟩ => by
    obtain ⟨ds, S1, e1, e2⟩ := bnd_some e
    refine ⟨F, S, r, ds, S1, e1, fun F1 H1 J G Y s1 r1 W hG hY => ?_⟩
    refine for_it W (fun k σk Hk => ∃ F2 S2, Same F1 F2 ∧ Rel X.K c F2 S2 σk Hk ∧ forM p b (ds.drop k) S2 = some (o, S')) ?_ ?_ ?_ ?_
    · exact ⟨F1, S1, Same.refl F1, r1, by simpa using e2⟩
    · rintro k σk Hk _ ⟨F2, S2, g1, g2, _⟩
      exact hG F2 Hk g1 g2.fh
    · rintro k x σk Hk Hk' hk ⟨F2, S2, g1, g2, g3⟩ y
      obtain ⟨F3, d, s3, r3, ed, hd⟩ := hY k _ F2 S2 σk Hk x Hk' g1 g2 y
      have hk' : k < ds.length := hk
      have edrop : ds.drop k = d :: ds.drop (k + 1) := by
        rw [List.drop_eq_getElem_cons hk']
        rw [List.getElem?_eq_getElem hk'] at ed
        rw [Option.some.inj ed]
      rw [edrop] at g3
      unfold forM at g3
      cases eb : p.bind d S2.env with
      | none =>
        rw [eb] at g3
        cases g3
      | some env1 =>
        rw [eb] at g3
        refine gP_run p r3 hd eb fun σ4 r4 o4 => ?_
        obtain ⟨o2, S5, e5, e6⟩ := bnd_some g3
        refine ⟨F3, _, r4, o2, S5, e5, fun F5 H5 σ5 s5 r5 => ?_⟩
        have up := (g1.trans s3).trans s5
        cases o2 with
        | nx => exact ⟨F5, S5, up, r5, e6⟩
        | ct => exact ⟨F5, S5, up, r5, e6⟩
        | bk =>
          cases e6
          exact q F5 H5 σ5 (s1.trans up) r5
        | rt d' =>
          cases e6
          exact q F5 H5 σ5 (s1.trans up) r5
    · rintro σk Hk ⟨F2, S2, g1, g2, g3⟩
      rw [List.drop_length] at g3
      unfold forM at g3
      cases g3
      exact q F2 Hk σk (s1.trans g1) g2
/-- names = a tuple -/
theorem ds_unp {tg : Expr} {p : Pat} (h : DE X c e m) (hg : DG X tg p) (hs : swapsWithSole [tg] e pos.line X.env = pure false := by rfl) (hw : swappedStores [tg] e X.env = pure none := by rfl)
    (h1 : (assignEach [tg] X.env).map (·.2) = [assign tg X.env] := by rfl) : DS X c (.Assign [tg] e pos) (unpS p m) :=
  ps_imp (ps_asg h hg hs hw h1) fun D' σ H ⟨F, S, r, g⟩ => ⟨F, S, r, go_gos g fun F1 S1 x v H1 s1 r1 d1 ⟨o, S', e2, q⟩ => by
    unfold bindS at e2
    cases eb : p.bind x S1.env with
    | none =>
      rw [eb] at e2
      cases e2
    | some env =>
      rw [eb] at e2
      cases e2
      exact gP_run p r1 d1 eb fun σ' r' o' => q F1 H1 σ' (Same.refl F1) r'⟩
/-- x, y = e1, e2, both local -/
def par2 (i j : Nat) (n : MV (List D)) : MS := bnd n fun xs => match xs with
  | [x, y] => fun S => some (.nx, { S with env := (S.env.set i (.fz x)).set j (.fz y) })
  | _ => fun _ => none
theorem ds_par {i j : Nat} {x y : Str} {e1 e2 : Expr} {n : MV (List D)} {px py pt : Pos} {kt k2 pt2} (hc : X.calm = true) (hN : X.N.Nodup) (ha : DL X c [e1, e2] n) (hw : swappedStores [.Tuple [.Name x px, .Name y py] kt pt] (.Tuple [e1, e2] k2 pt2) X.env = pure (some [x, y])) (hij : i ≠ j) (hi : X.N[i]? = some x := by rfl) (hj : X.N[j]? = some y := by rfl)
    (hx : X.env.scope.names.lookup x = some .local := by rfl) (hy : X.env.scope.names.lookup y = some .local := by rfl) (hs : swapsWithSole [.Tuple [.Name x px, .Name y py] kt pt] (.Tuple [e1, e2] k2 pt2) pos.line X.env = pure false := by rfl) :
    DS X c (.Assign [.Tuple [.Name x px, .Name y py] kt pt] (.Tuple [e1, e2] k2 pt2) pos) (par2 i j n) :=
  ps_imp (ps_par hc hN hi hj hij hx hy ha hw hs) fun D' σ H ⟨F, S, r, o, S', e, q⟩ => by
    obtain ⟨xs, S1, e1, e2⟩ := bnd_some e
    refine ⟨F, S, r, xs, S1, e1, fun F1 H1 vs s1 r1 d1 => ?_⟩
    split at e2
    · cases e2
      obtain ⟨v, w, rfl, hv, hw'⟩ := DpAll.two d1
      exact ⟨v, w, rfl, q F1 H1 _ s1 ((r1.set_fz hv).set_fz hw')⟩
    · cases e2
/-! ### a def -/
def slotOf : Arg → Slot
  | .d x => .fz x
  | .src => .src
def defM (n : Nat) (b : MS) : DF := fun as s => match b ⟨as.map slotOf ++ List.replicate (n - as.length) .un, s⟩ with
  | some (.rt d, S') => some (d, S'.src)
  | some (.nx, S') => some (.none, S'.src)
  | _ => none
theorem args_slots {ps : Addr} : ∀ {vs : List V} {as : List Arg}, ArgsOk K ps F vs as → ∀ (i : Nat) (x : Slot), (as.map slotOf)[i]? = some x → ∃ v, vs[i]? = some v ∧ ((∃ d, x = .fz d ∧ Dp K F v d) ∨ (x = .src ∧ v = .ref ps))
  | _, _, .nil, i, x, e => by simp at e
  | v :: vs, a :: as, .cons h t, 0, x, e => by
    refine ⟨v, rfl, ?_⟩
    cases a with
    | d y =>
      cases e
      exact .inl ⟨y, rfl, h⟩
    | src =>
      cases e
      exact .inr ⟨rfl, h⟩
  | v :: vs, a :: as, .cons h t, i + 1, x, e => args_slots t i x (by simpa using e)
theorem t_def {N : List Str} {ps : List Str} {vs : List V} {Q : VK} {E : XK} {b : MS} (hN : ps.length ≤ N.length) (h : spD ps.length (defM N.length b) K vs H Q E) : ∃ c, tS K c b { nx := fun _ H' => Q .non H', rt := Q } (L2.start N vs) H := by
  obtain ⟨sp, pc, F, as, s, d, s', h1, h2, h3, h4, h5, h6, h7, q⟩ := h
  unfold defM at h7
  have hv : vs.length = as.length := h3.len
  refine ⟨⟨H, F, sp, pc⟩, F, ⟨as.map slotOf ++ List.replicate (N.length - as.length) .un, s⟩, ⟨Same.refl F, h2, fun a o e => .inl e, fun a o e _ _ => e, ?_, ?_, h4, h5, h6, ?_, fun i x e => ?_, fun i j a b n e1 e2 => ?_⟩, ?_⟩
  · show H sp ≠ none
    rw [h4.d]
    exact fun z => nomatch z
  · show H pc ≠ none
    rw [h4.l]
    exact fun z => nomatch z
  · unfold L2.start
    simp [hv]
  · by_cases hi : i < as.length
    · rw [List.getElem?_append_left (by simpa using hi)] at e
      obtain ⟨v, g1, g2⟩ := args_slots h3 i x e
      unfold L2.start
      have hi' : i < (vs.map some).length := by simp [hv, hi]
      rw [List.getElem?_append_left hi', List.getElem?_map, g1]
      rcases g2 with ⟨d, rfl, g2⟩ | ⟨rfl, g2⟩
      · exact g2
      · exact g2
    · rw [List.getElem?_append_right (by simpa using Nat.le_of_not_lt hi), List.getElem?_replicate] at e
      split at e
      · cases e
        trivial
      · cases e
  · exfalso
    have none_own : ∀ (i : Nat) (a : List D), (as.map slotOf ++ List.replicate (N.length - as.length) Slot.un)[i]? ≠ some (.own a) := fun i a e => by
      by_cases hi : i < as.length
      · rw [List.getElem?_append_left (by simpa using hi), List.getElem?_map] at e
        cases z : as[i]? with
        | none =>
          rw [z] at e
          cases e
        | some y =>
          rw [z] at e
          cases y <;> cases e
      · rw [List.getElem?_append_right (by simpa using Nat.le_of_not_lt hi), List.getElem?_replicate] at e
        split at e <;> cases e
    exact none_own i a e1
  · cases z : b ⟨as.map slotOf ++ List.replicate (N.length - as.length) .un, s⟩ with
    | none =>
      rw [z] at h7
      cases h7
    | some r =>
      obtain ⟨o, S'⟩ := r
      rw [z] at h7
      refine ⟨o, S', rfl, fun F' H' σ' g1 g2 => ?_⟩
      cases o with
      | nx =>
        cases h7
        exact q F' H' .non g1 g2.fh g2.fr g2.kp g2.sr .non
      | rt d' =>
        cases h7
        exact fun v hd => q F' H' v g1 g2.fh g2.fr g2.kp g2.sr hd
      | bk => cases h7
      | ct => cases h7
end
section
variable {P : Program} {w : World} {K : PySem.W.Frag} {mg : Str → Option Value} {base : Heap} {x qual : Str} {params : Arguments} {body : List Stmt} {scope : Scope} {dvs : List V} {kws : List (Str × V)} {f : Addr} {fd : FuncData}
/-- THE RULE for a def: its body as a function of its slots -/
theorem def_ok {N ps : List Str} {k : Nat} {b : MS} (F : FunD K x qual params body scope dvs kws f fd) (S : FnScope N ps scope) (hN : ps.length ≤ N.length)
    (h : ∀ (X : Cx) (c : Fr) (cdv : Value) (A : Around) (outer : List Env) (s : Shared) (H : Hp) (E : XK), X = (cxOf CX0 P w K mg base N qual scope f cdv A outer s H E).nox → Room k X.A → DSs X c body b) : FnOk P w K mg base CX0 (k + 1) f fd ps (spD ps.length (defM N.length b) K) := by
  refine F.ok S (fun vs H Q E q => spD_len q) fun cdv A outer s H vs Q E hr q => ?_
  obtain ⟨c, z⟩ := t_def hN q
  exact ⟨tS K c b, PSs.nox (h _ c cdv A outer s H E rfl hr), z⟩
end
end DL

-- part DL7
set_option Elab.async false
set_option linter.all false
set_option maxRecDepth 100000
set_option maxHeartbeats 1000000
/-! DL7: calls of defs by name, more built-ins, lists read while one's own. -/
namespace DL
open PySem PySem.Spec PyProof.Rows L2 RZ
section
variable {P : Program} {w : World} {K : PySem.W.Frag} {mg : Str → Option Value} {base : Heap} {x qual : Str} {params : Arguments} {body : List Stmt} {scope : Scope} {f : Addr} {fd : FuncData}
abbrev XX (P : Program) (w : World) (K : PySem.W.Frag) (mg : Str → Option Value) (base : Heap) (N : List Str) (qual : Str) (scope : Scope) (f : Addr) (cdv : Value) (A : Around) (outer : List Env) (s : Shared) (H : Hp) (E : XK) : Cx :=
  (cxOf CX0 P w K mg base N qual scope f cdv A outer s H E).nox
/-- the def named x, n arguments, does m; it needs the room k -/
structure Cal (P : Program) (w : World) (K : PySem.W.Frag) (mg : Str → Option Value) (base : Heap) (x : Str) (n k : Nat) (m : DF) : Prop where
  ex : ∃ (f : Addr) (fd : FuncData) (ps : List Str), FnOk P w K mg base CX0 k f fd ps (spD n m K) ∧ mg x = some (.ref f) ∧ PySem.W.keepIn K (.ref f) = true ∧ Binds K fd ps []
theorem Cal.as {n k : Nat} {m m' : DF} (h : Cal P w K mg base x n k m) (e : m = m') : Cal P w K mg base x n k m' := e ▸ h
theorem def_in {N ps : List Str} {k : Nat} {b : MS} {x' : Str} (F : FunD K x' qual params body scope [] [] f fd) (S : FnScope N ps scope) (hN : ps.length ≤ N.length) (hm : mg x = some (.ref f))
    (hb : ∀ (kV doc pm : Value) (an : Option Addr) (cdv ct : Value) (us : List Value), us.length = ps.length → bindArgs (PySem.W.fnOf x' qual params body scope .none kV doc pm an cdv ct) ⟨us, []⟩ = pure (ps.zip us))
    (h : ∀ (c : Fr) (cdv : Value) (A : Around) (outer : List Env) (s : Shared) (H : Hp) (E : XK), Room k (XX P w K mg base N qual scope f cdv A outer s H E).A → DSs (XX P w K mg base N qual scope f cdv A outer s H E) c body b) :
    Cal P w K mg base x ps.length (k + 1) (defM N.length b) :=
  ⟨⟨f, fd, ps, def_ok F S hN (fun X c cdv A outer s H E e r => by subst e; exact h c cdv A outer s H E r), hm, F.kp, F.bindsN hb⟩⟩
end
section
variable {X : Cx} {c : Fr} {e : Expr} {es : List Expr} {m : MV D} {pos : Pos} {l : MV (List Arg)}
theorem de_c {n k j : Nat} {f : DF} {x : Str} {p : Pos} (C : Cal X.prog X.w X.K X.mg X.base x n k f) (hr : Room j X.A) (hk : k ≤ j) (hg : Gl X x)
    (ha : DA X c (e :: es) l) (hn : ∀ S as S', l S = some (as, S') → as.length = n) (hdb : (x == ("__debug__" : Str)) = false := by decide) (he : starEach (e :: es) X.env = (false, eval e X.env) :: starEach es X.env := by rfl) (hpl : (backTo pos (starEach es X.env)).any (·.1) = false := by rfl) :
    DE X c (.Call (.Name x p) (e :: es) [] pos) (callD f l) := by
  obtain ⟨ff, fd, ps, G, hm, hkp, hb⟩ := C.ex
  exact de_call (E := E0) G (hr.mono hk) hg hm hkp hb ha hn hdb he hpl
end

/-! ### tuples of ints walked -/
section
variable {prog : Program} {w : World} {A : Around} {E : Value → Shared → Prop} {s : Shared} {t : Addr}
theorem iter_tup {items : Array Value} {Q : Value → Shared → Prop} (ht : s.heap.IsTuple t items)
    (h : ∀ s2 : Shared, s2 = { s with heap := s.heap.push { cls := .type "tuple_iterator", data := .fields #[.ref t, .int 0 0] } } → (s2.heap.IsTupleIter s.heap.objs.size t 0 ∧ s2.heap.IsTuple t items) → (∀ b ∈ [s.heap.objs.size, t], b < s2.heap.objs.size) → t ≠ s.heap.objs.size → Q (.ref s.heap.objs.size) s2) :
    wpAny (model prog w) A (pyIter (.ref t)) Q E s := by
  have hlt : t < s.heap.objs.size := by
    obtain ⟨_, e, _⟩ := ht
    exact Heap.lt_size e
  refine wpAny_pyIter_tuple ht (h _ rfl ⟨⟨_, Heap.get?_push_size _ rfl, rfl, rfl⟩, ?_⟩ (fun b hb => ?_) (Nat.ne_of_lt hlt))
  · obtain ⟨o, e, r⟩ := ht
    exact ⟨o, Heap.get?_push_of_some _ e, r⟩
  · show b < (s.heap.push _).objs.size
    rw [Heap.size_push]
    have hb' : b = s.heap.objs.size ∨ b = t := by simpa using hb
    rcases hb' with z | z
    · rw [z]
      exact Nat.lt_succ_self _
    · rw [z]
      exact Nat.lt_succ_of_lt hlt
theorem kept_of {o1 : Obj} {h' : Heap} (hk : ∀ b o, b ∉ [s.heap.objs.size] → (s.heap.push o1).get? b = some o → h'.get? b = some o) : ∀ b o, s.heap.get? b = some o → h'.get? b = some o := fun b o e =>
  hk b o (by
    have := Heap.lt_size e
    simp only [List.mem_singleton]
    exact Nat.ne_of_lt this) (Heap.get?_push_of_some _ e)
theorem max_tup {its : List Value} {ns : List Int} {Q : Value → Shared → Prop} (hh : A.handled = none) (hl : s.heap.IsTuple t its.toArray) (hi : IntsAre its ns) (hne : 0 < ns.length)
    (h : ∀ h' tk M t', (∀ b o, s.heap.get? b = some o → h'.get? b = some o) → M ∈ ns → (∀ a, a ∈ ns → a ≤ M) → Q (.int M t') { s with heap := h', toks := tk }) : wpAny (model prog w) A (call (.builtin "max") [.ref t]) Q E s := by
  obtain ⟨xs, e⟩ := hi.allInts.items
  have hn : numsOf (intItems xs).toList = ns := by rw [← e]; exact hi.numsOf
  rw [nums_intItems] at hn
  subst hn
  rw [e] at hl
  have hsz : 0 < xs.size := by simpa using hne
  refine call_max_walk (iter_tup hl fun s2 e2 st hfp hne2 => ?_)
  subst e2
  refine ⟨_, _, _, _, _, _, _, rfl, Walks.tuple (A := A.in1) hh _ t hne2 (intItems xs), st, hfp, by simpa [intItems] using hne, CmpOf.ints_gt (numAt xs) (fun _ _ => intItems_at), fun v h' tk hP hk => ?_⟩
  have hv : (intItems xs)[argBest (fun i j => decide (numAt xs i > numAt xs j)) (xs.size - 1)]? = some v := by simpa [intItems] using hP
  obtain ⟨tt, rfl⟩ := intItems_at hv
  obtain ⟨h1, h2⟩ := argBest_gt (numAt xs) (xs.size - 1)
  refine h h' tk _ tt (kept_of hk) ?_ fun a ha => ?_
  · rw [numAt_eq]
    exact PySem.getD_mem (by rw [List.length_map, Array.length_toList]; omega)
  · obtain ⟨j, hj, rfl⟩ := mem_getD ha
    rw [List.length_map, Array.length_toList] at hj
    rw [← numAt_eq]
    exact h2 j (by omega)
theorem min_tup {its : List Value} {ns : List Int} {Q : Value → Shared → Prop} (hh : A.handled = none) (hl : s.heap.IsTuple t its.toArray) (hi : IntsAre its ns) (hne : 0 < ns.length)
    (h : ∀ h' tk M t', (∀ b o, s.heap.get? b = some o → h'.get? b = some o) → M ∈ ns → (∀ a, a ∈ ns → M ≤ a) → Q (.int M t') { s with heap := h', toks := tk }) : wpAny (model prog w) A (call (.builtin "min") [.ref t]) Q E s := by
  obtain ⟨xs, e⟩ := hi.allInts.items
  have hn : numsOf (intItems xs).toList = ns := by rw [← e]; exact hi.numsOf
  rw [nums_intItems] at hn
  subst hn
  rw [e] at hl
  have hsz : 0 < xs.size := by simpa using hne
  refine call_min_walk (iter_tup hl fun s2 e2 st hfp hne2 => ?_)
  subst e2
  refine ⟨_, _, _, _, _, _, _, rfl, Walks.tuple (A := A.in1) hh _ t hne2 (intItems xs), st, hfp, by simpa [intItems] using hne, CmpOf.ints_lt (numAt xs) (fun _ _ => intItems_at), fun v h' tk hP hk => ?_⟩
  have hv : (intItems xs)[argBest (fun i j => decide (numAt xs i < numAt xs j)) (xs.size - 1)]? = some v := by simpa [intItems] using hP
  obtain ⟨tt, rfl⟩ := intItems_at hv
  obtain ⟨h1, h2⟩ := argBest_lt (numAt xs) (xs.size - 1)
  refine h h' tk _ tt (kept_of hk) ?_ fun a ha => ?_
  · rw [numAt_eq]
    exact PySem.getD_mem (by rw [List.length_map, Array.length_toList]; omega)
  · obtain ⟨j, hj, rfl⟩ := mem_getD ha
    rw [List.length_map, Array.length_toList] at hj
    rw [← numAt_eq]
    exact h2 j (by omega)
theorem sum_tup {its : List Value} {ns : List Int} {Q : Value → Shared → Prop} (hh : A.handled = none) (hl : s.heap.IsTuple t its.toArray) (hi : IntsAre its ns)
    (h : ∀ h' tk t', (∀ b o, s.heap.get? b = some o → h'.get? b = some o) → Q (.int ns.sum t') { s with heap := h', toks := tk }) : wpAny (model prog w) A (call (.builtin "sum") [.ref t]) Q E s := by
  obtain ⟨xs, e⟩ := hi.allInts.items
  have hn : numsOf (intItems xs).toList = ns := by rw [← e]; exact hi.numsOf
  rw [nums_intItems] at hn
  rw [e] at hl
  refine call_sum_walkG (iter_tup hl fun s2 e2 st hfp hne2 => ?_)
  subst e2
  refine ⟨_, _, _, _, _, _, numAt xs, rfl, Walks.tuple (A := A.in1) hh _ t hne2 (intItems xs), st, hfp, (fun _ _ => intItems_at), fun h' tk t' hk => ?_⟩
  have := h h' tk t' (kept_of hk)
  have e3 : preSum (numAt xs) (intItems xs).size = ns.sum := by
    rw [preSum_eq, List.take_of_length_le (by simp [intItems]), hn]
  rw [e3]
  exact this
end
section
variable {X : Cx} {c : Fr} {e : Expr} {es : List Expr} {m : MV D} {n : MV (List D)} {pos : Pos}
def rTup (R : List Int → (Int → Prop) → Prop) (K : PySem.W.Frag) : List V → Hp → VK → Prop := fun vs H Q => ∃ (a : Addr) (ns : List Int), vs = [V.ref a] ∧ SqT K H a (ns.map V.int) ∧ R ns (fun i => Q (.int i) H)
theorem cr_maxT (hc : X.calm = true) : CallR X (.builtin "max") (rTup (fun ns Q => 0 < ns.length ∧ ∀ m, m ∈ ns → (∀ y, y ∈ ns → y ≤ m) → Q m) X.K) := by
  intro pins s σ H vs us Q I r h
  obtain ⟨a, ns, rfl, hs, hne, q⟩ := h
  obtain ⟨its, rv, hl, _⟩ := I.tuple hs
  rw [Vals.ref1 r]
  exact max_tup (I.ok.hd hc) hl rv.ints hne fun h' tk m t' hk h1 h2 => ⟨.int _, H, I.kept hk, ⟨_, rfl⟩, q m h1 h2⟩
theorem cr_minT (hc : X.calm = true) : CallR X (.builtin "min") (rTup (fun ns Q => 0 < ns.length ∧ ∀ m, m ∈ ns → (∀ y, y ∈ ns → m ≤ y) → Q m) X.K) := by
  intro pins s σ H vs us Q I r h
  obtain ⟨a, ns, rfl, hs, hne, q⟩ := h
  obtain ⟨its, rv, hl, _⟩ := I.tuple hs
  rw [Vals.ref1 r]
  exact min_tup (I.ok.hd hc) hl rv.ints hne fun h' tk m t' hk h1 h2 => ⟨.int _, H, I.kept hk, ⟨_, rfl⟩, q m h1 h2⟩
theorem cr_sumT (hc : X.calm = true) : CallR X (.builtin "sum") (rTup (fun ns Q => Q ns.sum) X.K) := by
  intro pins s σ H vs us Q I r h
  obtain ⟨a, ns, rfl, hs, q⟩ := h
  obtain ⟨its, rv, hl, _⟩ := I.tuple hs
  rw [Vals.ref1 r]
  exact sum_tup (I.ok.hd hc) hl rv.ints fun h' tk t' hk => ⟨.int _, H, I.kept hk, ⟨_, rfl⟩, q⟩
def maxI (ns : List Int) : Option D := ns.max?.map PyData.int
def minI (ns : List Int) : Option D := ns.min?.map PyData.int
theorem maxI_some {ns : List Int} {d : D} (h : maxI ns = some d) : 0 < ns.length ∧ ∃ m, d = .int m ∧ ∀ m', m' ∈ ns → (∀ y, y ∈ ns → y ≤ m') → m' = m := by
  unfold maxI at h
  cases z : ns.max? with
  | none =>
    rw [z] at h
    cases h
  | some m =>
    rw [z] at h
    cases h
    have hm := List.max?_eq_some_iff.mp z
    refine ⟨List.length_pos_of_mem hm.1, m, rfl, fun m' h1 h2 => ?_⟩
    have a := h2 m hm.1
    have b := hm.2 m' h1
    omega
theorem minI_some {ns : List Int} {d : D} (h : minI ns = some d) : 0 < ns.length ∧ ∃ m, d = .int m ∧ ∀ m', m' ∈ ns → (∀ y, y ∈ ns → m' ≤ y) → m' = m := by
  unfold minI at h
  cases z : ns.min? with
  | none =>
    rw [z] at h
    cases h
  | some m =>
    rw [z] at h
    cases h
    have hm := List.min?_eq_some_iff.mp z
    refine ⟨List.length_pos_of_mem hm.1, m, rfl, fun m' h1 h2 => ?_⟩
    have a := h2 m hm.1
    have b := hm.2 m' h1
    omega
def max1D : List D → Option D
  | [.list xs] => (intsOf xs).bind maxI
  | [.tuple xs] => (intsOf xs).bind maxI
  | _ => none
def min1D : List D → Option D
  | [.list xs] => (intsOf xs).bind minI
  | [.tuple xs] => (intsOf xs).bind minI
  | _ => none
def sumTD : List D → Option D
  | [.tuple xs] => (intsOf xs).map fun ns => .int ns.sum
  | _ => none
theorem ints_lst {K : PySem.W.Frag} {F : Hp} {vs : List V} {xs : List D} {d : D} {g : List Int → Option D} (ha : DpAll K F vs [.list xs]) (hf : (intsOf xs).bind g = some d) :
    ∃ p ns, vs = [.ref p] ∧ SqL K F p (ns.map V.int) ∧ g ns = some d := by
  obtain ⟨v, rfl, hv⟩ := DpAll.one ha
  cases z : intsOf xs with
  | none =>
    rw [z] at hf
    cases hf
  | some ns =>
    rw [z] at hf
    have zz := intsOf_some z
    subst zz
    cases hv with
    | @lst p ys _ h1 h2 =>
      have := DpAll.ints h2
      subst this
      exact ⟨p, ns, rfl, h1, hf⟩
theorem ints_tup {K : PySem.W.Frag} {F : Hp} {vs : List V} {xs : List D} {d : D} {g : List Int → Option D} (ha : DpAll K F vs [.tuple xs]) (hf : (intsOf xs).bind g = some d) :
    ∃ p ns, vs = [.ref p] ∧ SqT K F p (ns.map V.int) ∧ g ns = some d := by
  obtain ⟨v, rfl, hv⟩ := DpAll.one ha
  cases z : intsOf xs with
  | none =>
    rw [z] at hf
    cases hf
  | some ns =>
    rw [z] at hf
    have zz := intsOf_some z
    subst zz
    cases hv with
    | @tup p ys _ h1 h2 =>
      have := DpAll.ints h2
      subst this
      exact ⟨p, ns, rfl, h1, hf⟩
def max1L : List D → Option D
  | [.list xs] => (intsOf xs).bind maxI
  | _ => none
def max1T : List D → Option D
  | [.tuple xs] => (intsOf xs).bind maxI
  | _ => none
def min1L : List D → Option D
  | [.list xs] => (intsOf xs).bind minI
  | _ => none
def min1T : List D → Option D
  | [.tuple xs] => (intsOf xs).bind minI
  | _ => none
theorem callr_max1L (hc : X.calm = true) : CallR X (.builtin "max") (rnD X.K max1L) := callr_imp (cr_max hc) fun vs H Q ⟨F, xs, d, e, ha, hf, q⟩ => by
  match xs, hf with
  | [.list xs], hf =>
    obtain ⟨p, ns, rfl, h1, h2⟩ := ints_lst ha hf
    obtain ⟨h3, m, rfl, h4⟩ := maxI_some h2
    exact ⟨p, ns, rfl, sqL_up e h1, h3, fun m' a b => by rw [h4 m' a b]; exact q.1 _ (.int _)⟩
theorem callr_min1L (hc : X.calm = true) : CallR X (.builtin "min") (rnD X.K min1L) := callr_imp (cr_min hc) fun vs H Q ⟨F, xs, d, e, ha, hf, q⟩ => by
  match xs, hf with
  | [.list xs], hf =>
    obtain ⟨p, ns, rfl, h1, h2⟩ := ints_lst ha hf
    obtain ⟨h3, m, rfl, h4⟩ := minI_some h2
    exact ⟨p, ns, rfl, sqL_up e h1, h3, fun m' a b => by rw [h4 m' a b]; exact q.1 _ (.int _)⟩
theorem callr_max1T (hc : X.calm = true) : CallR X (.builtin "max") (rnD X.K max1T) := callr_imp (cr_maxT hc) fun vs H Q ⟨F, xs, d, e, ha, hf, q⟩ => by
  match xs, hf with
  | [.tuple xs], hf =>
    obtain ⟨p, ns, rfl, h1, h2⟩ := ints_tup ha hf
    obtain ⟨h3, m, rfl, h4⟩ := maxI_some h2
    exact ⟨p, ns, rfl, sqT_up e h1, h3, fun m' a b => by rw [h4 m' a b]; exact q.1 _ (.int _)⟩
theorem callr_min1T (hc : X.calm = true) : CallR X (.builtin "min") (rnD X.K min1T) := callr_imp (cr_minT hc) fun vs H Q ⟨F, xs, d, e, ha, hf, q⟩ => by
  match xs, hf with
  | [.tuple xs], hf =>
    obtain ⟨p, ns, rfl, h1, h2⟩ := ints_tup ha hf
    obtain ⟨h3, m, rfl, h4⟩ := minI_some h2
    exact ⟨p, ns, rfl, sqT_up e h1, h3, fun m' a b => by rw [h4 m' a b]; exact q.1 _ (.int _)⟩
theorem callr_sumT (hc : X.calm = true) : CallR X (.builtin "sum") (rnD X.K sumTD) := callr_imp (cr_sumT hc) fun vs H Q ⟨F, xs, d, e, ha, hf, q⟩ => by
  match xs, hf with
  | [.tuple xs], hf =>
    have hf' : (intsOf xs).bind (fun ns => some (PyData.int ns.sum)) = some d := by
      have z : (intsOf xs).map (fun ns => PyData.int ns.sum) = some d := hf
      rw [Option.map_eq_bind] at z
      exact z
    obtain ⟨p, ns, rfl, h1, h2⟩ := ints_tup ha hf'
    cases h2
    exact ⟨p, ns, rfl, sqT_up e h1, q.1 _ (.int _)⟩
theorem callr_max1 (hc : X.calm = true) : CallR X (.builtin "max") (rnD X.K (altN max1L max1T)) := callr_alt (callr_max1L hc) (callr_max1T hc)
theorem callr_min1 (hc : X.calm = true) : CallR X (.builtin "min") (rnD X.K (altN min1L min1T)) := callr_alt (callr_min1L hc) (callr_min1T hc)
theorem callr_sum1 (hc : X.calm = true) : CallR X (.builtin "sum") (rnD X.K (altN sumD sumTD)) := callr_alt (callr_sum hc) (callr_sumT hc)

/-! ### isinstance -/
def tyS : D → Option String
  | .none => some "NoneType"
  | .bool _ => some "bool"
  | .int _ => some "int"
  | .str _ => some "str"
  | .list _ => some "list"
  | .tuple _ => some "tuple"
  | _ => none
def isiD (T : String) (d : D) : Option D := (tyS d).bind fun t => (kitB t T).map PyData.bool
theorem dp_ty {K : PySem.W.Frag} {F H : Hp} {v : V} {d : D} {t : String} (s : Same F H) (h : Dp K F v d) (e : tyS d = some t) : TyX K H v (.type t) := by
  cases h with
  | non => cases e; exact .base .non
  | bl b => cases e; exact .base (.bl b)
  | int i => cases e; exact .base (.int i)
  | str x => cases e; exact .base (.str x)
  | lst h1 h2 =>
    cases e
    rcases sqL_up s h1 with (z | ⟨o, z⟩) | ⟨o, its, n, z, zc, _⟩
    · exact .base (.lst z)
    · exact .base (.frz z)
    · exact .kList z zc
  | tup h1 h2 =>
    cases e
    rcases sqT_up s h1 with (z | ⟨o, z⟩) | ⟨o, its, n, z, zc, _⟩
    · exact .base (.tup z)
    · exact .fTuple z
    · exact .kTuple z zc
theorem de_isi {T : String} {x y : Str} {p p2 : Pos} (h : DE X c e m) (hg : Gl X x) (hm : X.mg x = none) (hv : bootBuiltins x = some (.builtin "isinstance")) (hg2 : Gl X y) (hm2 : X.mg y = none) (hv2 : bootBuiltins y = some (.type T))
    (hn : x ≠ "__name__" := by decide) (hdb : (x == ("__debug__" : Str)) = false := by decide) (hn2 : y ≠ "__name__" := by decide) (hdb2 : (y == ("__debug__" : Str)) = false := by decide)
    (hs : starEach (e :: [.Name y p2]) X.env = (false, eval e X.env) :: starEach [.Name y p2] X.env := by rfl) (hpl : (backTo pos (starEach [.Name y p2] X.env)).any (·.1) = false := by rfl) :
    DE X c (.Call (.Name x p) [e, .Name y p2] [] pos) (op1 (isiD T) m) :=
  pe_imp (pe_callB call_isi hg hm hv (pa_cons h (pa_cons (pe_bltn (v := .ty T) hg2 hm2 hv2 rfl hn2 hdb2) pa_nil) hs) hn hdb hs hpl) fun σ H Q ⟨F, S, r, g⟩ => by
    obtain ⟨y, S1, e, q⟩ := g
    obtain ⟨x, S2, e1, e2⟩ := bnd_some e
    obtain ⟨e3, e4⟩ := opt_some e2
    subst e4
    refine ⟨F, S, r, x, _, e1, fun F' H' v s r' d' => ?_⟩
    unfold isiD at e3
    cases z : tyS x with
    | none =>
      rw [z] at e3
      cases e3
    | some t =>
      rw [z] at e3
      have e3' : (kitB t T).map PyData.bool = some y := e3
      cases z2 : kitB t T with
      | none =>
        rw [z2] at e3'
        cases e3'
      | some b =>
        rw [z2] at e3'
        cases e3'
        exact ⟨v, .ty T, .type t, .type T, b, rfl, .ty T, dp_ty r'.fh d' z, kit_ty z2, q F' H' (.bl b) s r' (.bl b)⟩

/-! ### list(range(..)), tuple(range(..)) -/
def RgB (a b : Int) : Prop := (-(2 ^ 62) ≤ a ∧ a < 2 ^ 62) ∧ (-(2 ^ 62) ≤ b ∧ b < 2 ^ 62) ∧ (b - a).toNat ≤ 2 ^ 24
instance {a b : Int} : Decidable (RgB a b) := by
  unfold RgB
  infer_instance
theorem RgB.ok {a b : Int} (h : RgB a b) : RgOk a b := ⟨h.1.1, h.1.2, h.2.1.1, h.2.1.2, h.2.2⟩
def upToV (a b : Int) : List D := upTo a b
theorem dp_rg {K : PySem.W.Frag} {F : Hp} (f : Nat → Int) : ∀ ks : List Nat, DpAll K F (ks.map fun i => V.int (f i)) (ks.map fun i => PyData.int (f i))
  | [] => .nil
  | k :: ks => .cons (.int _) (dp_rg f ks)
def rgM1 (m : MV D) : MV (Int × Int) := bnd m fun x => match x with
  | .int j => ret (0, j)
  | _ => fun _ => none
def rgM2 (m n : MV D) : MV (Int × Int) := bnd m fun x => bnd n fun y => match x, y with
  | .int i, .int j => ret (i, j)
  | _, _ => fun _ => none
def GoR (K : PySem.W.Frag) (c : Fr) (r : Option ((Int × Int) × Sta)) (F : Hp) (σ : L2.St) (Q : Int → Int → Hp → Prop) : Prop :=
  ∃ a b S', r = some ((a, b), S') ∧ ∀ F' H', Same F F' → Rel K c F' S' σ H' → Q a b H'
def DR (X : Cx) (c : Fr) (e : Expr) (m : MV (Int × Int)) : Prop := PRg X e fun σ H Q => ∃ F S, Rel X.K c F S σ H ∧ GoR X.K c (m S) F σ Q
theorem prg_imp {t t' : L2.St → Hp → (Int → Int → Hp → Prop) → Prop} (h : PRg X e t) (i : ∀ σ H Q, t' σ H Q → t σ H Q) : PRg X e t' := fun pins s σ H R I q => h pins s σ H R I (i _ _ _ q)
theorem dr_1 {a : Expr} {p : Pos} (hg : Gl X "range") (hm : X.mg "range" = none) (ha : DE X c a m) (na : starEach [a] X.env = (false, eval a X.env) :: starEach [] X.env := by rfl) : DR X c (.Call (.Name "range" p) [a] [] pos) (rgM1 m) :=
  prg_imp (prg_1 hg hm ha na) fun σ H Q ⟨F, S, r, a, b, S', e, q⟩ => by
    obtain ⟨x, S1, e1, e2⟩ := bnd_some e
    refine ⟨F, S, r, x, S1, e1, fun F1 H1 v s1 r1 d1 => ?_⟩
    cases d1 with
    | int j =>
      cases e2
      exact ⟨_, rfl, q F1 H1 s1 r1⟩
    | _ => cases e2
theorem dr_2 {a b : Expr} {m2 : MV D} {p : Pos} (hg : Gl X "range") (hm : X.mg "range" = none) (ha : DE X c a m) (hb : DE X c b m2) (na : starEach [a, b] X.env = (false, eval a X.env) :: starEach [b] X.env := by rfl) (nb : starEach [b] X.env = (false, eval b X.env) :: starEach [] X.env := by rfl)
    (hp : (backTo pos (starEach [b] X.env)).any (·.1) = false := by rfl) : DR X c (.Call (.Name "range" p) [a, b] [] pos) (rgM2 m m2) :=
  prg_imp (prg_2 hg hm ha hb na nb hp) fun σ H Q ⟨F, S, r, a, b, S', e, q⟩ => by
    obtain ⟨x, S1, e1, e2⟩ := bnd_some e
    obtain ⟨y, S2, e3, e4⟩ := bnd_some e2
    refine ⟨F, S, r, x, S1, e1, fun F1 H1 v s1 r1 d1 => ⟨F1, S1, r1, y, S2, e3, fun F2 H2 v2 s2 r2 d2 => ?_⟩⟩
    cases d1 with
    | int i =>
      cases d2 with
      | int j =>
        cases e4
        exact ⟨_, _, rfl, rfl, q F2 H2 (s1.trans s2) r2⟩
      | _ => cases e4
    | _ => cases e4
def rngD (f : List D → D) (m : MV (Int × Int)) : MV D := bnd m fun x => if RgB x.1 x.2 then ret (f (upTo x.1 x.2)) else fun _ => none
theorem rngD_some {f : List D → D} {m : MV (Int × Int)} {S S' : Sta} {d : D} (e : rngD f m S = some (d, S')) : ∃ a b, m S = some ((a, b), S') ∧ RgB a b ∧ d = f (upTo a b) := by
  obtain ⟨⟨a, b⟩, S1, e1, e2⟩ := bnd_some e
  have e3 : (if RgB a b then ret (f (upTo a b)) else fun _ => none) S1 = some (d, S') := e2
  by_cases z : RgB a b
  · rw [if_pos z] at e3
    cases e3
    exact ⟨a, b, e1, z, rfl⟩
  · rw [if_neg z] at e3
    cases e3
theorem de_listRg {p : Pos} {m : MV (Int × Int)} (hc : X.calm = true) (hg : Gl X "list") (hm : X.mg "list" = none) (he : DR X c e m) (na : starEach [e] X.env = (false, eval e X.env) :: starEach [] X.env := by rfl) : DE X c (.Call (.Name "list" p) [e] [] pos) (rngD .list m) :=
  pe_imp (pe_listRg hc hg hm he na) fun σ H Q ⟨F, S, r, d, S', e, q⟩ => by
    obtain ⟨a, b, e1, rb, rfl⟩ := rngD_some e
    refine ⟨F, S, r, a, b, _, e1, fun F1 H1 s1 r1 => ⟨rb.ok, fun p hp => ?_⟩⟩
    have fp := r1.fh.free hp
    exact q _ _ _ (s1.trans (upd_up fp)) (r1.alloc hp) (.lst (.inl (.inl upd_same)) (dp_rg _ _))
theorem de_tupRg {p : Pos} {m : MV (Int × Int)} (hc : X.calm = true) (hg : Gl X "tuple") (hm : X.mg "tuple" = none) (he : DR X c e m) (na : starEach [e] X.env = (false, eval e X.env) :: starEach [] X.env := by rfl) : DE X c (.Call (.Name "tuple" p) [e] [] pos) (rngD .tuple m) :=
  pe_imp (pe_tupRg hc hg hm he na) fun σ H Q ⟨F, S, r, d, S', e, q⟩ => by
    obtain ⟨a, b, e1, rb, rfl⟩ := rngD_some e
    refine ⟨F, S, r, a, b, _, e1, fun F1 H1 s1 r1 => ⟨rb.ok, fun p hp => ?_⟩⟩
    have fp := r1.fh.free hp
    exact q _ _ _ (s1.trans (upd_up fp)) (r1.alloc hp) (.tup (.inl (.inl upd_same)) (dp_rg _ _))
/-- list(range(..)), a new list -/
theorem dn_listRg {p : Pos} {m : MV (Int × Int)} (hc : X.calm = true) (hg : Gl X "list") (hm : X.mg "list" = none) (he : DR X c e m) (na : starEach [e] X.env = (false, eval e X.env) :: starEach [] X.env := by rfl) : DN X c (.Call (.Name "list" p) [e] [] pos) (rngD .list m) :=
  pe_imp (pe_listRg hc hg hm he na) fun σ H Q ⟨F, S, r, ys, S', e, q⟩ => by
    obtain ⟨a, b, e1, rb, e2⟩ := rngD_some e
    cases e2
    refine ⟨F, S, r, a, b, _, e1, fun F1 H1 s1 r1 => ⟨rb.ok, fun p hp => ?_⟩⟩
    obtain ⟨g1, g2, g3, g4⟩ := r1.fresh0 hp
    exact q F1 _ p _ s1 (r1.junk hp) g2 g1 g4 upd_same (dp_rg _ _)

end
end DL

-- part DL8
set_option Elab.async false
set_option linter.all false
set_option maxRecDepth 100000
set_option maxHeartbeats 1000000
/-! DL8: lists read while one's own; l.index. -/
namespace DL
open PySem PySem.Spec PyProof.Rows L2 RZ
section
variable {K : PySem.W.Frag} {c : Fr} {F H : Hp} {S : Sta} {σ : L2.St}
theorem Rel.freeze2 {i : Nat} {ds : List D} (r : Rel K c F S σ H) (e : S.env[i]? = some (.own ds)) :
    ∃ p vs, σ[i]? = some (some (.ref p)) ∧ DpAll K F vs ds ∧ F p = none ∧ c.H0 p = none ∧ Same F (upd F p (.lst vs)) ∧ Rel K c (upd F p (.lst vs)) { S with env := S.env.set i (.fz (.list ds)) } σ H := by
  obtain ⟨p, vs, h1, h2, h3, h4, h5⟩ := r.own_at e
  have hl : i < S.env.length := (List.getElem?_eq_some_iff.mp e).1
  have nps : p ≠ c.ps := fun z => r.hs (z ▸ h5)
  have npc : p ≠ c.pc := fun z => r.hc (z ▸ h5)
  have up := upd_up (o := .lst vs) h4
  have hd : Dp K (upd F p (.lst vs)) (.ref p) (.list ds) := .lst (.inl (.inl upd_same)) (DpAll.up up ds vs h3)
  refine ⟨p, vs, h1, h3, h4, h5, up, r.f0.trans up, fun b x z => ?_, fun a x z => ?_, r.kp, r.hs, r.hc, r.sr, ?_, ?_, by simp [r.len], fun j x z => ?_, fun j k a b n e1 e2 => ?_⟩
  · by_cases hb : b = p
    · subst hb
      rw [upd_same] at z
      cases z
      exact h2
    · rw [upd_ne hb] at z
      exact r.fh b x z
  · by_cases hb : a = p
    · subst hb
      exact .inr h5
    · rw [upd_ne hb] at z
      exact r.fr a x z
  · rw [upd_ne (Ne.symm nps)]
    exact r.fs
  · rw [upd_ne (Ne.symm npc)]
    exact r.fc
  · by_cases hj : i = j
    · subst hj
      rw [List.getElem?_set_self hl] at z
      cases z
      rw [h1]
      exact hd
    · rw [List.getElem?_set_ne hj] at z
      cases x with
      | own b =>
        obtain ⟨q, us, g1, g2, g3, g4, g5⟩ := r.own_at z
        have nq : q ≠ p := fun w => by
          refine r.sep i j ds b hj e z ?_
          rw [h1, g1, w]
        rw [g1]
        exact ⟨q, us, rfl, g2, DpAll.up up b us g3, by rw [upd_ne nq]; exact g4, g5⟩
      | un => trivial
      | fz d =>
        obtain ⟨v, g1, g2⟩ := r.fz_at z
        rw [g1]
        exact Dp.up up d v g2
      | src =>
        rw [r.src_at z]
        rfl
  · by_cases hi : i = j
    · subst hi
      rw [List.getElem?_set_self hl] at e1
      cases e1
    · by_cases hk : i = k
      · subst hk
        rw [List.getElem?_set_self hl] at e2
        cases e2
      · rw [List.getElem?_set_ne hi] at e1
        rw [List.getElem?_set_ne hk] at e2
        exact r.sep j k a b n e1 e2
/-- and back: the list was only looked at -/
theorem Rel.thaw {i : Nat} {ds : List D} {p : Addr} {vs : List V} {F2 H2 : Hp} {s : Src} (r : Rel K c F S σ H) (e : S.env[i]? = some (.own ds)) (h1 : σ[i]? = some (some (.ref p))) (h3 : DpAll K F vs ds) (h4 : F p = none) (h5 : c.H0 p = none)
    (ho : ∀ (j : Nat) (b : List D), j ≠ i → S.env[j]? ≠ some (.own b)) (s2 : Same (upd F p (.lst vs)) F2) (r2 : Rel K c F2 { env := S.env.set i (.fz (.list ds)), src := s } σ H2) : Rel K c F { env := S.env, src := s } σ H2 := by
  have up := upd_up (o := .lst vs) h4
  refine ⟨r.f0, (up.trans s2).trans r2.fh, r.fr, r2.kp, r2.hs, r2.hc, r2.sr, r.fs, r.fc, r.len, fun j x z => ?_, r.sep⟩
  cases x with
  | un => trivial
  | fz d =>
    obtain ⟨v, g1, g2⟩ := r.fz_at z
    rw [g1]
    exact g2
  | own b =>
    by_cases hj : j = i
    · subst hj
      rw [e] at z
      cases z
      rw [h1]
      exact ⟨p, vs, rfl, r2.fh p _ (s2 p _ upd_same), h3, h4, h5⟩
    · exact absurd z (ho j b hj)
  | src =>
    rw [r.src_at z]
    rfl
/-- what holds no thing of the heap -/
def flatD : D → Bool
  | .none => true
  | .bool _ => true
  | .int _ => true
  | .str _ => true
  | _ => false
theorem dp_flat {G : Hp} {v : V} {d : D} (h : Dp K G v d) (f : flatD d = true) : Dp K F v d := by
  cases h with
  | non => exact .non
  | bl b => exact .bl b
  | int i => exact .int i
  | str x => exact .str x
  | lst _ _ => cases f
  | tup _ _ => cases f
def loneE (env : List Slot) (i : Nat) : Bool := (env.set i .un).all fun x => !x.isOwn
theorem lone_of {env : List Slot} {i : Nat} (h : loneE env i = true) (j : Nat) (b : List D) (n : j ≠ i) : env[j]? ≠ some (.own b) := fun e => by
  unfold loneE at h
  have hj : (env.set i .un)[j]? = some (.own b) := by rw [List.getElem?_set_ne (Ne.symm n)]; exact e
  have := List.all_eq_true.mp h _ (List.mem_of_getElem? hj)
  cases this
end
open Classical in
/-- the list at i, one's own, looked at by m -/
noncomputable def peekD (i : Nat) (m : MV D) : MV D := fun S => match S.env[i]? with
  | some (.own ds) => match m { S with env := S.env.set i (.fz (.list ds)) } with
    | some (d, S') => if flatD d = true ∧ loneE S.env i = true ∧ S'.env = S.env.set i (.fz (.list ds)) then some (d, { S with src := S'.src }) else none
    | none => none
  | _ => none
open Classical in
noncomputable def peekT (i : Nat) (m : MV Bool) : MV Bool := fun S => match S.env[i]? with
  | some (.own ds) => match m { S with env := S.env.set i (.fz (.list ds)) } with
    | some (d, S') => if loneE S.env i = true ∧ S'.env = S.env.set i (.fz (.list ds)) then some (d, { S with src := S'.src }) else none
    | none => none
  | _ => none
open Classical in
theorem peekD_eq {i : Nat} {m : MV D} {S : Sta} {ds : List D} {d : D} {s : Src} (e : S.env[i]? = some (.own ds)) (h : m { S with env := S.env.set i (.fz (.list ds)) } = some (d, { env := S.env.set i (.fz (.list ds)), src := s })) (f : flatD d = true) (l : loneE S.env i = true) :
    peekD i m S = some (d, { S with src := s }) := by
  unfold peekD
  rw [e]
  show (match m { S with env := S.env.set i (.fz (.list ds)) } with | some (d, S') => _ | none => none) = _
  rw [h]
  exact if_pos ⟨f, l, rfl⟩
open Classical in
theorem peekT_eq {i : Nat} {m : MV Bool} {S : Sta} {ds : List D} {d : Bool} {s : Src} (e : S.env[i]? = some (.own ds)) (h : m { S with env := S.env.set i (.fz (.list ds)) } = some (d, { env := S.env.set i (.fz (.list ds)), src := s })) (l : loneE S.env i = true) :
    peekT i m S = some (d, { S with src := s }) := by
  unfold peekT
  rw [e]
  show (match m { S with env := S.env.set i (.fz (.list ds)) } with | some (d, S') => _ | none => none) = _
  rw [h]
  exact if_pos ⟨l, rfl⟩
section
variable {X : Cx} {c : Fr} {e : Expr} {m : MV D} {t : MV Bool} {pos : Pos}
theorem de_peek (i : Nat) (h : DE X c e m) : DE X c e (peekD i m) := pe_imp h fun σ H Q ⟨F, S, r, d, S', e, q⟩ => by
  unfold peekD at e
  split at e
  · rename_i ds e0
    split at e
    · rename_i d1 S1 e1
      split at e
      · rename_i hz
        obtain ⟨z1, z2, z3⟩ := hz
        cases e
        obtain ⟨p, vs, h1, h3, h4, h5, up, r1⟩ := r.freeze2 e0
        refine ⟨_, _, r1, d, S1, e1, fun F2 H2 v s2 r2 d2 => ?_⟩
        obtain ⟨env1, src1⟩ := S1
        cases z3
        exact q F H2 v (Same.refl F) (r.thaw e0 h1 h3 h4 h5 (lone_of z2) s2 r2) (dp_flat d2 z1)
      · cases e
    · cases e
  · cases e
theorem dt_peek (i : Nat) (h : DT X c e t) : DT X c e (peekT i t) := pt_imp h fun σ H Q ⟨F, S, r, d, S', e, q⟩ => by
  unfold peekT at e
  split at e
  · rename_i ds e0
    split at e
    · rename_i d1 S1 e1
      split at e
      · rename_i hz
        obtain ⟨z2, z3⟩ := hz
        cases e
        obtain ⟨p, vs, h1, h3, h4, h5, up, r1⟩ := r.freeze2 e0
        refine ⟨_, _, r1, d, S1, e1, fun F2 H2 s2 r2 => ?_⟩
        obtain ⟨env1, src1⟩ := S1
        cases z3
        exact q F H2 (Same.refl F) (r.thaw e0 h1 h3 h4 h5 (lone_of z2) s2 r2)
      · cases e
    · cases e
  · cases e
/-- tuple(name), the name's list one's own -/
def tupO (i : Nat) : MV D := fun S => match S.env[i]? with
  | some (.own ds) => some (.tuple ds, S)
  | _ => none
theorem de_tupO (i : Nat) {x : Str} {p p2 : Pos} (hg : Gl X "tuple") (hm : X.mg "tuple" = none) (hv : bootBuiltins "tuple" = some (.type "tuple")) (h : PE X (.Name x p2) (tVar i)) (he : starEach [.Name x p2] X.env = (false, eval (.Name x p2) X.env) :: starEach [] X.env := by rfl) (hpl : (backTo pos (starEach [] X.env)).any (·.1) = false := by rfl) :
    DE X c (.Call (.Name "tuple" p) [.Name x p2] [] pos) (tupO i) :=
  pe_imp (pe_callTy call_tuple_of hg hm hv (pa_cons h pa_nil) (by decide) (by decide) he hpl) fun σ H Q ⟨F, S, r, d, S', e, q⟩ => by
    unfold tupO at e
    split at e
    · rename_i ds e0
      cases e
      obtain ⟨p, vs, h1, h2, h3, h4, h5⟩ := r.own_at e0
      refine ⟨.ref p, h1, p, vs, rfl, .inl ⟨.inl (.inl h2), fun l hl => ?_⟩⟩
      have fl := r.fh.free hl
      exact q _ _ _ (upd_up fl) (r.alloc hl) (.tup (.inl (.inl upd_same)) (DpAll.up (upd_up fl) ds vs h3))
    · cases e
def ixOfD (x d : D) : Option D := match x with
  | .list ds => if okD d = true ∧ okD (.list ds) = true then (ds.findIdx? fun z => PyData.eqv z d).map fun j => PyData.int (j : Nat) else none
  | _ => none
theorem de_index {o : Expr} {m2 : MV D} {apos : Pos} (hu : X.A.units + 65 < cLine) (ho : DE X c o m) (ha : DE X c e m2) (hbase : attributeBase o "index" X.env (eval o X.env) = eval o X.env := by rfl)
    (hfew : ((backTo pos (starEach [e] X.env)).all (fun x => !x.1) && (backToKw pos (keywordEach [] X.env)).all (fun x => x.1.isSome)
      && decide ([e].length + ([] : List Keyword).length + (if ([] : List Keyword).isEmpty then 0 else 1) < 30)) = true := by rfl)
    (hline : (apos.endLine == pos.line) = true := by rfl) (hs : starEach [e] X.env = (false, eval e X.env) :: starEach [] X.env := by rfl) (hplain : (backTo pos (starEach [] X.env)).any (·.1) = false := by rfl) :
    DE X c (.Call (.Attribute o "index" apos) [e] [] pos) (op2 ixOfD m m2) :=
  pe_imp (pe_bm PySem.F.plainAttrs_list PySem.F.slot_list_index PySem.F.type_list_index (mt_indexD hu) ho (pa_cons ha pa_nil hs) hbase hfew hline hs hplain) fun σ H Q ⟨F, S, r, g⟩ => by
    obtain ⟨d, S', e, q⟩ := g
    obtain ⟨x, S1, e1, e2⟩ := bnd_some e
    obtain ⟨y, S2, e3, e4⟩ := bnd_some e2
    obtain ⟨e5, e6⟩ := opt_some e4
    subst e6
    refine ⟨F, S, r, x, S1, e1, fun F1 H1 v s1 r1 d1 => ?_⟩
    cases x with
    | list ds =>
      have e7 : (if okD y = true ∧ okD (.list ds) = true then (ds.findIdx? fun z => PyData.eqv z y).map fun j => PyData.int (j : Nat) else none) = some d := e5
      by_cases z : okD y = true ∧ okD (.list ds) = true
      · rw [if_pos z] at e7
        cases zf : ds.findIdx? fun z => PyData.eqv z y with
        | none =>
          rw [zf] at e7
          cases e7
        | some j =>
          rw [zf] at e7
          cases e7
          have d1' := d1
          cases d1 with
          | @lst p vs _ h1 h2 =>
            refine ⟨.inl ⟨rfl, _, sqL_up r1.fh h1⟩, F1, S1, r1, y, _, e3, fun F2 H2 w s2 r2 d2 => ?_⟩
            obtain ⟨hj, hj2, hj3⟩ := List.findIdx?_eq_some_iff_getElem.mp zf
            refine ⟨p, w, y, ds, j, ds[j], rfl, rfl, Dp.up (s2.trans r2.fh) _ _ d1', Dp.up r2.fh _ _ d2, z.2, z.1, List.getElem?_eq_getElem hj, hj2, fun k z' hk hz => ?_, q F2 H2 (.int (j : Nat)) (s1.trans s2) r2 (.int _)⟩
            have hk2 := hj3 k hk
            have hkl : k < ds.length := by omega
            rw [List.getElem?_eq_getElem hkl] at hz
            rw [← Option.some.inj hz]
            simpa using hk2
      · rw [if_neg z] at e7
        cases e7
    | _ => cases e5
end
end DL

-- part DL9
set_option Elab.async false
set_option linter.all false
set_option maxRecDepth 100000
set_option maxHeartbeats 1000000
/-! DL9: l.remove(k), [*range(..), ..], enumerate of tuples, small words for the generator. -/
namespace DL
open PySem PySem.Spec PyProof.Rows L2 RZ

/-! ### l.remove(k), ints -/
def rRemI : V → List V → Hp → VK → Prop := fun x vs H Q => ∃ (l : Addr) (ns : List Int) (k : Int) (j : Nat), x = .ref l ∧ vs = [.int k] ∧ H l = some (.lst (ns.map V.int)) ∧ ns[j]? = some k ∧ (∀ m, m < j → ns[m]? ≠ some k) ∧ Q .non (upd H l (.lst ((ns.eraseIdx j).map V.int)))
theorem map_eraseIx {α β : Type} (f : α → β) : ∀ (l : List α) (j : Nat), (l.map f).eraseIdx j = (l.eraseIdx j).map f
  | [], _ => rfl
  | _ :: _, 0 => rfl
  | a :: l, j + 1 => by
    show f a :: (l.map f).eraseIdx j = f a :: (l.eraseIdx j).map f
    rw [map_eraseIx f l j]
section
variable {X : Cx}
theorem mt_removeI : MtM X "list.remove" rRemI := by
  intro pins s σ H x vs v us Q I rx rv h
  obtain ⟨l, ns, k, j, rfl, rfl, hH, hj, hno, q⟩ := h
  cases rx
  obtain ⟨u, rfl, ru⟩ := rv.one
  obtain ⟨t, rfl⟩ := ru
  obtain ⟨z, its, n, r, hl, e⟩ := I.lstM hH
  have hlen : ns.length = its.length := by simpa using hl
  have at_ : ∀ (m : Nat) (i : Int), ns[m]? = some i → ∃ t', its[m]? = some (.int i t') := fun m i hm => by
    obtain ⟨w, hw, rw'⟩ := r.get (i := m) (x := .int i) (by rw [List.getElem?_map, hm]; rfl)
    obtain ⟨t', rfl⟩ := rw'
    exact ⟨t', hw⟩
  have ev : Value → Bool := fun y => match y with
    | .int a _ => a == k
    | _ => false
  have hjl : j < its.length := by
    have := (List.getElem?_eq_some_iff.mp hj).1
    omega
  refine call_meets PySem.F.slot_list_remove ⟨_, e, rfl⟩ PySem.F.entry_list_remove (PySem.F.args_list_remove_2 _ _)
    (MeetsSeq.list_remove l its.toArray n (.int k t) (fun y => match y with | .int a _ => a == k | _ => false) (fun y hy => ?_) j (by simpa using hjl) ?_ (fun m hm hmj => ?_) (by rw [List.size_toArray]; omega)) ⟨e, ?_⟩
  · have hy' : y ∈ its := by simpa using hy
    obtain ⟨m, hm⟩ := List.getElem?_of_mem hy'
    have hml : m < ns.length := by
      have := (List.getElem?_eq_some_iff.mp hm).1
      omega
    obtain ⟨t', ht⟩ := at_ m ns[m] (List.getElem?_eq_getElem hml)
    rw [hm] at ht
    cases ht
    exact MeetsSeq.EqGives.int _ _ _ _
  · obtain ⟨t', ht⟩ := at_ j k hj
    have e1 : its.toArray[j] = .int k t' := by
      have := (List.getElem?_eq_some_iff.mp ht).2
      simpa using this
    rw [e1]
    simp
  · have hml : m < ns.length := by
      have : m < its.length := by simpa using hm
      omega
    obtain ⟨t', ht⟩ := at_ m ns[m] (List.getElem?_eq_getElem hml)
    have e1 : its.toArray[m] = .int ns[m] t' := by
      have := (List.getElem?_eq_some_iff.mp ht).2
      simpa using this
    rw [e1]
    have := hno m hmj
    rw [List.getElem?_eq_getElem hml] at this
    simpa using this
  · refine ⟨.non, _, I.lset (its' := its.eraseIdx j) hH e ?_ ?_ ?_, rfl, q⟩
    · show its.toArray.eraseIdxIfInBounds j = (its.eraseIdx j).toArray
      rw [List.eraseIdxIfInBounds_toArray]
    · have := Vals.eraseIdx j r
      rw [map_eraseIx] at this
      exact this
    · have h1 := len_erase ns j
      rw [List.length_map]
      rw [List.length_map] at z
      omega
end
/-- name.remove(e), the name's list one's own, of ints -/
def remS (i : Nat) (m : MV D) : MS := fun S0 => match S0.env[i]? with
  | some (.own _) => bnd m (fun d => fun S => match S.env[i]?, d with
    | some (.own ds), .int k => match intsOf ds with
      | some ns => match ns.findIdx? (fun a => a == k) with
        | some j => some (.nx, { S with env := S.env.set i (.own ((ns.eraseIdx j).map PyData.int)) })
        | none => none
      | none => none
    | _, _ => none) S0
  | _ => none
section
variable {X : Cx} {c : Fr} {m : MV D} {pos : Pos} {K : PySem.W.Frag} {F : Hp}
theorem dp_ints {F : Hp} : ∀ ns : List Int, DpAll K F (ns.map V.int) (ns.map PyData.int)
  | [] => .nil
  | k :: ks => .cons (.int _) (dp_ints ks)
theorem ds_remove {cl : Expr} {i : Nat} (h : PE X cl (tBM X.K "list" rRemI (tVar i) (tCons (tD X.K c m) tNil))) (hs : swapsWith cl none pos.line X.env = pure false := by rfl) : DS X c (.Expr cl pos) (remS i m) :=
  ps_imp (ps_expr h hs) fun D' σ H ⟨F, S, r, o, S', e, q⟩ => by
    unfold remS at e
    split at e
    · rename_i ds0 e0
      obtain ⟨x, S1, e1, e2⟩ := bnd_some e
      split at e2
      · rename_i ds k ez
        split at e2
        · rename_i ns en
          split at e2
          · rename_i j ej
            cases e2
            obtain ⟨p0, us, k1, k2, _⟩ := r.own_at e0
            refine ⟨.ref p0, k1, tyV_list k2, F, S, r, .int k, S1, e1, fun F1 H1 v s1 r1 d1 => ?_⟩
            obtain ⟨p, vs, g1, g2, g3, _⟩ := r1.own_at ez
            have ep : p0 = p := by
              rw [k1] at g1
              exact V.ref.inj (Option.some.inj (Option.some.inj g1))
            subst ep
            cases d1
            have zz := intsOf_some en
            subst zz
            have := DpAll.ints g3
            subst this
            obtain ⟨hj, hj2, hj3⟩ := List.findIdx?_eq_some_iff_getElem.mp ej
            refine ⟨p0, ns, k, j, rfl, rfl, g2, ?_, fun m hm hn => ?_, ?_⟩
            · rw [List.getElem?_eq_getElem hj]
              simpa using hj2
            · have h3 := hj3 m hm
              have hml : m < ns.length := by omega
              rw [List.getElem?_eq_getElem hml] at hn
              have := Option.some.inj hn
              simp [this] at h3
            · exact q F1 _ σ s1 (r1.put_own ez g1 (dp_ints _))
          · cases e2
        · cases e2
      · cases e2
    · cases e
end

/-! ### *range(..) in a display -/
section
variable {X : Cx} {c : Fr} {pins : List (Addr × Obj)} {σ : L2.St} {H : Hp} {s : Shared}
def tStarR (te : L2.St → Hp → (Int → Int → Hp → Prop) → Prop) (t : TA) : TA := fun σ H Q => te σ H fun a b H1 => RgOk a b ∧ t σ H1 fun ys H2 => Q (rgV a b ++ ys) H2
theorem range_iter_slot : typeLookup (.type "range") "__iter__" = pure (some (.builtin "range.__iter__")) := by rw [typeLookup_type, builtinLookup_eq_fast]; kernel_rfl
theorem pa_starRg {e : Expr} {es : List Expr} {p : Pos} {te : L2.St → Hp → (Int → Int → Hp → Prop) → Prop} {t : TA} (hc : X.calm = true) (he : PRg X e te) (hr : PA X es t) (hs : starEach (.Starred e p :: es) X.env = (true, eval e X.env) :: starEach es X.env := by rfl) : PA X (.Starred e p :: es) (tStarR te t) := by
  refine ⟨fun pos pins s σ H Q I h => ?_⟩
  refine PySem.W.items_star (thn (he pins s σ H _ I h) fun v s1 ⟨r, a, b, t, u, w', H1, ex, hrg, I1, ok, q⟩ => ?_) hs
  subst ex
  obtain ⟨b1, b2, b3, b4, b5⟩ := ok
  have hT : s1.TypeIs (.ref r) "range" := ⟨_, hrg, rfl⟩
  unfold PySem.W.StarOf notIterableAtAll
  refine wpAny_bind (wpAny_specialOf hT range_iter_slot (wpAny_pure ⟨rfl, ?_⟩))
  refine collect_range (n := (b - a).toNat) (I1.ok.hd hc) hrg (small_one b1 b2 b3 b4) (rangeSize_nat a b) b5 fun h' tk acc hk hi => ?_
  have I2 : Inv X pins σ H1 { s1 with heap := h', toks := tk } := I1.kept hk
  exact thn (hr.run pos pins _ σ H1 _ I2 q) fun ws s3 ⟨vs, H3, I3, r3, q3⟩ => ⟨rgV a b ++ vs, H3, I3, (vals_rg hi).append r3, q3⟩
def starRL (m : MV (Int × Int)) (n : MV (List D)) : MV (List D) := bnd m fun x => if RgB x.1 x.2 then bnd n fun ys => ret (upTo x.1 x.2 ++ ys) else fun _ => none
theorem dl_starRg {e : Expr} {es : List Expr} {p : Pos} {m : MV (Int × Int)} {n : MV (List D)} (hc : X.calm = true) (he : DR X c e m) (hr : DL X c es n) (hs : starEach (.Starred e p :: es) X.env = (true, eval e X.env) :: starEach es X.env := by rfl) : DL X c (.Starred e p :: es) (starRL m n) :=
  pa_imp (pa_starRg hc he hr hs) fun σ H Q ⟨F, S, r, ds, S', e, q⟩ => by
    obtain ⟨⟨a, b⟩, S1, e1, e2⟩ := bnd_some e
    have e3 : (if RgB a b then bnd n fun ys => ret (upTo a b ++ ys) else fun _ => none) S1 = some (ds, S') := e2
    by_cases z : RgB a b
    · rw [if_pos z] at e3
      obtain ⟨ys, S2, e4, e5⟩ := bnd_some e3
      cases e5
      refine ⟨F, S, r, a, b, S1, e1, fun F1 H1 s1 r1 => ⟨z.ok, F1, S1, r1, ys, _, e4, fun F2 H2 vs s2 r2 d2 => ?_⟩⟩
      exact q F2 H2 _ (s1.trans s2) r2 (DpAll.append (dp_rg _ _) d2)
    · rw [if_neg z] at e3
      cases e3
end
end DL

-- part DL10
set_option Elab.async false
set_option linter.all false
set_option maxRecDepth 100000
set_option maxHeartbeats 1000000
/-! DL10: zip whose pairs are kept: list(zip(..)), enumerate(zip(..)). -/
namespace DL
open PySem PySem.Spec PyProof.Rows L2 RZ
abbrev ZObj (v0 : Value) (b : Bool) (TI TO : Addr) : Obj := { cls := .type "zip", dict := none, data := .fields #[v0, .bool b, .bool false, .ref TI, .ref TO], slots := #[] }
/-- a zip, whether its own tuple is out or not -/
def ZO (h : Heap) (z TI TO : Addr) : Prop := ∃ v0 b, h.get? z = some (ZObj v0 b TI TO) ∧ (v0 = .none ∨ ∃ T : Nat, v0 = rawInt T)
section
variable {prog : Program} {w : World} {A : Around} {E : Value → Shared → Prop} {s : Shared} {z TI TO i1 i2 : Addr} {fp1 fp2 : List Addr} {n1 n2 i : Nat} {P1 P2 : Nat → Value → Prop} {St1 St2 : Nat → Heap → Prop}
theorem own_free {v0 : Value} {b : Bool} {Q : Bool → Shared → Prop} (hz : s.heap.get? z = some (ZObj v0 b TI TO)) (hv : v0 = .none ∨ ∃ T : Nat, v0 = rawInt T) (h1 : Q true s)
    (h2 : ∀ h' b', h'.get? z = some (ZObj v0 b' TI TO) → Heap.SameBut z s.heap h' → Q false { s with heap := h' }) : wpAny (model prog w) A (Builtin.SmallTypes.ownedTupleIsFree (.ref z)) Q E s := by
  unfold Builtin.SmallTypes.ownedTupleIsFree
  rcases hv with rfl | ⟨T, rfl⟩
  · exact wpAny_bind (wpAny_field hz rfl (x := .none) rfl (wpAny_pure h1))
  · refine wpAny_bind (wpAny_field hz rfl (x := rawInt T) rfl ?_)
    show wpAny _ _ (loadIfAlive ((T : Int).toNat) >>= _) _ _ _
    rw [Int.toNat_natCast]
    have look : ∀ Q2 : Option Obj → Shared → Prop, Q2 (s.heap.get? T) s → wpAny (model prog w) A (loadIfAlive T) Q2 E s := fun Q2 h _ _ _ => h
    refine wpAny_bind (look _ ?_)
    cases ht : s.heap.get? T with
    | none =>
      simp only [Option.isNone_none, if_true]
      exact wpAny_pure h1
    | some o =>
      simp only [Option.isNone_some, Bool.false_eq_true, if_false]
      refine wpAny_bind (wpAny_field hz rfl (x := .bool b) rfl ?_)
      cases b with
      | true =>
        rw [if_neg (show ¬ ((Value.bool true != Value.bool true) = true) from Bool.false_ne_true)]
        exact wpAny_pure (h2 s.heap true hz (Heap.SameBut.refl _ _))
      | false =>
        rw [if_pos (show (Value.bool false != Value.bool true) = true from rfl)]
        exact wpAny_bind (wpAny_setField_rec hz (by simp) fun g hg sg => wpAny_pure (h2 g true hg sg))
/-- the zip's state: i pairs were drawn -/
structure ZSt (z TI TO i1 i2 : Addr) (St1 St2 : Nat → Heap → Prop) (i : Nat) (h : Heap) : Prop where
  zo : ZO h z TI TO
  ti : IsTupOf2 h TI (.ref i1) (.ref i2)
  tO : ∃ a1 a2, IsTupOf2 h TO a1 a2
  s1 : St1 i h
  s2 : St2 i h
theorem ZSt.keep (D1 : Draws prog w A i1 fp1 n1 P1 St1) (D2 : Draws prog w A i2 fp2 n2 P2 St2) {h h' : Heap} (st : ZSt z TI TO i1 i2 St1 St2 i h)
    (k : ∀ b ∈ z :: TI :: TO :: (fp1 ++ fp2), ∀ o, h.get? b = some o → h'.get? b = some o) : ZSt z TI TO i1 i2 St1 St2 i h' := by
  obtain ⟨⟨v0, b, hz, hv⟩, ti, ⟨a1, a2, tO⟩, s1, s2⟩ := st
  exact ⟨⟨v0, b, k z (by simp) _ hz, hv⟩, k TI (by simp) _ ti, ⟨a1, a2, k TO (by simp) _ tO⟩, D1.frame _ _ _ s1 fun c hc => k c (by simp [hc]), D2.frame _ _ _ s2 fun c hc => k c (by simp [hc])⟩
theorem zg_item {Q : Value → Shared → Prop} (S : ZipSep2 z TI TO i1 i2 fp1 fp2) (D1 : Draws prog w A i1 fp1 n1 P1 St1) (D2 : Draws prog w A i2 fp2 n2 P2 St2)
    (st : ZSt z TI TO i1 i2 St1 St2 i s.heap) (l1 : i < n1) (l2 : i < n2)
    (hQ : ∀ x1 x2 h' tk, P1 i x1 → P2 i x2 → ZSt z TI TO i1 i2 St1 St2 (i + 1) h' → IsTupOf2 h' s.heap.objs.size x1 x2 → h'.objs.size = s.heap.objs.size + 1 →
      (∀ c o, c ≠ z → c ≠ TO → c ≠ i1 → c ≠ i2 → s.heap.get? c = some o → h'.get? c = some o) → Q (.ref s.heap.objs.size) { s with heap := h', toks := tk }) :
    wpAny (model prog w) A (Builtin.«zip.__next__» ⟨[.ref z], []⟩) (fun fin s' => ∃ v, fin = .done (.ret v) ∧ Q v s') E s := by
  obtain ⟨hp, g, d, tk0, os⟩ := s
  obtain ⟨⟨v0, b, hz, hv⟩, hTI, ⟨a1, a2, hTO⟩, st1, st2⟩ := st
  show wpAny _ _ (field (.ref z) 2 >>= _) _ _ _
  refine wpAny_bind (wpAny_field hz rfl (x := .bool false) rfl ?_)
  show wpAny _ _ (field (.ref z) 3 >>= _) _ _ _
  refine wpAny_bind (wpAny_field hz rfl (x := .ref TI) rfl ?_)
  refine wpAny_bind (wpAny_seqItems hTI rfl ?_)
  show wpAny _ _ (Builtin.SmallTypes.ownedTupleIsFree (.ref z) >>= _) _ _ _
  refine wpAny_bind (own_free hz hv ?_ fun g0 b' hz0 k0 => ?_)
  · simp only [if_true]
    refine wpAny_bind (wpAny_rule ?_)
    refine wpAny_bind (wpAny_field hz rfl (x := .ref TO) rfl ?_)
    refine wpAny_bind (wpAny_setField_rec hz (by simp) fun g0 hz0 k0 => ?_)
    replace hz0 : g0.get? z = some (ZObj .ellipsis b TI TO) := hz0
    replace k0 : Heap.SameBut z hp g0 := k0
    refine wpAny_bind ?_
    simp only [List.zipIdx_cons, List.zipIdx_nil, List.forIn_cons, List.forIn_nil]
    refine wpAny_bind (wpAny_bind (wpAny_onRaise ?_))
    show wpAny _ _ (Builtin.SmallTypes.nextOf (.ref i1) >>= _) _ _ ⟨g0, g, d, tk0, os⟩
    refine wpAny_bind (D1.item i _ _ _ l1 (D1.over st1 k0 S.zf1) fun x1 g1 tk1 p1 sn1 k1 => wpAny_pure ?_)
    replace k1 : Heap.SameBut i1 g0 g1 := k1
    have u1 : IsTupOf2 g1 TO a1 a2 := k1.extBut _ _ S.Ti1 (k0.extBut _ _ S.TOz hTO)
    refine wpAny_bind (wpAny_seqItems (s := ⟨g1, g, d, tk1, os⟩) u1 rfl ?_)
    refine wpAny_bind (updateSeq_IsTupOf2 (s := ⟨g1, g, d, tk1, os⟩) u1 fun g2 u2 k2 => ?_)
    replace u2 : IsTupOf2 g2 TO x1 a2 := u2
    replace k2 : Heap.SameBut TO g1 g2 := k2
    refine wpAny_bind (wpAny_letGo (wpAny_pure ?_))
    refine wpAny_bind (wpAny_bind (wpAny_onRaise ?_))
    show wpAny _ _ (Builtin.SmallTypes.nextOf (.ref i2) >>= _) _ _ ⟨g2, g, d, tk1, os⟩
    refine wpAny_bind (D2.item i _ _ _ l2 (D2.over (D2.over (D2.over st2 k0 S.zf2) k1 S.sep1_2) k2 S.Tf2) fun x2 g3 tk2 p2 sn2 k3 => wpAny_pure ?_)
    replace k3 : Heap.SameBut i2 g2 g3 := k3
    have u3 : IsTupOf2 g3 TO x1 a2 := k3.extBut _ _ S.Ti2 u2
    refine wpAny_bind (wpAny_seqItems (s := ⟨g3, g, d, tk2, os⟩) u3 rfl ?_)
    refine wpAny_bind (updateSeq_IsTupOf2 (s := ⟨g3, g, d, tk2, os⟩) u3 fun g4 u4 k4 => ?_)
    replace u4 : IsTupOf2 g4 TO x1 x2 := u4
    replace k4 : Heap.SameBut TO g3 g4 := k4
    refine wpAny_bind (wpAny_letGo (wpAny_pure (wpAny_pure ?_)))
    refine wpAny_bind (wpAny_seqItems (s := ⟨g4, g, d, tk2, os⟩) u4 rfl ?_)
    refine wpAny_bind (wpAny_newTuple ?_)
    have hsz : g4.objs.size = hp.objs.size := by rw [k4.1, k3.1, k2.1, k1.1, k0.1]
    have hz4 : g4.get? z = some (ZObj .ellipsis b TI TO) := k4.extBut _ _ S.TOz.symm (k3.extBut _ _ S.zi2 (k2.extBut _ _ S.TOz.symm (k1.extBut _ _ S.zi1 hz0)))
    have up4 : ∀ c o, c ≠ z → c ≠ TO → c ≠ i1 → c ≠ i2 → hp.get? c = some o → g4.get? c = some o := fun c o cz cT c1 c2 e =>
      k4.extBut _ _ cT (k3.extBut _ _ c2 (k2.extBut _ _ cT (k1.extBut _ _ c1 (k0.extBut _ _ cz e))))
    have t1 : St1 (i + 1) g4 := D1.over (D1.over (D1.over sn1 k2 S.Tf1) k3 S.sep2_1) k4 S.Tf1
    have t2 : St2 (i + 1) g4 := D2.over sn2 k4 S.Tf2
    have hzl : z < g4.objs.size := Heap.lt_size hz4
    show wpAny _ _ (Builtin.SmallTypes.ownedTupleHandOut (.ref z) (.ref g4.objs.size) >>= _) _ _ ⟨g4.push { cls := .type "tuple", data := .seq #[x1, x2] }, g, d, tk2, os⟩
    refine wpAny_bind ?_
    unfold Builtin.SmallTypes.ownedTupleHandOut
    have hz5 : (g4.push { cls := .type "tuple", data := .seq #[x1, x2] }).get? z = some (ZObj .ellipsis b TI TO) := Heap.get?_push_of_some _ hz4
    refine wpAny_bind (wpAny_setField_rec hz5 (by simp) fun g6 hz6 k6 => ?_)
    replace hz6 : g6.get? z = some (ZObj (rawInt g4.objs.size) b TI TO) := hz6
    refine wpAny_setField_rec hz6 (by simp) fun g7 hz7 k7 => ?_
    replace hz7 : g7.get? z = some (ZObj (rawInt g4.objs.size) false TI TO) := hz7
    replace k6 : Heap.SameBut z (g4.push { cls := .type "tuple", data := .seq #[x1, x2] }) g6 := k6
    replace k7 : Heap.SameBut z g6 g7 := k7
    have up7 : ∀ c o, c ≠ z → g4.get? c = some o → g7.get? c = some o := fun c o c1 e => k7.extBut _ _ c1 (k6.extBut _ _ c1 (Heap.get?_push_of_some _ e))
    have hT7 : IsTupOf2 g7 g4.objs.size x1 x2 := k7.extBut _ _ (Nat.ne_of_gt hzl) (k6.extBut _ _ (Nat.ne_of_gt hzl) (Heap.get?_push_size _ rfl))
    have hs7 : g7.objs.size = g4.objs.size + 1 := by rw [k7.1, k6.1, Heap.size_push]
    refine wpAny_pure ⟨_, rfl, ?_⟩
    show Q (.ref g4.objs.size) ⟨g7, g, d, tk2, os⟩
    have hz7' : ZO g7 z TI TO := ⟨_, _, hz7, .inr ⟨_, rfl⟩⟩
    rw [hsz] at hT7 hs7 ⊢
    refine hQ x1 x2 g7 tk2 p1 p2 ⟨hz7', up7 _ _ S.TIz (up4 _ _ S.TIz S.TITO S.TIi1 S.TIi2 hTI), ⟨_, _, up7 _ _ S.TOz u4⟩, D1.frame _ _ _ t1 fun b hb o e => up7 b o (fun q => S.zf1 (q ▸ hb)) e, D2.frame _ _ _ t2 fun b hb o e => up7 b o (fun q => S.zf2 (q ▸ hb)) e⟩ hT7 hs7
      fun c o cz cT c1 c2 e => up7 c o cz (up4 c o cz cT c1 c2 e)
  · replace k0 : Heap.SameBut z hp g0 := k0
    simp only [Bool.false_eq_true, if_false]
    refine wpAny_bind ?_
    rw [← Array.forIn_toList]
    simp only [List.forIn_cons, List.forIn_nil]
    refine wpAny_bind (wpAny_bind (wpAny_holding ?_))
    show wpAny _ _ (Builtin.SmallTypes.nextOf (.ref i1) >>= _) _ _ ⟨g0, g, d, tk0, os⟩
    refine wpAny_bind (D1.item i _ _ _ l1 (D1.over st1 k0 S.zf1) fun x1 g1 tk1 p1 sn1 k1 => wpAny_pure ?_)
    replace k1 : Heap.SameBut i1 g0 g1 := k1
    refine wpAny_pure ?_
    refine wpAny_bind (wpAny_bind (wpAny_holding ?_))
    show wpAny _ _ (Builtin.SmallTypes.nextOf (.ref i2) >>= _) _ _ ⟨g1, g, d, tk1, os⟩
    refine wpAny_bind (D2.item i _ _ _ l2 (D2.over (D2.over st2 k0 S.zf2) k1 S.sep1_2) fun x2 g2 tk2 p2 sn2 k2 => wpAny_pure ?_)
    replace k2 : Heap.SameBut i2 g1 g2 := k2
    refine wpAny_pure (wpAny_pure ?_)
    show wpAny _ _ (newTuple [x1, x2] >>= _) _ _ ⟨g2, g, d, tk2, os⟩
    refine wpAny_bind (wpAny_newTuple ?_)
    have hsz : g2.objs.size = hp.objs.size := by rw [k2.1, k1.1, k0.1]
    have hz2 : g2.get? z = some (ZObj v0 b' TI TO) := k2.extBut _ _ S.zi2 (k1.extBut _ _ S.zi1 hz0)
    have up2 : ∀ c o, c ≠ z → c ≠ i1 → c ≠ i2 → hp.get? c = some o → g2.get? c = some o := fun c o cz c1 c2 e => k2.extBut _ _ c2 (k1.extBut _ _ c1 (k0.extBut _ _ cz e))
    have t1 : St1 (i + 1) g2 := D1.over sn1 k2 S.sep2_1
    have psh : ∀ c o, g2.get? c = some o → (g2.push { cls := .type "tuple", data := .seq #[x1, x2] }).get? c = some o := fun c o e => Heap.get?_push_of_some _ e
    refine wpAny_pure ⟨_, rfl, ?_⟩
    show Q (.ref g2.objs.size) ⟨g2.push { cls := .type "tuple", data := .seq #[x1, x2] }, g, d, tk2, os⟩
    have hT2 : IsTupOf2 (g2.push { cls := .type "tuple", data := .seq #[x1, x2] }) g2.objs.size x1 x2 := Heap.get?_push_size _ rfl
    have hs2 : (g2.push { cls := .type "tuple", data := .seq #[x1, x2] }).objs.size = g2.objs.size + 1 := Heap.size_push ..
    rw [hsz] at hT2 hs2 ⊢
    exact hQ x1 x2 _ tk2 p1 p2 ⟨⟨_, _, psh _ _ hz2, hv⟩, psh _ _ (up2 _ _ S.TIz S.TIi1 S.TIi2 hTI), ⟨_, _, psh _ _ (up2 _ _ S.TOz S.Ti1 S.Ti2 hTO)⟩, D1.frame _ _ _ t1 fun b _ o e => psh b o e, D2.frame _ _ _ sn2 fun b _ o e => psh b o e⟩ hT2 hs2
      fun c o cz cT c1 c2 e => psh c o (up2 c o cz c1 c2 e)
theorem zg_end {Q : Fin → Shared → Prop} (S : ZipSep2 z TI TO i1 i2 fp1 fp2) (D1 : Draws prog w A i1 fp1 n1 P1 St1) (D2 : Draws prog w A i2 fp2 n2 P2 St2)
    (st : ZSt z TI TO i1 i2 St1 St2 i s.heap) (l1 : i ≤ n1) (l2 : i ≤ n2) (hend : i = n1 ∨ i = n2)
    (hE : ∀ h' tk e, (∀ c o, c ≠ z → c ≠ TO → c ≠ i1 → c ≠ i2 → s.heap.get? c = some o → h'.get? c = some o) → (∃ o, h'.get? e = some o ∧ o.cls = .type "StopIteration") → E (.ref e) { s with heap := h', toks := tk }) :
    wpAny (model prog w) A (Builtin.«zip.__next__» ⟨[.ref z], []⟩) Q E s := by
  obtain ⟨hp, g, d, tk0, os⟩ := s
  obtain ⟨⟨v0, b, hz, hv⟩, hTI, ⟨a1, a2, hTO⟩, st1, st2⟩ := st
  show wpAny _ _ (field (.ref z) 2 >>= _) _ _ _
  refine wpAny_bind (wpAny_field hz rfl (x := .bool false) rfl ?_)
  show wpAny _ _ (field (.ref z) 3 >>= _) _ _ _
  refine wpAny_bind (wpAny_field hz rfl (x := .ref TI) rfl ?_)
  refine wpAny_bind (wpAny_seqItems hTI rfl ?_)
  show wpAny _ _ (Builtin.SmallTypes.ownedTupleIsFree (.ref z) >>= _) _ _ _
  refine wpAny_bind (own_free hz hv ?_ fun g0 b' hz0 k0 => ?_)
  · simp only [if_true]
    refine wpAny_bind (wpAny_rule ?_)
    refine wpAny_bind (wpAny_field hz rfl (x := .ref TO) rfl ?_)
    refine wpAny_bind (wpAny_setField_rec hz (by simp) fun g0 hz0 k0 => ?_)
    replace hz0 : g0.get? z = some (ZObj .ellipsis b TI TO) := hz0
    replace k0 : Heap.SameBut z hp g0 := k0
    refine wpAny_bind ?_
    simp only [List.zipIdx_cons, List.zipIdx_nil, List.forIn_cons, List.forIn_nil]
    refine wpAny_bind (wpAny_bind (wpAny_onRaise ?_))
    show wpAny _ _ (Builtin.SmallTypes.nextOf (.ref i1) >>= _) _ _ ⟨g0, g, d, tk0, os⟩
    by_cases hl : i < n1
    · refine wpAny_bind (D1.item i _ _ _ hl (D1.over st1 k0 S.zf1) fun x1 g1 tk1 p1 sn1 k1 => wpAny_pure ?_)
      replace k1 : Heap.SameBut i1 g0 g1 := k1
      have u1 : IsTupOf2 g1 TO a1 a2 := k1.extBut _ _ S.Ti1 (k0.extBut _ _ S.TOz hTO)
      refine wpAny_bind (wpAny_seqItems (s := ⟨g1, g, d, tk1, os⟩) u1 rfl ?_)
      refine wpAny_bind (updateSeq_IsTupOf2 (s := ⟨g1, g, d, tk1, os⟩) u1 fun g2 u2 k2 => ?_)
      replace k2 : Heap.SameBut TO g1 g2 := k2
      refine wpAny_bind (wpAny_letGo (wpAny_pure ?_))
      have hi2 : i = n2 := by omega
      refine wpAny_bind (wpAny_bind (wpAny_onRaise ?_))
      show wpAny _ _ (Builtin.SmallTypes.nextOf (.ref i2) >>= _) _ _ ⟨g2, g, d, tk1, os⟩
      refine wpAny_bind (D2.done ⟨g2, g, d, tk1, os⟩ _ _ (by rw [← hi2]; exact (D2.over (D2.over (D2.over st2 k0 S.zf2) k1 S.sep1_2) k2 S.Tf2)) fun q e hq he => ?_)
      replace hq : Heap.ExtBut i2 g2 q := hq
      obtain ⟨oe, hoe, hce⟩ := he
      replace hoe : q.get? e = some oe := hoe
      have hzq : q.get? z = some (ZObj .ellipsis b TI TO) := hq _ _ S.zi2 (k2.extBut _ _ S.TOz.symm (k1.extBut _ _ S.zi1 hz0))
      have hez : e ≠ z := fun x => by
        subst x
        rw [hzq] at hoe
        cases hoe
        simp at hce
      refine wpAny_setField_rec (s := ⟨q, g, d, tk1, os⟩) hzq (by simp) fun q' _ hq' => ?_
      replace hq' : Heap.SameBut z q q' := hq'
      exact hE q' tk1 e (fun c o cz cT c1 c2 x => hq'.extBut _ _ cz (hq _ _ c2 (k2.extBut _ _ cT (k1.extBut _ _ c1 (k0.extBut _ _ cz x))))) ⟨oe, hq'.extBut _ _ hez hoe, hce⟩
    · have hi1 : i = n1 := by omega
      refine wpAny_bind (D1.done ⟨g0, g, d, tk0, os⟩ _ _ (by rw [← hi1]; exact (D1.over st1 k0 S.zf1)) fun q e hq he => ?_)
      replace hq : Heap.ExtBut i1 g0 q := hq
      obtain ⟨oe, hoe, hce⟩ := he
      replace hoe : q.get? e = some oe := hoe
      have hzq : q.get? z = some (ZObj .ellipsis b TI TO) := hq _ _ S.zi1 hz0
      have hez : e ≠ z := fun x => by
        subst x
        rw [hzq] at hoe
        cases hoe
        simp at hce
      refine wpAny_setField_rec (s := ⟨q, g, d, tk0, os⟩) hzq (by simp) fun q' _ hq' => ?_
      replace hq' : Heap.SameBut z q q' := hq'
      exact hE q' tk0 e (fun c o cz cT c1 c2 x => hq'.extBut _ _ cz (hq _ _ c1 (k0.extBut _ _ cz x))) ⟨oe, hq'.extBut _ _ hez hoe, hce⟩
  · replace k0 : Heap.SameBut z hp g0 := k0
    simp only [Bool.false_eq_true, if_false]
    refine wpAny_bind ?_
    rw [← Array.forIn_toList]
    simp only [List.forIn_cons, List.forIn_nil]
    refine wpAny_bind (wpAny_bind (wpAny_holding ?_))
    show wpAny _ _ (Builtin.SmallTypes.nextOf (.ref i1) >>= _) _ _ ⟨g0, g, d, tk0, os⟩
    by_cases hl : i < n1
    · refine wpAny_bind (D1.item i _ _ _ hl (D1.over st1 k0 S.zf1) fun x1 g1 tk1 p1 sn1 k1 => wpAny_pure ?_)
      replace k1 : Heap.SameBut i1 g0 g1 := k1
      refine wpAny_pure ?_
      have hi2 : i = n2 := by omega
      refine wpAny_bind (wpAny_bind (wpAny_holding ?_))
      show wpAny _ _ (Builtin.SmallTypes.nextOf (.ref i2) >>= _) _ _ ⟨g1, g, d, tk1, os⟩
      refine wpAny_bind (D2.done ⟨g1, g, d, tk1, os⟩ _ _ (by rw [← hi2]; exact (D2.over (D2.over st2 k0 S.zf2) k1 S.sep1_2)) fun q e hq he => ?_)
      replace hq : Heap.ExtBut i2 g1 q := hq
      exact hE q tk1 e (fun c o cz cT c1 c2 x => hq _ _ c2 (k1.extBut _ _ c1 (k0.extBut _ _ cz x))) he
    · have hi1 : i = n1 := by omega
      refine wpAny_bind (D1.done ⟨g0, g, d, tk0, os⟩ _ _ (by rw [← hi1]; exact (D1.over st1 k0 S.zf1)) fun q e hq he => ?_)
      replace hq : Heap.ExtBut i1 g0 q := hq
      exact hE q tk0 e (fun c o cz cT c1 c2 x => hq _ _ c1 (k0.extBut _ _ cz x)) he
end
end DL

-- part DL11
set_option Elab.async false
set_option linter.all false
set_option maxRecDepth 100000
set_option maxHeartbeats 1000000
/-! DL11: list(zip(..)). -/
namespace DL
open PySem PySem.Spec PyProof.Rows L2 RZ
/-! ### lists and tuples, walked alike -/
def sOb (l : Bool) (a : Addr) : Obj := if l then { cls := .type "list_iterator", data := .fields #[.ref a, .int 0 0] } else { cls := .type "tuple_iterator", data := .fields #[.ref a, .int 0 0] }
def sHp (l : Bool) (a : Addr) (items : Array Value) (h : Heap) : Prop := if l then h.IsList a items else h.IsTuple a items
def sIt (l : Bool) (it a : Addr) (i : Nat) (h : Heap) : Prop := if l then h.IsListIter it a i else h.IsTupleIter it a i
def SqX (l : Bool) (K : PySem.W.Frag) (H : Hp) (a : Addr) (xs : List V) : Prop := if l then SqL K H a xs else SqT K H a xs
theorem sHp_keep {l : Bool} {a : Addr} {items : Array Value} {h h' : Heap} (x : sHp l a items h) (k : ∀ o, h.get? a = some o → h'.get? a = some o) : sHp l a items h' := by
  cases l with
  | true => exact x.at k
  | false =>
    obtain ⟨o, e, r⟩ := x
    exact ⟨o, k _ e, r⟩
theorem sIt_keep {l : Bool} {it a : Addr} {i : Nat} {h h' : Heap} (x : sIt l it a i h) (k : ∀ o, h.get? it = some o → h'.get? it = some o) : sIt l it a i h' := by
  cases l with
  | true => exact x.at k
  | false => exact x.at k
theorem sIt_new {l : Bool} {it a : Addr} {h : Heap} (e : h.get? it = some (sOb l a)) : sIt l it a 0 h := by
  cases l with
  | true => exact ⟨_, e, rfl, rfl⟩
  | false => exact ⟨_, e, rfl, rfl⟩
theorem sHp_lt {l : Bool} {a : Addr} {items : Array Value} {h : Heap} (x : sHp l a items h) : a < h.objs.size := by
  cases l with
  | true =>
    obtain ⟨_, e, _⟩ := x
    exact Heap.lt_size e
  | false =>
    obtain ⟨_, e, _⟩ := x
    exact Heap.lt_size e
theorem s_begins (l : Bool) (a : Addr) (items : Array Value) : Begins (.ref a) (sOb l a) (sHp l a items) := by
  cases l with
  | true => exact begins_list a items
  | false => exact begins_tuple a items
theorem s_draws {prog : Program} {w : World} {A : Around} (l : Bool) (hh : A.handled = none) (it a : Addr) (hne : a ≠ it) (items : Array Value) :
    Draws prog w A it [it, a] items.size (fun i v => items[i]? = some v) (fun i h => sIt l it a i h ∧ sHp l a items h) := by
  cases l with
  | true => exact Draws.list hh it a hne items
  | false => exact Draws.tuple hh it a hne items
theorem sqX_up {l : Bool} {K : PySem.W.Frag} {F H : Hp} {a : Addr} {xs : List V} (s : Same F H) (h : SqX l K F a xs) : SqX l K H a xs := by
  cases l with
  | true => exact sqL_up s h
  | false => exact sqT_up s h
theorem inv_side {X : Cx} {pins : List (Addr × Obj)} {σ : L2.St} {H : Hp} {s : Shared} {l : Bool} {a : Addr} {xs : List V} (I : Inv X pins σ H s) (h : SqX l X.K H a xs) : ∃ its : List Value, Vals xs its ∧ sHp l a its.toArray s.heap := by
  cases l with
  | true =>
    obtain ⟨its, r, p, _⟩ := I.list h
    exact ⟨its, r, p.isList⟩
  | false =>
    obtain ⟨its, r, p, _⟩ := I.tuple h
    exact ⟨its, r, p⟩
theorem dp_side {K : PySem.W.Frag} {F : Hp} {v : V} {d : D} {xs : List D} (h : Dp K F v d) (e : items d = some xs) : ∃ l a vs, v = .ref a ∧ SqX l K F a vs ∧ DpAll K F vs xs := by
  cases h with
  | lst h1 h2 =>
    cases e
    exact ⟨true, _, _, rfl, h1, h2⟩
  | tup h1 h2 =>
    cases e
    exact ⟨false, _, _, rfl, h1, h2⟩
  | _ => cases e

/-! ### the loop that fills a list -/
abbrev LObj (acc : Array Value) (c : Nat) : Obj := { cls := .type "list", dict := none, data := .seq acc c, slots := #[] }
section
variable {prog : Program} {w : World} {A : Around} {R : Result → Shared → Prop}
theorem fill_loop {S I : Addr} {n : Nat} {res : Value} (hn : n ≤ sizeLine) (Ψ : Nat → Array Value → Shared → Prop)
    (turn : ∀ i acc (s : Shared) c (E : Value → Shared → Prop), i < n → Ψ i acc s → s.heap.get? S = some (LObj acc c) →
      wpAny (model prog w) A.in1 (pyNext (.ref I)) (fun r s' => ∃ v, r = some v ∧ (∃ c', s'.heap.get? S = some (LObj acc c')) ∧ Ψ (i + 1) (acc.push v) { s' with heap := s'.heap.update S (Obj.mapSeq (·.push v)) }) E s)
    (fin : ∀ acc (s : Shared) c (E : Value → Shared → Prop), Ψ n acc s → s.heap.get? S = some (LObj acc c) → wpAny (model prog w) A.in1 (pyNext (.ref I)) (fun r s' => r = none ∧ R (.ok (.ret res)) s') E s) :
    ∀ (k i : Nat) (s : Shared) (acc : Array Value) (c : Nat), n - i = k → i ≤ n → Ψ i acc s → acc.size = i → s.heap.get? S = some (LObj acc c) → codeAny (model prog w) A (.builtin "list.extend.loop" ⟨[.ref S, .ref I, res], []⟩) R s := by
  intro k
  induction k with
  | zero =>
    intro i s acc c hk hi hp hz hS
    obtain rfl : i = n := by omega
    refine codeAny_builtin F.entry_extend_loop ?_
    rw [Around.under_plainId F.plain_extend_loop _]
    refine wpAny_bind (thn (fin acc s c _ hp hS) fun r s1 h => ?_)
    obtain ⟨rfl, h⟩ := h
    exact wpAny_pure h
  | succ k ih =>
    intro i s acc c hk hi hp hz hS
    have hlt : i < n := by omega
    refine codeAny_builtin F.entry_extend_loop ?_
    rw [Around.under_plainId F.plain_extend_loop _]
    refine wpAny_bind (thn (turn i acc s c _ hlt hp hS) fun r s1 h => ?_)
    obtain ⟨v, rfl, ⟨c', hS1⟩, hp1⟩ := h
    show wpAny _ _ (updateSeq S (·.push v) >>= _) _ _ _
    refine wpAny_bind (wpAny_updateSeq hS1 rfl (wpAny_pure ⟨plainId_quiet F.plain_extend_loop _, ?_⟩) (by rw [hz]; omega) (by show (acc.push v).size ≤ sizeLine + 1; rw [Array.size_push, hz]; omega))
    exact ih (i + 1) _ (acc.push v) _ (by omega) hlt hp1 (by rw [Array.size_push, hz]) (Heap.get?_update_self _ hS1 rfl)
end
theorem zip_nolen : typeLookup (.type "zip") "__len__" = pure none := by rw [typeLookup_type, builtinLookup_eq_fast]; kernel_rfl
theorem zip_nohint : typeLookup (.type "zip") "__length_hint__" = pure none := by rw [typeLookup_type, builtinLookup_eq_fast]; kernel_rfl
section
variable {prog : Program} {w : World} {A : Around} {E : Value → Shared → Prop} {s : Shared} {z TI TO i1 i2 : Addr} {fp1 fp2 : List Addr} {n1 n2 i : Nat} {P1 P2 : Nat → Value → Prop} {St1 St2 : Nat → Heap → Prop}
theorem zo_type (h : ZO s.heap z TI TO) : s.TypeIs (.ref z) "zip" := by
  obtain ⟨v0, b, hz, _⟩ := h
  exact ⟨_, hz, rfl⟩
theorem zg_nextOf {Q : Value → Shared → Prop} (S : ZipSep2 z TI TO i1 i2 fp1 fp2) (D1 : Draws prog w A.in1 i1 fp1 n1 P1 St1) (D2 : Draws prog w A.in1 i2 fp2 n2 P2 St2)
    (st : ZSt z TI TO i1 i2 St1 St2 i s.heap) (l1 : i < n1) (l2 : i < n2)
    (hQ : ∀ x1 x2 h' tk, P1 i x1 → P2 i x2 → ZSt z TI TO i1 i2 St1 St2 (i + 1) h' → IsTupOf2 h' s.heap.objs.size x1 x2 → h'.objs.size = s.heap.objs.size + 1 →
      (∀ c o, c ≠ z → c ≠ TO → c ≠ i1 → c ≠ i2 → s.heap.get? c = some o → h'.get? c = some o) → Q (.ref s.heap.objs.size) { s with heap := h', toks := tk }) :
    wpAny (model prog w) A (Builtin.SmallTypes.nextOf (.ref z)) Q E s := by
  have hT := zo_type (s := s) st.zo
  unfold Builtin.SmallTypes.nextOf
  exact wpAny_bind (wpAny_callSpecial?_slot (name := Str.ofString "__next__") hT F.slot_zip_next
    (wpAny_call_entry F.slot_zip_next hT F.entry_zip_next (zg_item S D1 D2 st l1 l2 fun a b c d e f g h k m => wpAny_pure (hQ a b c d e f g h k m)) (F.args_zip_next_1 _)))
theorem zg_pyNext {Q : Option Value → Shared → Prop} (S : ZipSep2 z TI TO i1 i2 fp1 fp2) (D1 : Draws prog w A.in1 i1 fp1 n1 P1 St1) (D2 : Draws prog w A.in1 i2 fp2 n2 P2 St2)
    (st : ZSt z TI TO i1 i2 St1 St2 i s.heap) (l1 : i < n1) (l2 : i < n2)
    (hQ : ∀ x1 x2 h' tk, P1 i x1 → P2 i x2 → ZSt z TI TO i1 i2 St1 St2 (i + 1) h' → IsTupOf2 h' s.heap.objs.size x1 x2 → h'.objs.size = s.heap.objs.size + 1 →
      (∀ c o, c ≠ z → c ≠ TO → c ≠ i1 → c ≠ i2 → s.heap.get? c = some o → h'.get? c = some o) → Q (some (.ref s.heap.objs.size)) { s with heap := h', toks := tk }) :
    wpAny (model prog w) A (pyNext (.ref z)) Q E s := by
  have hT := zo_type (s := s) st.zo
  unfold pyNext
  exact wpAny_bind (wpAny_attempt (wpAny_callSpecial?_slot (name := Str.ofString "__next__") hT F.slot_zip_next
    (wpAny_call_entry F.slot_zip_next hT F.entry_zip_next (zg_item S D1 D2 st l1 l2 fun a b c d e f g h k m => wpAny_pure (hQ a b c d e f g h k m)) (F.args_zip_next_1 _))))
theorem zg_pyEnd {Q : Option Value → Shared → Prop} (S : ZipSep2 z TI TO i1 i2 fp1 fp2) (D1 : Draws prog w A.in1 i1 fp1 n1 P1 St1) (D2 : Draws prog w A.in1 i2 fp2 n2 P2 St2)
    (st : ZSt z TI TO i1 i2 St1 St2 i s.heap) (l1 : i ≤ n1) (l2 : i ≤ n2) (hend : i = n1 ∨ i = n2)
    (hQ : ∀ h' tk, (∀ c o, c ≠ z → c ≠ TO → c ≠ i1 → c ≠ i2 → s.heap.get? c = some o → h'.get? c = some o) → Q none { s with heap := h', toks := tk }) : wpAny (model prog w) A (pyNext (.ref z)) Q E s := by
  have hT := zo_type (s := s) st.zo
  unfold pyNext
  refine wpAny_bind (wpAny_attempt (wpAny_callSpecial?_slot (name := Str.ofString "__next__") hT F.slot_zip_next
    (wpAny_call_entry F.slot_zip_next hT F.entry_zip_next (zg_end S D1 D2 st l1 l2 hend fun h' tk e hk he => ?_) (F.args_zip_next_1 _))))
  obtain ⟨o, ho, hc⟩ := he
  exact wpAny_bind (wpAny_isInstance (T := "StopIteration") (b := true) ⟨o, ho, hc⟩ isSubtype_stop (wpAny_pure (hQ _ _ hk)))
theorem zo_iter {Q : Value → Shared → Prop} (h : ZO s.heap z TI TO) (q : Q (.ref z) s) : wpAny (model prog w) A (pyIter (.ref z)) Q E s := by
  have hT := zo_type (s := s) h
  refine wpAny_pyIter_slot hT F.slot_zip_iter (wpAny_call_entry F.slot_zip_iter hT F.entry_zip_iter ?_ (F.args_zip_iter_1 _))
  show wpAny _ _ (PySem.ret (.ref z)) _ _ s
  exact wpAny_pure ⟨_, rfl, "zip", _, hT, F.slot_zip_next.lookup, q⟩
/-- list(z), z a zip: the loop begins -/
theorem list_zip_begin {Q : Value → Shared → Prop} (hz : ZO s.heap z TI TO)
    (h : ∀ h' c, h'.get? s.heap.objs.size = some (LObj #[] c) → (∀ b o, s.heap.get? b = some o → h'.get? b = some o) →
      codeAny (model prog w) A.in1 (.builtin "list.extend.loop" ⟨[.ref s.heap.objs.size, .ref z, .none], []⟩) (fun r s2 => wants (fun r s₂ => r = .none ∧ Q (.ref s.heap.objs.size) s₂) E r s2) { s with heap := h' }) :
    wpAny (model prog w) A (call (.type "list") [.ref z]) Q E s := by
  have hzl : z < s.heap.objs.size := by
    obtain ⟨v0, b, e, _⟩ := hz
    exact Heap.lt_size e
  refine callType_codes (Q₁ := fun obj s1 => obj = .ref s.heap.objs.size ∧ s1 = { s with heap := s.heap.push { cls := .type "list", data := .seq #[] } }) F.called_list (F.typeCall_list_1 _) F.entry_list_init
    (code_list_new _ ⟨rfl, rfl⟩) fun obj s1 h1 => ?_
  obtain ⟨rfl, rfl⟩ := h1
  have e0 : (s.heap.push { cls := .type "list", data := .seq #[] }).get? s.heap.objs.size = some { cls := .type "list", data := .seq #[] } := Heap.get?_push_size _ rfl
  refine ⟨⟨_, e0, rfl⟩, F.args_list_init_2 _ _, ?_⟩
  show wpAny _ A.in1.in1 (do let old ← Builtin.List.listItems (.ref s.heap.objs.size); Builtin.List.listUpdate (.ref s.heap.objs.size) (fun _ => #[]); letGo old.toList.reverse; Builtin.List.listExtendWith (.ref s.heap.objs.size) (.ref z) .none) _ _ _
  refine wpAny_bind ?_
  unfold Builtin.List.listItems
  refine wpAny_bind (wpAny_seqItems e0 rfl (wpAny_pure ?_))
  show wpAny _ _ (updateSeq s.heap.objs.size (fun _ => #[]) >>= fun _ => letGo (#[] : Array Value).toList.reverse >>= fun _ => Builtin.List.listExtendWith (.ref s.heap.objs.size) (.ref z) .none) _ _ _
  refine wpAny_bind (wpAny_updateSeq e0 rfl ?_)
  have e1 := Heap.get?_update_self (Obj.mapSeq (fun _ => (#[] : Array Value))) e0 rfl
  have zne : s.heap.objs.size ≠ z := Nat.ne_of_gt hzl
  have old : ∀ b o, s.heap.get? b = some o → ((s.heap.push { cls := .type "list", data := .seq #[] }).update s.heap.objs.size (Obj.mapSeq (fun _ => (#[] : Array Value)))).get? b = some o :=
    fun b o e => (Heap.get?_update_other _ _ (Nat.ne_of_gt (Heap.lt_size e))).trans (Heap.get?_push_of_some _ e)
  have hz1 : ZO ((s.heap.push { cls := .type "list", data := .seq #[] }).update s.heap.objs.size (Obj.mapSeq (fun _ => (#[] : Array Value)))) z TI TO := by
    obtain ⟨v0, b, e, r⟩ := hz
    exact ⟨v0, b, old _ _ e, r⟩
  refine wpAny_bind (wpAny_letGo ?_)
  generalize hh1 : (s.heap.push { cls := .type "list", data := .seq #[] }).update s.heap.objs.size (Obj.mapSeq (fun _ => (#[] : Array Value))) = g1 at *
  have hT : ({ s with heap := g1 } : Shared).TypeIs (.ref z) "zip" := zo_type (s := { s with heap := g1 }) hz1
  unfold Builtin.List.listExtendWith
  refine wpAny_bind (wpAny_typeOf hT ?_)
  have q1 : Builtin.List.listSameRef (.ref s.heap.objs.size) (.ref z) = false := by simp [Builtin.List.listSameRef, zne]
  have q2 : (Value.type "zip" == Value.type "list") = false := by decide
  have q3 : (Value.type "zip" == Value.type "tuple") = false := by decide
  simp only [q1, q2, q3, Bool.or_false, Bool.false_eq_true, if_false]
  refine wpAny_bind (zo_iter (s := { s with heap := g1 }) hz1 ?_)
  refine wpAny_bind (wpAny_holding ?_)
  unfold Builtin.List.listLengthHint
  refine wpAny_bind (wpAny_specialOf hT zip_nolen ?_)
  show wpAny _ _ (specialOf (Value.ref z) (Str.ofString "__length_hint__") >>= _) _ _ _
  refine wpAny_bind (wpAny_specialOf hT zip_nohint ?_)
  refine wpAny_pure ?_
  show wpAny _ _ (rule "list.extend.makes-room" >>= fun _ => Builtin.List.listTouch (.ref s.heap.objs.size) >>= fun _ => again (.builtin "list.extend.loop" ⟨[.ref s.heap.objs.size, .ref z, .none], []⟩)) _ _ _
  refine wpAny_bind (wpAny_rule ?_)
  refine wpAny_bind ?_
  show wpAny _ _ (updateSeq s.heap.objs.size (·.push .none) >>= fun _ => updateSeq s.heap.objs.size (·.pop)) _ _ _
  refine wpAny_bind (wpAny_updateSeq e1 rfl ?_)
  have e2 := Heap.get?_update_self (Obj.mapSeq (·.push Value.none)) e1 rfl
  refine wpAny_updateSeq (hz := by seq_fits) e2 rfl ?_
  have e3 := Heap.get?_update_self (Obj.mapSeq (·.pop)) e2 rfl
  refine wpAny_pure ⟨plainId_quiet F.plain_extend_loop _, ?_⟩
  refine h _ _ e3 fun b o e => ?_
  have nb : s.heap.objs.size ≠ b := Nat.ne_of_gt (Heap.lt_size e)
  exact (Heap.get?_update_other _ _ nb).trans ((Heap.get?_update_other _ _ nb).trans (old b o e))
end
end DL

-- part DL12
set_option Elab.async false
set_option linter.all false
set_option maxRecDepth 100000
set_option maxHeartbeats 1000000
/-! DL12: list(zip(..)) as a rule. -/
namespace DL
open PySem PySem.Spec PyProof.Rows L2 RZ
/-- zip of lists and tuples -/
def zipG (n : MV (List D)) : MV (List D) := bnd n fun xs => match xs with
  | [x, y] => match items x, items y with
    | some a, some b => ret (zipL a b)
    | _, _ => fun _ => none
  | _ => fun _ => none
theorem zipG_some {n : MV (List D)} {S S' : Sta} {ds : List D} (h : zipG n S = some (ds, S')) : ∃ x y a b, n S = some ([x, y], S') ∧ items x = some a ∧ items y = some b ∧ ds = zipL a b := by
  obtain ⟨xs, S1, e1, e2⟩ := bnd_some h
  match xs, e2 with
  | [x, y], e2 =>
    cases hx : items x with
    | none =>
      simp only [hx] at e2
      cases e2
    | some a =>
      cases hy : items y with
      | none =>
        simp only [hx, hy] at e2
        cases e2
      | some b =>
        simp only [hx, hy] at e2
        cases e2
        exact ⟨x, y, a, b, e1, hx, hy, rfl⟩
abbrev ZS (la : Bool) (it a : Addr) (its : List Value) (i : Nat) (h : Heap) : Prop := sIt la it a i h ∧ sHp la a its.toArray h
/-- a zip has been made -/
structure ZipV (X : Cx) (c : Fr) (pins : List (Addr × Obj)) (σ : L2.St) (F0 : Hp) (S1 : Sta) (xs ys : List D) (z TI TO i1 i2 a b : Addr) (la lb : Bool) (ia ib : List Value) (va vb : List V) (F1 H1 : Hp) (s' : Shared) : Prop where
  inv : Inv X pins σ H1 s'
  up : Same F0 F1
  rel : Rel X.K c F1 S1 σ H1
  qa : SqX la X.K F1 a va
  qb : SqX lb X.K F1 b vb
  da : DpAll X.K F1 va xs
  db : DpAll X.K F1 vb ys
  ra : Vals va ia
  rb : Vals vb ib
  sep : ZipSep2 z TI TO i1 i2 [i1, a] [i2, b]
  na : a ≠ i1
  nb : b ≠ i2
  st : ZSt z TI TO i1 i2 (ZS la i1 a ia) (ZS lb i2 b ib) 0 s'.heap
  fp : ∀ d ∈ [z, TI, TO, i1, i2], FpOk X pins H1 d
  pre : ∃ s0 h0, s' = { s0 with heap := h0 } ∧ Inv X pins σ H1 s0 ∧ (∀ b o, s0.heap.get? b = some o → h0.get? b = some o) ∧ (∀ d ∈ [z, TI, TO, i1, i2], s0.heap.objs.size ≤ d) ∧ a < s0.heap.objs.size ∧ b < s0.heap.objs.size
  obz : s'.heap.get? z = some (ZObj .none false TI TO)
  obt : IsTupOf2 s'.heap TO .none .none
  ob1 : s'.heap.get? i1 = some (sOb la a)
  ob2 : s'.heap.get? i2 = some (sOb lb b)
  nd : [z, TI, TO, i1, i2].Nodup
section
variable {X : Cx} {c : Fr} {e e2 : Expr} {n : MV (List D)} {pos p p2 pos2 : Pos}
theorem zip_eval {pins : List (Addr × Obj)} {σ : L2.St} {H F : Hp} {S S' : Sta} {s : Shared} {ds : List D} {Q : Value → Shared → Prop} (I : Inv X pins σ H s) (r : Rel X.K c F S σ H) (hz : zipG n S = some (ds, S')) (hg : Gl X "zip") (hm : X.mg "zip" = none) (ha : DL X c [e, e2] n)
    (hs : starEach [e, e2] X.env = (false, eval e X.env) :: starEach [e2] X.env) (hpl : (backTo pos (starEach [e2] X.env)).any (·.1) = false)
    (hQ : ∀ xs ys z TI TO i1 i2 a b la lb ia ib va vb F1 H1 s', ds = zipL xs ys → ZipV X c pins σ F S' xs ys z TI TO i1 i2 a b la lb ia ib va vb F1 H1 s' → Q (.ref z) s') :
    wpAny (model X.prog X.w) X.A (eval (.Call (.Name "zip" p) [e, e2] [] pos) X.env) Q X.xe s := by
  obtain ⟨x, y, xs, ys, e1, hx, hy, rfl⟩ := zipG_some hz
  refine Call_ (ld_blt I hg hm PyProof.Rows.boot_zip (PyProof.Rows.callWith_type1 (thn (ha.run pos pins s σ H (fun vs H1 => ∃ F1, Same F F1 ∧ Rel X.K c F1 S' σ H1 ∧ DpAll X.K F1 vs [x, y]) I ⟨F, S, r, [x, y], S', e1, fun F1 H1 vs s1 r1 d1 => ⟨F1, s1, r1, d1⟩⟩) fun us s1 ⟨vs, H1, I1, r1, F1, s1', r1', d1⟩ => ?_) hs hpl))
  obtain ⟨v, w, rfl, hv, hw⟩ := DpAll.two d1
  obtain ⟨la, a, va, rfl, qa, da⟩ := dp_side hv hx
  obtain ⟨lb, b, vb, rfl, qb, db⟩ := dp_side hw hy
  cases r1 with
  | cons r r' =>
    cases r' with
    | cons r2 r' =>
      cases r'
      cases r
      cases r2
      obtain ⟨ia, ra, ha'⟩ := inv_side I1 (sqX_up r1'.fh qa)
      obtain ⟨ib, rb, hb'⟩ := inv_side I1 (sqX_up r1'.fh qb)
      have hal := sHp_lt ha'
      have hbl := sHp_lt hb'
      refine zip_begins2 (s_begins la a ia.toArray) (s_begins lb b ib.toArray) ha' hb' fun h' hz' hTI hTO g1 g2 hsz hk => ?_
      have fresh5 : ∀ d, d ∈ [s1.heap.objs.size + 4, s1.heap.objs.size + 2, s1.heap.objs.size + 3, s1.heap.objs.size, s1.heap.objs.size + 1] → FpOk X pins H1 d := fun d hd => by
        have hle : s1.heap.objs.size ≤ d := by
          simp only [List.mem_cons, List.mem_nil_iff, or_false] at hd
          rcases hd with z | z | z | z | z <;> rw [z]
          · exact Nat.le_add_right _ _
          · exact Nat.le_add_right _ _
          · exact Nat.le_add_right _ _
          · exact Nat.le_refl _
          · exact Nat.le_add_right _ _
        exact I1.fpOk hle (I1.hok.fresh hle)
      have ne1 : a ≠ s1.heap.objs.size := Nat.ne_of_lt hal
      have ne2 : b ≠ s1.heap.objs.size + 1 := Nat.ne_of_lt (Nat.lt_succ_of_lt hbl)
      refine hQ xs ys _ _ _ _ _ a b la lb ia ib va vb F1 H1 { s1 with heap := h' } rfl ⟨I1.kept (t' := s1.toks) hk, s1', r1', qa, qb, da, db, ra, rb, zip_sep2 (N := s1.heap.objs.size) (fp1 := [a]) (fp2 := [b]) (fun d hd => ?_) (fun d hd => ?_), ne1, ne2, ⟨⟨_, _, hz', .inl rfl⟩, hTI, ⟨_, _, hTO⟩, ⟨sIt_new g1, sHp_keep ha' fun o e => hk _ _ e⟩, ⟨sIt_new g2, sHp_keep hb' fun o e => hk _ _ e⟩⟩, fresh5, ⟨s1, h', rfl, I1, hk, fun d hd => ?_, hal, hbl⟩, hz', hTO, g1, g2, ?_⟩
      · rw [List.mem_singleton.mp hd]
        exact hal
      · rw [List.mem_singleton.mp hd]
        exact hbl
      · simp only [List.mem_cons, List.mem_nil_iff, or_false] at hd
        rcases hd with z | z | z | z | z <;> rw [z]
        · exact Nat.le_add_right _ _
        · exact Nat.le_add_right _ _
        · exact Nat.le_add_right _ _
        · exact Nat.le_refl _
        · exact Nat.le_add_right _ _
      · have big : ∀ N : Nat, [N + 4, N + 2, N + 3, N, N + 1].Nodup := fun N => by simp
        exact big _
theorem zipL_at {xs ys : List D} {i : Nat} {d e : D} (h1 : xs[i]? = some d) (h2 : ys[i]? = some e) : (zipL xs ys)[i]? = some (.tuple [d, e]) := by
  unfold zipL
  rw [List.getElem?_zipWith, h1, h2]
/-- what the turn i of a zip gives -/
theorem zip_at {va : List V} {ia : List Value} {xs : List D} {K : PySem.W.Frag} {F : Hp} {i : Nat} {u : Value} (ra : Vals va ia) (da : DpAll K F va xs) (h : ia.toArray[i]? = some u) : ∃ v d, va[i]? = some v ∧ RelV v u ∧ xs[i]? = some d ∧ Dp K F v d := by
  have h' : ia[i]? = some u := by simpa using h
  have hi : i < va.length := by
    have := (List.getElem?_eq_some_iff.mp h').1
    rw [ra.length]
    exact this
  have hv : va[i]? = some va[i] := List.getElem?_eq_getElem hi
  obtain ⟨w, hw, rw'⟩ := ra.get hv
  rw [h'] at hw
  obtain ⟨d, hd, hdp⟩ := da.getV hv
  exact ⟨_, d, hv, Option.some.inj hw ▸ rw', hd, hdp⟩
def lstOf (m : MV (List D)) : MV D := bnd m fun xs => if xs.length ≤ 1000000 then ret (.list xs) else fun _ => none
theorem lstOf_some {m : MV (List D)} {S S' : Sta} {d : D} (h : lstOf m S = some (d, S')) : ∃ xs, m S = some (xs, S') ∧ d = .list xs ∧ xs.length ≤ 1000000 := by
  obtain ⟨xs, S1, e1, e2⟩ := bnd_some h
  by_cases z : xs.length ≤ 1000000
  · rw [if_pos z] at e2
    cases e2
    exact ⟨xs, e1, rfl, z⟩
  · rw [if_neg z] at e2
    cases e2
theorem dn_listZip (hc : X.calm = true) (hg : Gl X "list") (hm : X.mg "list" = none) (hg2 : Gl X "zip") (hm2 : X.mg "zip" = none) (ha : DL X c [e, e2] n)
    (hs : starEach [e, e2] X.env = (false, eval e X.env) :: starEach [e2] X.env := by rfl) (hpl : (backTo pos2 (starEach [e2] X.env)).any (·.1) = false := by rfl)
    (na : starEach [.Call (.Name "zip" p2) [e, e2] [] pos2] X.env = (false, eval (.Call (.Name "zip" p2) [e, e2] [] pos2) X.env) :: starEach [] X.env := by rfl) :
    DN X c (.Call (.Name "list" p) [.Call (.Name "zip" p2) [e, e2] [] pos2] [] pos) (lstOf (zipG n)) := by
  refine ⟨fun pins s σ H Q I h => ?_⟩
  obtain ⟨F, S, r, ys', S', e1, q⟩ := h
  obtain ⟨ds, e2', e3, hlen⟩ := lstOf_some e1
  cases e3
  refine Call_ (ld_blt I hg hm boot_list (PyProof.Rows.callWith_type1 (args_cons (zip_eval I r e2' hg2 hm2 ha hs hpl fun xs ys z TI TO i1 i2 a b la lb ia ib va vb F1 H1 s1 ed Z => args_nil ?_) na) na))
  subst ed
  have hh : X.A.handled = none := Z.inv.ok.hd hc
  have zl : z < s1.heap.objs.size := by
    obtain ⟨v0, b0, e0, _⟩ := Z.st.zo
    exact Heap.lt_size e0
  have lts : ∀ d ∈ z :: TI :: TO :: ([i1, a] ++ [i2, b]), d < s1.heap.objs.size := fun d hd => by
    obtain ⟨t1, t2⟩ := Z.st.s1
    obtain ⟨t3, t4⟩ := Z.st.s2
    obtain ⟨x1, x2, tO⟩ := Z.st.tO
    have D1 := s_draws (prog := X.prog) (w := X.w) (A := X.A) la hh i1 a Z.na ia.toArray
    have D2 := s_draws (prog := X.prog) (w := X.w) (A := X.A) lb hh i2 b Z.nb ib.toArray
    simp only [List.mem_cons, List.cons_append, List.nil_append, List.mem_nil_iff, or_false] at hd
    rcases hd with q | q | q | q | q | q | q <;> rw [q]
    · exact zl
    · exact Heap.lt_size Z.st.ti
    · exact Heap.lt_size tO
    · obtain ⟨_, e⟩ := D1.live _ _ Z.st.s1
      exact Heap.lt_size e
    · exact sHp_lt t2
    · obtain ⟨_, e⟩ := D2.live _ _ Z.st.s2
      exact Heap.lt_size e
    · exact sHp_lt t4
  refine list_zip_begin Z.st.zo fun h' c0 hS hk => ?_
  -- the list's address
  generalize hL : s1.heap.objs.size = L at *
  have hne : ∀ d ∈ z :: TI :: TO :: ([i1, a] ++ [i2, b]), d ≠ L := fun d hd => Nat.ne_of_lt (lts d hd)
  have hH1L : H1 L = none := Z.inv.hok.fresh (Nat.le_of_eq hL)
  have D1 := s_draws (prog := X.prog) (w := X.w) (A := X.A.in1.in1.in1) la hh i1 a Z.na ia.toArray
  have D2 := s_draws (prog := X.prog) (w := X.w) (A := X.A.in1.in1.in1) lb hh i2 b Z.nb ib.toArray
  have la_len : va.length = ia.length := Z.ra.length
  have lb_len : vb.length = ib.length := Z.rb.length
  have hla : xs.length = ia.length := by rw [← Z.da.len, la_len]
  have hlb : ys.length = ib.length := by rw [← Z.db.len, lb_len]
  have hzl : (zipL xs ys).length = min ia.toArray.size ib.toArray.size := by
    unfold zipL
    rw [List.length_zipWith, hla, hlb]
    simp
  have hsz := sizeLine_eq
  refine fill_loop (n := min ia.toArray.size ib.toArray.size) (by rw [← hzl]; omega)
    (fun i acc s => ∃ H' F' vs, Inv X pins σ (upd H' L (.lst vs)) s ∧ H' L = none ∧ Vals vs acc.toList ∧ Same F1 F' ∧ Rel X.K c F' S' σ H' ∧ DpAll X.K F' vs ((zipL xs ys).take i) ∧ ZSt z TI TO i1 i2 (ZS la i1 a ia) (ZS lb i2 b ib) i s.heap ∧ (∀ d ∈ [z, TI, TO, i1, i2], FpOk X pins (upd H' L (.lst vs)) d) ∧ vs.length = i)
    ?_ ?_ _ 0 _ #[] c0 rfl (Nat.zero_le _) ?_ rfl hS
  · rintro i acc s c1 E' hi ⟨H', F', vs, I', hHL, hv, sF, r', dv, st, hf, hvl⟩ hS'
    have ltL : L < s.heap.objs.size := Heap.lt_size hS'
    refine zg_pyNext Z.sep D1 D2 st (by omega) (by omega) fun x1 x2 h2 tk p1 p2 st2 tup sz fr => ⟨_, rfl, ⟨c1, ?_⟩, ?_⟩
    · exact fr L _ (Ne.symm (hne z (by simp))) (Ne.symm (hne TO (by simp))) (Ne.symm (hne i1 (by simp))) (Ne.symm (hne i2 (by simp))) hS'
    · obtain ⟨v1, d1, g1, g2, g3, g4⟩ := zip_at Z.ra Z.da p1
      obtain ⟨v2, d2, k1, k2, k3, k4⟩ := zip_at Z.rb Z.db p2
      generalize hT : s.heap.objs.size = T at *
      have TL : T ≠ L := Nat.ne_of_gt ltL
      have hfT : (upd H' L (.lst vs)) T = none := I'.hok.fresh (Nat.le_of_eq hT)
      have hHT : H' T = none := by
        rw [upd_ne TL] at hfT
        exact hfT
      have new : ObjOk X.prog X.w (upd (upd H' L (.lst vs)) T (.tup [v1, v2])) h2 T (.tup [v1, v2]) := ⟨by show 2 ≤ sizeLine; omega, [x1, x2], .cons g2 (.cons k2 .nil), ⟨_, tup, rfl, _, rfl⟩⟩
      have I2 : Inv X pins σ (upd (upd H' L (.lst vs)) T (.tup [v1, v2])) { s with heap := h2, toks := tk } :=
        I'.turnedNew (t' := tk) (ch := [z, TI, TO, i1, i2]) (fun d o hb w => fr d o (fun w' => hb (by simp [w'])) (fun w' => hb (by simp [w'])) (fun w' => hb (by simp [w'])) (fun w' => hb (by simp [w'])) w) hf (Nat.le_of_eq hT) new
      have eL : h2.get? L = some { cls := .type "list", data := .seq acc.toList.toArray c1 } := by
        have := fr L _ (Ne.symm (hne z (by simp))) (Ne.symm (hne TO (by simp))) (Ne.symm (hne i1 (by simp))) (Ne.symm (hne i2 (by simp))) hS'
        simpa using this
      have hHL2 : (upd (upd H' L (.lst vs)) T (.tup [v1, v2])) L = some (.lst vs) := by rw [upd_ne (Ne.symm TL), upd_same]
      have hzi : i < (zipL xs ys).length := by rw [hzl]; exact hi
      have I3 := I2.lset (t' := tk) (f := fun q => q.push (.ref T)) (its' := acc.toList ++ [.ref T]) (ys := vs ++ [.ref T]) hHL2 eL (by rw [Array.toArray_toList]; apply Array.ext'; simp) (hv.append (Paired.cons (show RelV (V.ref T) (Value.ref T) from rfl) Paired.nil)) (by rw [List.length_append, List.length_singleton]; omega)
      have eH : upd (upd (upd H' L (.lst vs)) T (.tup [v1, v2])) L (.lst (vs ++ [.ref T])) = upd (upd H' T (.tup [v1, v2])) L (.lst (vs ++ [.ref T])) := by
        funext d
        by_cases hd : d = L
        · rw [hd, upd_same, upd_same]
        · rw [upd_ne hd, upd_ne hd]
          by_cases hd2 : d = T
          · rw [hd2, upd_same, upd_same]
          · rw [upd_ne hd2, upd_ne hd2, upd_ne hd]
      rw [eH] at I3
      have fT := r'.fh.free hHT
      refine ⟨upd H' T (.tup [v1, v2]), upd F' T (.tup [v1, v2]), vs ++ [.ref T], I3, by rw [upd_ne (Ne.symm TL)]; exact hHL, ?_, sF.trans (upd_up fT), r'.alloc hHT, ?_, ?_, fun d hd => ⟨?_, (hf d hd).2⟩, by rw [List.length_append, hvl, List.length_singleton]⟩
      · have := hv.append (Paired.cons (show RelV (V.ref T) (Value.ref T) from rfl) Paired.nil)
        simpa using this
      · have et : (zipL xs ys).take (i + 1) = (zipL xs ys).take i ++ [.tuple [d1, d2]] := by
          rw [List.take_add_one, zipL_at g3 k3]
          rfl
        rw [et]
        have up := upd_up (o := .tup [v1, v2]) fT
        exact DpAll.append (DpAll.up up _ _ dv) (.cons (.tup (.inl (.inl upd_same)) (.cons (Dp.up (sF.trans up) _ _ g4) (.cons (Dp.up (sF.trans up) _ _ k4) .nil))) .nil)
      · exact st2.keep D1 D2 fun d hd o ed => (Heap.get?_update_other _ _ (Ne.symm (hne d hd))).trans ed
      · have hd5 := (hf d hd).1
        have hdL : d ≠ L := fun w => by
          rw [w, upd_same] at hd5
          cases hd5
        have hdT : d ≠ T := fun w => by
          have : d < L := lts d (by
            simp only [List.mem_cons, List.mem_nil_iff, or_false] at hd
            simp only [List.mem_cons, List.cons_append, List.nil_append, List.mem_nil_iff, or_false]
            rcases hd with q | q | q | q | q <;> simp [q])
          rw [w] at this
          exact absurd ltL (Nat.not_lt.mpr (Nat.le_of_lt this))
        rw [upd_ne hdL, upd_ne hdT]
        rw [upd_ne hdL] at hd5
        exact hd5
  · rintro acc s c1 E' ⟨H', F', vs, I', hHL, hv, sF, r', dv, st, hf, hvl⟩ hS'
    refine zg_pyEnd Z.sep D1 D2 st (by omega) (by omega) (by omega) fun h2 tk fr => ⟨rfl, ?_⟩
    have I2 : Inv X pins σ (upd H' L (.lst vs)) { s with heap := h2, toks := tk } := I'.turnedL (t' := tk) (ch := [z, TI, TO, i1, i2]) (fun d o hb w => fr d o (fun w' => hb (by simp [w'])) (fun w' => hb (by simp [w'])) (fun w' => hb (by simp [w'])) (fun w' => hb (by simp [w'])) w) hf
    obtain ⟨g1, g2, g3, g4⟩ := r'.fresh0 hHL
    rw [List.take_of_length_le (Nat.le_of_eq hzl)] at dv
    exact ⟨rfl, .ref L, _, I2, rfl, q F' _ L vs (Z.up.trans sF) (r'.junk hHL) g2 g1 g4 upd_same dv⟩
  · refine ⟨H1, F1, [], ?_, hH1L, .nil, Same.refl F1, Z.rel, .nil, Z.st.keep D1 D2 fun d _ o ed => hk d o ed, fun d hd => ⟨?_, (Z.fp d hd).2⟩, rfl⟩
    · exact Z.inv.laid (t' := s1.toks) hk (Nat.le_of_eq hL) ⟨by show 0 ≤ sizeLine; omega, [], c0, .nil, hS⟩
    · have hdL : d ≠ L := hne d (by
        simp only [List.mem_cons, List.mem_nil_iff, or_false] at hd
        simp only [List.mem_cons, List.cons_append, List.nil_append, List.mem_nil_iff, or_false]
        rcases hd with q | q | q | q | q <;> simp [q])
      rw [upd_ne hdL]
      exact (Z.fp d hd).1
theorem de_listZip (hc : X.calm = true) (hg : Gl X "list") (hm : X.mg "list" = none) (hg2 : Gl X "zip") (hm2 : X.mg "zip" = none) (ha : DL X c [e, e2] n)
    (hs : starEach [e, e2] X.env = (false, eval e X.env) :: starEach [e2] X.env := by rfl) (hpl : (backTo pos2 (starEach [e2] X.env)).any (·.1) = false := by rfl)
    (na : starEach [.Call (.Name "zip" p2) [e, e2] [] pos2] X.env = (false, eval (.Call (.Name "zip" p2) [e, e2] [] pos2) X.env) :: starEach [] X.env := by rfl) :
    DE X c (.Call (.Name "list" p) [.Call (.Name "zip" p2) [e, e2] [] pos2] [] pos) (lstOf (zipG n)) :=
  pe_imp (dn_listZip hc hg hm hg2 hm2 ha hs hpl na) fun σ H Q h => tN_tD (fun S d S' e => by
    obtain ⟨xs, _, h, _⟩ := lstOf_some e
    exact ⟨xs, h⟩) h
end
end DL

-- part DL13
set_option Elab.async false
set_option linter.all false
set_option maxRecDepth 100000
set_option maxHeartbeats 1000000
/-! DL13: enumerate over what draws in any way; a turn of enumerate(zip(..)), of enumerate(list or tuple). -/
namespace DL
open PySem PySem.Spec PyProof.Rows L2 RZ
section
variable {prog : Program} {w : World} {A : Around} {E : Value → Shared → Prop} {s : Shared} {e it : Addr}
theorem eg_item {k : Int} {old : Value} {R : Value → Heap → Nat → Prop} {Q : Value → Shared → Prop} (he : IsEnum s.heap e it k old)
    (draw : ∀ (Q1 : Value → Shared → Prop) (E1 : Value → Shared → Prop), (∀ x g1 tk, R x g1 tk → IsEnum g1 e it k old → Q1 x { s with heap := g1, toks := tk }) → wpAny (model prog w) A (Builtin.SmallTypes.nextOf (.ref it)) Q1 E1 s)
    (hQ : ∀ x g1 h' tk, R x g1 tk → IsEnumOut h' e it (k + 1) x g1.objs.size → h'.get? g1.objs.size = some { cls := .type "tuple", data := .seq #[.int k tk, x] } → h'.objs.size = g1.objs.size + 1 →
      (∀ b o, b ≠ e → g1.get? b = some o → h'.get? b = some o) → Q (.ref g1.objs.size) { s with heap := h', toks := tk + 1 }) :
    wpAny (model prog w) A (Builtin.«enumerate.__next__» ⟨[.ref e], []⟩) (fun fin s' => ∃ v, fin = .done (.ret v) ∧ Q v s') E s := by
  obtain ⟨hp, g, d, tk0, os⟩ := s
  show wpAny _ _ (field (.ref e) 2 >>= _) _ _ _
  refine wpAny_bind (wpAny_field he rfl (x := .ref it) rfl ?_)
  refine wpAny_bind (draw _ _ fun x g1 tk hR e1 => ?_)
  show wpAny _ _ (field (.ref e) 3 >>= _) _ _ ⟨g1, g, d, tk, os⟩
  refine wpAny_bind (wpAny_field e1 rfl (x := rawInt k) rfl ?_)
  show wpAny _ _ (field (.ref e) 4 >>= _) _ _ ⟨g1, g, d, tk, os⟩
  refine wpAny_bind (wpAny_field e1 rfl (x := .none) rfl ?_)
  show wpAny _ _ (mkInt k >>= _) _ _ ⟨g1, g, d, tk, os⟩
  refine wpAny_bind (wpAny_mkInt ?_)
  show wpAny _ _ (setField (.ref e) 3 (rawInt (k + 1)) >>= _) _ _ ⟨g1, g, d, tk + 1, os⟩
  refine wpAny_bind (wpAny_setField_rec e1 (by simp) fun g2 e2 k2 => ?_)
  replace k2 : Heap.SameBut e g1 g2 := k2
  replace e2 : IsEnum g2 e it (k + 1) old := e2
  show wpAny _ _ (setField (.ref e) 4 .none >>= _) _ _ ⟨g2, g, d, tk + 1, os⟩
  refine wpAny_bind (wpAny_setField_rec e2 (by simp) fun g3 e3 k3 => ?_)
  replace k3 : Heap.SameBut e g2 g3 := k3
  replace e3 : IsEnum g3 e it (k + 1) old := e3
  show wpAny _ _ (newTuple [.int k tk, x] >>= _) _ _ ⟨g3, g, d, tk + 1, os⟩
  refine wpAny_bind (wpAny_newTuple ?_)
  have e4 : IsEnum (g3.push { cls := .type "tuple", data := .seq #[.int k tk, x] }) e it (k + 1) old := Heap.get?_push_of_some _ e3
  have sz3 : g3.objs.size = g1.objs.size := by rw [k3.1, k2.1]
  have el : e < g1.objs.size := Heap.lt_size e1
  have t4 : (g3.push { cls := .type "tuple", data := .seq #[.int k tk, x] }).get? g1.objs.size = some { cls := .type "tuple", data := .seq #[.int k tk, x] } := by
    rw [← sz3]
    exact Heap.get?_push_size _ rfl
  have z4 : (g3.push { cls := .type "tuple", data := .seq #[.int k tk, x] }).objs.size = g1.objs.size + 1 := by rw [Heap.size_push, sz3]
  have up4 : ∀ b o, b ≠ e → g1.get? b = some o → (g3.push { cls := .type "tuple", data := .seq #[.int k tk, x] }).get? b = some o := fun b o nb hb => Heap.get?_push_of_some _ (k3.extBut b o nb (k2.extBut b o nb hb))
  generalize hg4 : g3.push { cls := .type "tuple", data := .seq #[.int k tk, x] } = g4 at e4 t4 z4 up4
  show wpAny _ _ (Builtin.SmallTypes.ownedTupleIsFree (.ref e) >>= _) _ _ ⟨g4, g, d, tk + 1, os⟩
  rw [sz3]
  refine wpAny_bind ?_
  unfold Builtin.SmallTypes.ownedTupleIsFree
  refine wpAny_bind (wpAny_field e4 rfl (x := .none) rfl (wpAny_pure ?_))
  simp only [if_true]
  refine wpAny_bind (wpAny_rule ?_)
  refine wpAny_bind (wpAny_field e4 rfl (x := old) rfl ?_)
  refine wpAny_bind (wpAny_setField_rec e4 (by simp) fun g5 e5 k5 => ?_)
  replace k5 : Heap.SameBut e g4 g5 := k5
  replace e5 : IsEnum g5 e it (k + 1) x := e5
  show wpAny _ _ (Builtin.SmallTypes.ownedTupleHandOut (.ref e) (.ref g1.objs.size) >>= _) _ _ ⟨g5, g, d, tk + 1, os⟩
  refine wpAny_bind ?_
  unfold Builtin.SmallTypes.ownedTupleHandOut
  refine wpAny_bind (wpAny_setField_rec e5 (by simp) fun g6 e6 k6 => ?_)
  replace k6 : Heap.SameBut e g5 g6 := k6
  replace e6 : IsEnumOut g6 e it (k + 1) x g1.objs.size := e6
  refine wpAny_setField_rec e6 (by simp) fun g7 e7 k7 => ?_
  replace k7 : Heap.SameBut e g6 g7 := k7
  replace e7 : IsEnumOut g7 e it (k + 1) x g1.objs.size := e7
  have ne : g1.objs.size ≠ e := Nat.ne_of_gt el
  refine wpAny_bind (wpAny_letGo (wpAny_pure ⟨_, rfl, hQ x g1 g7 tk hR e7 ?_ ?_ ?_⟩))
  · exact k7.extBut _ _ ne (k6.extBut _ _ ne (k5.extBut _ _ ne t4))
  · rw [k7.1, k6.1, k5.1, z4]
  · exact fun b o nb hb => k7.extBut b o nb (k6.extBut b o nb (k5.extBut b o nb (up4 b o nb hb)))
theorem eg_next {k : Int} {old : Value} {R : Value → Heap → Nat → Prop} {Q : Option Value → Shared → Prop} (he : IsEnum s.heap e it k old)
    (draw : ∀ (Q1 : Value → Shared → Prop) (E1 : Value → Shared → Prop), (∀ x g1 tk, R x g1 tk → IsEnum g1 e it k old → Q1 x { s with heap := g1, toks := tk }) → wpAny (model prog w) A.in1 (Builtin.SmallTypes.nextOf (.ref it)) Q1 E1 s)
    (hQ : ∀ x g1 h' tk, R x g1 tk → IsEnumOut h' e it (k + 1) x g1.objs.size → h'.get? g1.objs.size = some { cls := .type "tuple", data := .seq #[.int k tk, x] } → h'.objs.size = g1.objs.size + 1 →
      (∀ b o, b ≠ e → g1.get? b = some o → h'.get? b = some o) → Q (some (.ref g1.objs.size)) { s with heap := h', toks := tk + 1 }) :
    wpAny (model prog w) A (pyNext (.ref e)) Q E s := by
  have hT : s.TypeIs (.ref e) "enumerate" := ⟨_, he, rfl⟩
  unfold pyNext
  exact wpAny_bind (wpAny_attempt (wpAny_callSpecial?_slot (name := Str.ofString "__next__") hT F.slot_enumerate_next
    (wpAny_call_entry F.slot_enumerate_next hT F.entry_enumerate_next (eg_item he draw fun a b c d f g h i j => wpAny_pure (hQ a b c d f g h i j)) (F.args_enumerate_next_1 _))))
theorem eg_end {k : Int} {old : Value} {Q : Option Value → Shared → Prop} (he : IsEnum s.heap e it k old)
    (stop : ∀ (Q1 : Value → Shared → Prop) (E1 : Value → Shared → Prop), (∀ h' tk x, (∃ o, h'.get? x = some o ∧ o.cls = .type "StopIteration") → Q none { s with heap := h', toks := tk } → E1 (.ref x) { s with heap := h', toks := tk }) → wpAny (model prog w) A.in1 (Builtin.SmallTypes.nextOf (.ref it)) Q1 E1 s) :
    wpAny (model prog w) A (pyNext (.ref e)) Q E s := by
  have hT : s.TypeIs (.ref e) "enumerate" := ⟨_, he, rfl⟩
  unfold pyNext
  refine wpAny_bind (wpAny_attempt (wpAny_callSpecial?_slot (name := Str.ofString "__next__") hT F.slot_enumerate_next
    (wpAny_call_entry F.slot_enumerate_next hT F.entry_enumerate_next ?_ (F.args_enumerate_next_1 _))))
  show wpAny _ _ (field (.ref e) 2 >>= _) _ _ _
  refine wpAny_bind (wpAny_field he rfl (x := .ref it) rfl ?_)
  refine wpAny_bind (stop _ _ fun h' tk x hx hq => ?_)
  obtain ⟨o, ho, hc⟩ := hx
  exact wpAny_bind (wpAny_isInstance (T := "StopIteration") (b := true) ⟨o, ho, hc⟩ isSubtype_stop (wpAny_pure hq))
theorem zg_nextEnd {z TI TO i1 i2 : Addr} {fp1 fp2 : List Addr} {n1 n2 i : Nat} {P1 P2 : Nat → Value → Prop} {St1 St2 : Nat → Heap → Prop} {Q : Value → Shared → Prop} (S : ZipSep2 z TI TO i1 i2 fp1 fp2) (D1 : Draws prog w A.in1 i1 fp1 n1 P1 St1) (D2 : Draws prog w A.in1 i2 fp2 n2 P2 St2)
    (st : ZSt z TI TO i1 i2 St1 St2 i s.heap) (l1 : i ≤ n1) (l2 : i ≤ n2) (hend : i = n1 ∨ i = n2)
    (hE : ∀ h' tk e, (∀ c o, c ≠ z → c ≠ TO → c ≠ i1 → c ≠ i2 → s.heap.get? c = some o → h'.get? c = some o) → (∃ o, h'.get? e = some o ∧ o.cls = .type "StopIteration") → E (.ref e) { s with heap := h', toks := tk }) :
    wpAny (model prog w) A (Builtin.SmallTypes.nextOf (.ref z)) Q E s := by
  have hT := zo_type (s := s) st.zo
  unfold Builtin.SmallTypes.nextOf
  exact wpAny_bind (wpAny_callSpecial?_slot (name := Str.ofString "__next__") hT F.slot_zip_next
    (wpAny_call_entry F.slot_zip_next hT F.entry_zip_next (zg_end S D1 D2 st l1 l2 hend hE) (F.args_zip_next_1 _)))
end
theorem sqX_inj {X : Cx} {pins : List (Addr × Obj)} {σ : L2.St} {H : Hp} {s : Shared} {l : Bool} {a : Addr} {xs ys : List V} (I : Inv X pins σ H s) (h : SqX l X.K H a xs) (h' : SqX l X.K H a ys) : xs = ys := by
  cases l with
  | true => exact I.list_inj h h'
  | false => exact I.tuple_inj h h'
theorem sIt_obj {l : Bool} {it a : Addr} {i : Nat} {h : Heap} (x : sIt l it a i h) : ∃ o, h.get? it = some o ∧ ∀ v, o.data ≠ .cell v := by
  cases l with
  | true =>
    obtain ⟨o, e, _, d⟩ := x
    exact ⟨o, e, fun v q => by rw [d] at q; cases q⟩
  | false =>
    obtain ⟨o, e, _, d⟩ := x
    exact ⟨o, e, fun v q => by rw [d] at q; cases q⟩
/-- enumerate(zip(a, b)): each turn a new pair in a new pair -/
def Itez (la lb : Bool) (K : PySem.W.Frag) (a b : Addr) : It :=
  ⟨fun i H => ∃ (xs ys : List V) (x y : V), SqX la K H a xs ∧ SqX lb K H b ys ∧ xs[i]? = some x ∧ ys[i]? = some y,
   fun i H v H' => ∃ (T T2 : Addr) (x y : V), v = .ref T ∧ H T = none ∧ H T2 = none ∧ T ≠ T2 ∧ H' = upd (upd H T2 (.tup [x, y])) T (.tup [.int (i : Nat), .ref T2]) ∧ (∀ xs, SqX la K H a xs → xs[i]? = some x) ∧ ∀ ys, SqX lb K H b ys → ys[i]? = some y,
   fun i H => ∃ xs ys : List V, SqX la K H a xs ∧ SqX lb K H b ys ∧ i ≤ xs.length ∧ i ≤ ys.length ∧ (i = xs.length ∨ i = ys.length)⟩
abbrev EZn (e z TI TO i1 i2 a b : Addr) (la lb : Bool) (i : Nat) (h : Heap) : Prop := (∃ old, IsEnum h e z ((i : Nat) : Int) old) ∧ ZSt z TI TO i1 i2 (fun i h => sIt la i1 a i h) (fun i h => sIt lb i2 b i h) i h
theorem turn_ez {P : Program} {w : World} {K : PySem.W.Frag} {elts : List Expr} {kk : Nat} {tpos : Pos} {e z TI TO i1 i2 a b : Addr} {la lb : Bool} (S : ZipSep2 z TI TO i1 i2 [i1, a] [i2, b]) (na : a ≠ i1) (nb : b ≠ i2) (ne : ∀ d ∈ [z, TI, TO, i1, i2, a, b], e ≠ d) :
    Turn P w K (.Tuple elts kk tpos) (Itez la lb K a b) [e, z, TI, TO, i1, i2] e (EZn e z TI TO i1 i2 a b la lb) where
  mem := by simp
  obj := fun i h st d hd => by
    obtain ⟨⟨old, he⟩, ⟨⟨v0, b0, hz, _⟩, ti, ⟨a1, a2, tO⟩, s1, s2⟩⟩ := st
    simp only [List.mem_cons, List.mem_nil_iff, or_false] at hd
    rcases hd with q | q | q | q | q | q <;> rw [q]
    · exact ⟨_, he, fun v q => nomatch q⟩
    · exact ⟨_, hz, fun v q => nomatch q⟩
    · exact ⟨_, ti, fun v q => nomatch q⟩
    · exact ⟨_, tO, fun v q => nomatch q⟩
    · exact sIt_obj s1
    · exact sIt_obj s2
  keep := fun i h h' st k => by
    obtain ⟨⟨old, he⟩, ⟨⟨v0, b0, hz, hv⟩, ti, ⟨a1, a2, tO⟩, s1, s2⟩⟩ := st
    exact ⟨⟨old, k e (by simp) _ he⟩, ⟨⟨v0, b0, k z (by simp) _ hz, hv⟩, k TI (by simp) _ ti, ⟨a1, a2, k TO (by simp) _ tO⟩, sIt_keep s1 (k i1 (by simp)), sIt_keep s2 (k i2 (by simp))⟩⟩
  item := by
    intro X hP hw hK hc i pins s σ H E I hf st hg
    subst hP hw hK
    obtain ⟨⟨old, he⟩, st⟩ := st
    obtain ⟨xs, ys, x, y, qx, qy, hx, hy⟩ := hg
    obtain ⟨ia, ra, pa⟩ := inv_side I qx
    obtain ⟨ib, rb, pb⟩ := inv_side I qy
    obtain ⟨u, hu, ru⟩ := ra.get hx
    obtain ⟨u2, hu2, ru2⟩ := rb.get hy
    have hh : X.A.handled = none := I.ok.hd hc
    have D1 := s_draws (prog := X.prog) (w := X.w) (A := X.A.in1.in1) la hh i1 a na ia.toArray
    have D2 := s_draws (prog := X.prog) (w := X.w) (A := X.A.in1.in1) lb hh i2 b nb ib.toArray
    have st' : ZSt z TI TO i1 i2 (ZS la i1 a ia) (ZS lb i2 b ib) i s.heap := ⟨st.zo, st.ti, st.tO, ⟨st.s1, pa⟩, ⟨st.s2, pb⟩⟩
    have ltF : ∀ d ∈ [e, z, TI, TO, i1, i2], d < s.heap.objs.size := fun d hd => by
      obtain ⟨⟨v0, b0, hz, _⟩, ti, ⟨a1, a2, tO⟩, s1, s2⟩ := st
      obtain ⟨_, g1, _⟩ := sIt_obj s1
      obtain ⟨_, g2, _⟩ := sIt_obj s2
      simp only [List.mem_cons, List.mem_nil_iff, or_false] at hd
      rcases hd with q | q | q | q | q | q <;> rw [q]
      · exact Heap.lt_size he
      · exact Heap.lt_size hz
      · exact Heap.lt_size ti
      · exact Heap.lt_size tO
      · exact Heap.lt_size g1
      · exact Heap.lt_size g2
    have li : i < ia.toArray.size := by
      have := (List.getElem?_eq_some_iff.mp hu).1
      simpa using this
    have li2 : i < ib.toArray.size := by
      have := (List.getElem?_eq_some_iff.mp hu2).1
      simpa using this
    refine eg_next (R := fun v g1 tk => v = .ref s.heap.objs.size ∧ ZSt z TI TO i1 i2 (ZS la i1 a ia) (ZS lb i2 b ib) (i + 1) g1 ∧ IsTupOf2 g1 s.heap.objs.size u u2 ∧ g1.objs.size = s.heap.objs.size + 1 ∧ (∀ c o, c ≠ z → c ≠ TO → c ≠ i1 → c ≠ i2 → s.heap.get? c = some o → g1.get? c = some o)) he (fun Q1 E1 hq => ?_) fun v g1 h' tk hR eo tup sz fr => ?_
    · refine zg_nextOf S D1 D2 st' li li2 fun x1 x2 g1 tk p1 p2 st2 tp sz fr => ?_
      have e1 : x1 = u := by
        have p1' : ia[i]? = some x1 := by simpa using p1
        rw [hu] at p1'
        exact (Option.some.inj p1').symm
      have e2 : x2 = u2 := by
        have p2' : ib[i]? = some x2 := by simpa using p2
        rw [hu2] at p2'
        exact (Option.some.inj p2').symm
      subst e1 e2
      exact hq _ g1 tk ⟨rfl, st2, tp, sz, fr⟩ (fr e _ (ne z (by simp)) (ne TO (by simp)) (ne i1 (by simp)) (ne i2 (by simp)) he)
    · obtain ⟨rfl, st2, tp, sz1, fr1⟩ := hR
      refine ⟨_, rfl, wpAny_letOwnedTupleGo_enum (s := { s with heap := h', toks := tk + 1 }) eo fun h'' he' sb => ?_⟩
      have el : e < s.heap.objs.size := Heap.lt_size he
      have T1ne : g1.objs.size ≠ e := by
        rw [sz1]
        exact Nat.ne_of_gt (Nat.lt_succ_of_lt el)
      have T2ne : s.heap.objs.size ≠ e := Nat.ne_of_gt el
      generalize hT2 : s.heap.objs.size = T2 at *
      generalize hT1 : g1.objs.size = T at *
      have TT : T ≠ T2 := by
        rw [sz1]
        exact Nat.succ_ne_self _
      have tupT : h''.get? T = some { cls := .type "tuple", data := .seq #[.int (i : Int) tk, .ref T2] } := (sb.2 _ T1ne).trans tup
      have tupT2 : h''.get? T2 = some { cls := .type "tuple", data := .seq #[u, u2] } := (sb.2 _ T2ne).trans (fr _ _ T2ne tp)
      have f2 : H T2 = none := I.hok.fresh (Nat.le_of_eq hT2)
      have f1 : H T = none := I.hok.fresh (by rw [hT2, sz1]; exact Nat.le_succ _)
      have keep1 : ∀ d o, d ∉ [e, z, TI, TO, i1, i2] → s.heap.get? d = some o → g1.get? d = some o := fun d o nd ed =>
        fr1 d o (fun q => nd (by simp [q])) (fun q => nd (by simp [q])) (fun q => nd (by simp [q])) (fun q => nd (by simp [q])) ed
      have new2 : ObjOk X.prog X.w (upd H T2 (.tup [x, y])) g1 T2 (.tup [x, y]) := ⟨by show 2 ≤ sizeLine; decide, [u, u2], .cons ru (.cons ru2 .nil), ⟨_, tp, rfl, _, rfl⟩⟩
      have I1 : Inv X pins σ (upd H T2 (.tup [x, y])) { s with heap := g1, toks := tk } := I.turnedNew (t' := tk) (ch := [e, z, TI, TO, i1, i2]) keep1 hf (Nat.le_of_eq hT2) new2
      have hf1 : ∀ d ∈ [e, z, TI, TO, i1, i2], FpOk X pins (upd H T2 (.tup [x, y])) d := fun d hd => by
        refine ⟨?_, (hf d hd).2⟩
        rw [upd_ne (Nat.ne_of_lt (ltF d hd))]
        exact (hf d hd).1
      have keep2 : ∀ d o, d ∉ [e, z, TI, TO, i1, i2] → g1.get? d = some o → h''.get? d = some o := fun d o nd ed => by
        have n1 : d ≠ e := fun q => nd (by simp [q])
        exact (sb.2 _ n1).trans (fr _ _ n1 ed)
      have new1 : ObjOk X.prog X.w (upd (upd H T2 (.tup [x, y])) T (.tup [.int (i : Nat), .ref T2])) h'' T (.tup [.int (i : Nat), .ref T2]) :=
        ⟨by show 2 ≤ sizeLine; decide, [.int (i : Int) tk, .ref T2], .cons ⟨_, rfl⟩ (.cons (show RelV (V.ref T2) (Value.ref T2) from rfl) .nil), ⟨_, tupT, rfl, _, rfl⟩⟩
      refine ⟨.ref T, upd (upd H T2 (.tup [x, y])) T (.tup [.int (i : Nat), .ref T2]), ?_, rfl, ⟨T, T2, x, y, rfl, f1, f2, TT, rfl, fun l hl => by rw [sqX_inj I hl qx]; exact hx, fun l hl => by rw [sqX_inj I hl qy]; exact hy⟩, ⟨⟨.ref T2, ?_⟩, ?_⟩, fun d hd => ?_⟩
      · exact I1.turnedNew (t' := tk + 1) (ch := [e, z, TI, TO, i1, i2]) keep2 hf1 (Nat.le_of_eq hT1) new1
      · have e1 : ((i + 1 : Nat) : Int) = (i : Int) + 1 := by omega
        rw [e1]
        exact he'
      · have q2 : ZSt z TI TO i1 i2 (fun i h => sIt la i1 a i h) (fun i h => sIt lb i2 b i h) (i + 1) g1 := ⟨st2.zo, st2.ti, st2.tO, st2.s1.1, st2.s2.1⟩
        obtain ⟨⟨v0, b0, hz, hv⟩, ti, ⟨a1, a2, tO⟩, s1, s2⟩ := q2
        have k : ∀ d ∈ [z, TI, TO, i1, i2], ∀ o, g1.get? d = some o → h''.get? d = some o := fun d hd o ed => by
          have n1 : d ≠ e := Ne.symm (ne d (by
            simp only [List.mem_cons, List.mem_nil_iff, or_false] at hd ⊢
            rcases hd with q | q | q | q | q <;> simp [q]))
          exact (sb.2 _ n1).trans (fr _ _ n1 ed)
        exact ⟨⟨v0, b0, k z (by simp) _ hz, hv⟩, k TI (by simp) _ ti, ⟨a1, a2, k TO (by simp) _ tO⟩, sIt_keep s1 (k i1 (by simp)), sIt_keep s2 (k i2 (by simp))⟩
      · have hlt := ltF d hd
        have n1 : d ≠ T := Nat.ne_of_lt (by
          rw [sz1]
          exact Nat.lt_succ_of_lt hlt)
        rw [upd_ne n1]
        exact (hf1 d hd).1
  done := by
    intro X hP hw hK hc i pins s σ H E I hf st hg
    subst hP hw hK
    obtain ⟨⟨old, he⟩, st⟩ := st
    obtain ⟨xs, ys, qx, qy, hend⟩ := hg
    obtain ⟨ia, ra, pa⟩ := inv_side I qx
    obtain ⟨ib, rb, pb⟩ := inv_side I qy
    have hh : X.A.handled = none := I.ok.hd hc
    have st' : ZSt z TI TO i1 i2 (ZS la i1 a ia) (ZS lb i2 b ib) i s.heap := ⟨st.zo, st.ti, st.tO, ⟨st.s1, pa⟩, ⟨st.s2, pb⟩⟩
    have l1 : xs.length = ia.toArray.size := by simpa using ra.length
    have l2 : ys.length = ib.toArray.size := by simpa using rb.length
    obtain ⟨h1, h2, h3⟩ := hend
    have D1 := s_draws (prog := X.prog) (w := X.w) (A := X.A.in1.in1) la hh i1 a na ia.toArray
    have D2 := s_draws (prog := X.prog) (w := X.w) (A := X.A.in1.in1) lb hh i2 b nb ib.toArray
    refine eg_end he fun Q1 E1 hq => zg_nextEnd S D1 D2 st' (by omega) (by omega) (by omega) fun h' tk x fr hx => hq h' tk x hx ⟨rfl, ?_⟩
    exact I.turnedL (t' := tk) (ch := [e, z, TI, TO, i1, i2]) (fun d o nd ed => fr d o (fun q => nd (by simp [q])) (fun q => nd (by simp [q])) (fun q => nd (by simp [q])) (fun q => nd (by simp [q])) ed) hf
  self := fun A i s Q E st h => let ⟨⟨_, he⟩, _⟩ := st; wpAny_pyIter_enum he h
end DL

-- part DL14
set_option Elab.async false
set_option linter.all false
set_option maxRecDepth 100000
set_option maxHeartbeats 1000000
/-! DL14: pairs = enumerate(zip(..)); a comprehension over pairs. -/
namespace DL
open PySem PySem.Spec PyProof.Rows L2 RZ
/-! ### things tracked for a while as they stand -/
def extH (H : Hp) : List (Addr × Obj) → Hp
  | [] => H
  | p :: ps => upd (extH H ps) p.1 (.ext fun h => h.get? p.1 = some p.2)
theorem extH_out {H : Hp} {b : Addr} : ∀ {ps : List (Addr × Obj)}, b ∉ ps.map (·.1) → extH H ps b = H b
  | [], _ => rfl
  | p :: ps, h => by
    simp only [List.map_cons, List.mem_cons, not_or] at h
    show upd (extH H ps) p.1 _ b = H b
    rw [upd_ne h.1]
    exact extH_out h.2
theorem extH_in {H : Hp} {b : Addr} : ∀ {ps : List (Addr × Obj)}, b ∈ ps.map (·.1) → ∃ o, (b, o) ∈ ps ∧ extH H ps b = some (.ext fun h => h.get? b = some o)
  | p :: ps, h => by
    by_cases hb : b = p.1
    · subst hb
      exact ⟨p.2, by simp, upd_same⟩
    · simp only [List.map_cons, List.mem_cons] at h
      obtain ⟨o, h1, h2⟩ := extH_in (h.resolve_left hb)
      refine ⟨o, List.mem_cons_of_mem _ h1, ?_⟩
      show upd (extH H ps) p.1 _ b = _
      rw [upd_ne hb]
      exact h2
theorem extH_at {H : Hp} (q : Addr × Obj) : ∀ (ps : List (Addr × Obj)), (ps.map (·.1)).Nodup → q ∈ ps → extH H ps q.1 = some (.ext fun h => h.get? q.1 = some q.2)
  | [], _, hq => absurd hq List.not_mem_nil
  | p :: ps, nd, hq => by
    rw [List.map_cons, List.nodup_cons] at nd
    by_cases e : q = p
    · rw [e]
      exact upd_same
    · have hq' : q ∈ ps := (List.mem_cons.mp hq).resolve_left e
      have ne : q.1 ≠ p.1 := fun w => nd.1 (w ▸ List.mem_map_of_mem hq')
      have := extH_at (H := H) q ps nd.2 hq'
      show upd (extH H ps) p.1 _ q.1 = _
      rw [upd_ne ne]
      exact this
section
variable {X : Cx} {pins : List (Addr × Obj)} {σ : L2.St} {H : Hp} {s : Shared} {ps : List (Addr × Obj)} {h' : Heap}
theorem inv_track {t' : Nat} (I : Inv X pins σ H s) (k : ∀ b o, s.heap.get? b = some o → h'.get? b = some o) (hp : ∀ p ∈ ps, s.heap.objs.size ≤ p.1 ∧ h'.get? p.1 = some p.2) : Inv X pins σ (extH H ps) { s with heap := h', toks := t' } := by
  have out : ∀ b, b < s.heap.objs.size → extH H ps b = H b := fun b hb => extH_out fun hm => by
    obtain ⟨p, h1, h2⟩ := List.mem_map.mp hm
    have := (hp p h1).1
    rw [h2] at this
    exact absurd hb (Nat.not_lt.mpr this)
  have old : ∀ b u, H b = some u → b < s.heap.objs.size := fun b u e => by
    by_cases hb : b < s.heap.objs.size
    · exact hb
    · have := I.hok.fresh (Nat.le_of_not_lt hb)
      rw [e] at this
      cases this
  refine I.un (t' := t') ⟨fun b o e _ _ _ => k b o e, fun b o e _ _ _ => ⟨o.slots, k b o e⟩, fun b o e n _ => by rw [out b (Heap.lt_size e)]; exact n, fun b o e _ => ⟨o, k b o e⟩,
    fun b xs e => by rw [out b (old b _ e)]; exact e, fun b o u e => by rw [out b (old b _ e)]; exact e, fun b qs e => ⟨#[], by rw [out b (old b _ e), e]; simp⟩⟩ fun b u e => ?_
  by_cases hb : b ∈ ps.map (·.1)
  · obtain ⟨o, h1, h2⟩ := extH_in (H := H) hb
    rw [h2] at e
    cases e
    exact ⟨(hp _ h1).2, ⟨o, (hp _ h1).2⟩, fun h1 h2 q kk => kk _ q⟩
  · rw [extH_out hb] at e
    exact (I.hok b u e).stay (fun c v _ q => k c v q) (fun c q => by rw [out c (old c _ q)]; exact q) fun c xs q => by rw [out c (old c _ q)]; exact q
theorem inv_untrack (I : Inv X pins σ (extH H ps) s) (hn : ∀ p ∈ ps, H p.1 = none) : Inv X pins σ H s := by
  have eq_ : ∀ b, b ∉ ps.map (·.1) → H b = extH H ps b := fun b hb => (extH_out hb).symm
  have here : ∀ b u, H b = some u → b ∉ ps.map (·.1) := fun b u e hm => by
    obtain ⟨p, h1, h2⟩ := List.mem_map.mp hm
    have := hn p h1
    rw [h2, e] at this
    cases this
  have other : ∀ b u, extH H ps b = some u → (∀ φ, u ≠ .ext φ) → H b = some u := fun b u e n => by
    by_cases hb : b ∈ ps.map (·.1)
    · obtain ⟨o, _, h2⟩ := extH_in (H := H) hb
      rw [h2] at e
      exact absurd (Option.some.inj e).symm (n _)
    · rw [eq_ b hb]
      exact e
  refine I.un (t' := s.toks) ⟨fun b o e _ _ _ => e, fun b o e _ _ _ => ⟨o.slots, e⟩, fun b o _ z _ => ?_, fun b o e _ => ⟨o, e⟩, fun b xs e => other b _ e fun _ w => (nomatch w), fun b o u e => other b _ e fun _ w => (nomatch w),
    fun b qs e => ⟨#[], by rw [other b _ e fun _ w => (nomatch w)]; simp⟩⟩ fun b u e => ?_
  · by_cases hb : b ∈ ps.map (·.1)
    · obtain ⟨o, _, h2⟩ := extH_in (H := H) hb
      rw [h2] at z
      cases z
    · rw [eq_ b hb]
      exact z
  · have hb := here b u e
    have e' : extH H ps b = some u := by rw [← eq_ b hb]; exact e
    exact (I.hok b u e').stay (fun _ _ _ q => q) (fun c q => other c _ q fun _ w => (nomatch w)) fun c xs q => other c _ q fun _ w => (nomatch w)
theorem track_fp (I : Inv X pins σ (extH H ps) s) {b : Addr} (hb : b ∈ ps.map (·.1)) (hn : H b = none) (hz : X.s_0.heap.objs.size ≤ b) : FpOk X pins H b := by
  obtain ⟨o0, _, h⟩ := extH_in (H := H) hb
  refine ⟨hn, fun z => ?_, fun z => ?_, .inr hz, fun x c e z => ?_, fun p hp z => ?_⟩
  · rw [z, I.free] at h
    cases h
  · obtain ⟨_, o, ho, _⟩ := I.ok.funs.mem z
    exact absurd (Nat.lt_of_lt_of_le (Heap.lt_size ho) hz) (Nat.lt_irrefl _)
  · have q := I.freeC x c e
    rw [z, h] at q
    cases q
  · have q := (I.pin p hp).2.1
    rw [z, h] at q
    cases q
end

/-! ### enumerate(z), z a zip -/
theorem meets_enum_zip (z TI TO : Addr) : Meets (Builtin.«enumerate.__new__» ⟨[.type "enumerate", .ref z], []⟩) (fun _ R s => ZO s.heap z TI TO ∧
      R (.ok (.ret (.ref s.heap.objs.size))) { s with heap := s.heap.push { cls := .type "enumerate", data := .fields #[.none, .bool false, .ref z, rawInt 0, .none, .none] } }) :=
  .of_wp fun prog w A R s h => by
    obtain ⟨hp, g, d, tk, os⟩ := s
    obtain ⟨hz, h⟩ := h
    have hsub := sub_enumerate
    have q1 : ∀ {A' : Around} {E : Value → Shared → Prop} {Q : Value → Shared → Prop}, Q (.ref z) ⟨hp, g, d, tk, os⟩ → wpAny (model prog w) A' (pyIter (.ref z)) Q E ⟨hp, g, d, tk, os⟩ :=
      fun q => zo_iter (s := ⟨hp, g, d, tk, os⟩) hz q
    wp_walk using q1
    refine wpAny_stack_any fun st => wpAny_pure ?_
    split
    · rename_i c _ _ _ _ _
      cases (c == Value.type "enumerate")
      · wp_walk using q1
        exact ⟨_, rfl, h⟩
      · wp_walk using q1
        exact ⟨_, rfl, h⟩
    · wp_walk using q1
      exact ⟨_, rfl, h⟩
theorem call_enum_zip {prog : Program} {w : World} {A : Around} {E : Value → Shared → Prop} {s : Shared} {z TI TO : Addr} {Q : Value → Shared → Prop} (hz : ZO s.heap z TI TO)
    (h : ∀ h', IsEnum h' s.heap.objs.size z 0 .none → (∀ b o, s.heap.get? b = some o → h'.get? b = some o) → Q (.ref s.heap.objs.size) { s with heap := h' }) :
    wpAny (model prog w) A (call (.type "enumerate") [.ref z]) Q E s := by
  refine callType_new F.called_enumerate (by decide) (F.typeCall_enumerate_1 _) (F.newCall_enumerate_1 _) (fun obj => F.args_object_init_2 obj _) F.entry_enumerate_new (meets_enum_zip z TI TO) ⟨hz, ?_⟩
  have he : IsEnum (s.heap.push { cls := .type "enumerate", data := .fields #[.none, .bool false, .ref z, rawInt 0, .none, .none] }) s.heap.objs.size z 0 .none := Heap.get?_push_size _ rfl
  exact ⟨⟨_, he, rfl⟩, h _ he fun b o e => Heap.get?_push_of_some _ e⟩
end DL

-- part DL15
set_option Elab.async false
set_option linter.all false
set_option maxRecDepth 100000
set_option maxHeartbeats 1000000
/-! DL15: name = enumerate(zip(..)); return [.. for .. in name ..]. -/
namespace DL
open PySem PySem.Spec PyProof.Rows L2 RZ
abbrev EObj (z : Addr) : Obj := { cls := .type "enumerate", dict := none, data := .fields #[.none, .bool false, .ref z, rawInt 0, .none, .none], slots := #[] }
abbrev POf (u v : Value) : Obj := { cls := .type "tuple", data := .seq #[u, v] }
abbrev ezO (e z TI TO i1 i2 a b : Addr) (la lb : Bool) : List (Addr × Obj) := [(e, EObj z), (z, ZObj .none false TI TO), (TI, POf (.ref i1) (.ref i2)), (TO, POf .none .none), (i1, sOb la a), (i2, sOb lb b)]
structure EzOk (e z TI TO i1 i2 a b : Addr) (n0 : Nat) (H : Hp) : Prop where
  sep : ZipSep2 z TI TO i1 i2 [i1, a] [i2, b]
  na : a ≠ i1
  nb : b ≠ i2
  ne : ∀ d ∈ [z, TI, TO, i1, i2, a, b], e ≠ d
  nd : [e, z, TI, TO, i1, i2].Nodup
  yg : ∀ d ∈ [e, z, TI, TO, i1, i2], n0 ≤ d ∧ H d = none
def tEz (K : PySem.W.Frag) (c : Fr) (n0 : Nat) (n : MV (List D)) : TE := fun σ H Q => ∃ F S ds S', Rel K c F S σ H ∧ zipG n S = some (ds, S') ∧ ∀ xs ys F1 H1 e z TI TO i1 i2 a b la lb va vb, ds = zipL xs ys → Same F F1 → Rel K c F1 S' σ H1 →
  SqX la K F1 a va → SqX lb K F1 b vb → DpAll K F1 va xs → DpAll K F1 vb ys → EzOk e z TI TO i1 i2 a b n0 H1 → Q (.ref e) (extH H1 (ezO e z TI TO i1 i2 a b la lb))
section
variable {X : Cx} {c : Fr} {e e2 : Expr} {n : MV (List D)} {pos p p2 pos2 : Pos}
theorem pe_ez (hg : Gl X "enumerate") (hm : X.mg "enumerate" = none) (hg2 : Gl X "zip") (hm2 : X.mg "zip" = none) (ha : DL X c [e, e2] n)
    (hs : starEach [e, e2] X.env = (false, eval e X.env) :: starEach [e2] X.env := by rfl) (hpl : (backTo pos2 (starEach [e2] X.env)).any (·.1) = false := by rfl)
    (na : starEach [.Call (.Name "zip" p2) [e, e2] [] pos2] X.env = (false, eval (.Call (.Name "zip" p2) [e, e2] [] pos2) X.env) :: starEach [] X.env := by rfl) :
    PE X (.Call (.Name "enumerate" p) [.Call (.Name "zip" p2) [e, e2] [] pos2] [] pos) (tEz X.K c X.s_0.heap.objs.size n) := by
  refine ⟨fun pins s σ H Q I h => ?_⟩
  obtain ⟨F, S, ds, S', r, hz, q⟩ := h
  refine Call_ (ld_blt I hg hm boot_enumerate (PyProof.Rows.callWith_type1 (args_cons (zip_eval I r hz hg2 hm2 ha hs hpl fun xs ys z TI TO i1 i2 a b la lb ia ib va vb F1 H1 s1 ed Z => args_nil ?_) na) na))
  refine call_enum_zip Z.st.zo fun h2 he hk2 => ?_
  obtain ⟨s0, h0, rfl, I0, hk0, hge, hal, hbl⟩ := Z.pre
  have zl : z < h0.objs.size := Heap.lt_size Z.obz
  have lt5 : ∀ d ∈ [z, TI, TO, i1, i2], d < h0.objs.size := fun d hd => by
    simp only [List.mem_cons, List.mem_nil_iff, or_false] at hd
    rcases hd with w | w | w | w | w <;> rw [w]
    · exact zl
    · exact Heap.lt_size Z.st.ti
    · exact Heap.lt_size Z.obt
    · exact Heap.lt_size Z.ob1
    · exact Heap.lt_size Z.ob2
  have s0l : s0.heap.objs.size ≤ h0.objs.size := Nat.le_of_lt (Nat.lt_of_le_of_lt (hge z (by simp)) zl)
  have ok : EzOk h0.objs.size z TI TO i1 i2 a b X.s_0.heap.objs.size H1 := by
    refine ⟨Z.sep, Z.na, Z.nb, fun d hd w => ?_, ?_, fun d hd => ?_⟩
    · have : d < h0.objs.size := by
        simp only [List.mem_cons, List.mem_nil_iff, or_false] at hd
        rcases hd with q | q | q | q | q | q | q
        · exact lt5 d (by simp [q])
        · exact lt5 d (by simp [q])
        · exact lt5 d (by simp [q])
        · exact lt5 d (by simp [q])
        · exact lt5 d (by simp [q])
        · rw [q]
          exact Nat.lt_of_lt_of_le hal s0l
        · rw [q]
          exact Nat.lt_of_lt_of_le hbl s0l
      rw [← w] at this
      exact Nat.lt_irrefl _ this
    · rw [List.nodup_cons]
      exact ⟨fun hm => Nat.lt_irrefl _ (lt5 _ hm), Z.nd⟩
    · rcases List.mem_cons.mp hd with w | hd
      · rw [w]
        exact ⟨Nat.le_trans I0.sz s0l, I0.hok.fresh s0l⟩
      · exact ⟨Nat.le_trans I0.sz (hge d hd), (Z.fp d hd).1⟩
  have tr : Inv X pins σ (extH H1 (ezO h0.objs.size z TI TO i1 i2 a b la lb)) { s0 with heap := h2 } := inv_track (t' := s0.toks) I0 (fun b o w => hk2 b o (hk0 b o w)) fun pr hp => by
    simp only [List.mem_cons, List.mem_nil_iff, or_false] at hp
    rcases hp with w | w | w | w | w | w <;> rw [w]
    · exact ⟨s0l, he⟩
    · exact ⟨hge z (by simp), hk2 _ _ Z.obz⟩
    · exact ⟨hge TI (by simp), hk2 _ _ Z.st.ti⟩
    · exact ⟨hge TO (by simp), hk2 _ _ Z.obt⟩
    · exact ⟨hge i1 (by simp), hk2 _ _ Z.ob1⟩
    · exact ⟨hge i2 (by simp), hk2 _ _ Z.ob2⟩
  exact ⟨.ref h0.objs.size, _, tr, rfl, q xs ys F1 H1 _ _ _ _ _ _ _ _ la lb va vb ed Z.up Z.rel Z.qa Z.qb Z.da Z.db ok⟩
end
def iEz (K : PySem.W.Frag) (n0 : Nat) (j : Nat) : TI := fun σ H R => ∃ (e z TI TO i1 i2 a b : Addr) (la lb : Bool) (H0 : Hp), σ[j]? = some (some (.ref e)) ∧ H = extH H0 (ezO e z TI TO i1 i2 a b la lb) ∧ EzOk e z TI TO i1 i2 a b n0 H0 ∧ R (Itez la lb K a b) H0
section
variable {X : Cx} {elts : List Expr} {kk : Nat} {tpos : Pos} {j : Nat} {x : Str} {p : Pos}
theorem pi_ez (hN : X.N[j]? = some x) (hv : Vis X.env.scope x) (hd : (x == ("__debug__" : Str)) = false := by decide) (hcd : (x == ("__classdict__" : Str)) = false := by decide) : PI X (.Tuple elts kk tpos) (.Name x p) (iEz X.K X.s_0.heap.objs.size j) := by
  refine ⟨fun pins s σ H R I h => ?_⟩
  obtain ⟨e, z, TI, TO, i1, i2, a, b, la, lb, H0, hs, hH, ok, q⟩ := h
  subst hH
  refine thn ((pe_var (pos := p) (i := j) hN hv hd hcd).run pins s σ _ (fun v H1 => v = .ref e ∧ H1 = extH H0 (ezO e z TI TO i1 i2 a b la lb)) I ⟨.ref e, hs, rfl, rfl⟩) fun u s1 ⟨v, H1, I1, r1, ev, eH⟩ => ?_
  subst ev
  rw [eH] at I1
  cases r1
  have at_ : ∀ q ∈ ezO e z TI TO i1 i2 a b la lb, s1.heap.get? q.1 = some q.2 := fun q hq => (I1.hok q.1 _ (extH_at (H := H0) q _ ok.nd hq)).1
  have he : IsEnum s1.heap e z ((0 : Nat) : Int) .none := at_ (e, EObj z) (by simp)
  have keysMem : ∀ d ∈ [e, z, TI, TO, i1, i2], d ∈ (ezO e z TI TO i1 i2 a b la lb).map (·.1) := fun d hd => hd
  refine wpAny_pyIter_enum he ?_
  refine ⟨e, [e, z, TI, TO, i1, i2], _, _, H0, rfl, inv_untrack I1 fun pr hp => (ok.yg pr.1 (by
    have : pr.1 ∈ (ezO e z TI TO i1 i2 a b la lb).map (·.1) := List.mem_map_of_mem hp
    exact this)).2, turn_ez (la := la) (lb := lb) ok.sep ok.na ok.nb ok.ne, ⟨⟨_, he⟩, ⟨⟨_, _, at_ (z, ZObj .none false TI TO) (by simp), .inl rfl⟩, at_ (TI, POf (.ref i1) (.ref i2)) (by simp), ⟨_, _, at_ (TO, POf .none .none) (by simp)⟩, sIt_new (at_ (i1, sOb la a) (by simp)), sIt_new (at_ (i2, sOb lb b) (by simp))⟩⟩, fun d hd => ?_, q⟩
  exact track_fp I1 (keysMem d hd) (ok.yg d hd).2 (ok.yg d hd).1
end

/-! ### the two statements -/
theorem walk_ez {K : PySem.W.Frag} {la lb : Bool} {a b : Addr} {xs ys : List V} {n : Nat} (hn : n = min xs.length ys.length) : L2.Walk (Itez la lb K a b) n (fun H => SqX la K H a xs ∧ SqX lb K H b ys)
    (fun i H v H' => ∃ (T T2 : Addr) (x y : V), v = .ref T ∧ H T = none ∧ H T2 = none ∧ T ≠ T2 ∧ H' = upd (upd H T2 (.tup [x, y])) T (.tup [.int (i : Nat), .ref T2]) ∧ xs[i]? = some x ∧ ys[i]? = some y) := by
  subst hn
  refine ⟨fun i _ hi q => ?_, fun _ q => ⟨xs, ys, q.1, q.2, by omega, by omega, by omega⟩, fun i H v H' _ q y => ?_⟩
  · have h1 : i < xs.length := by omega
    have h2 : i < ys.length := by omega
    exact ⟨xs, ys, xs[i], ys[i], q.1, q.2, by simp [h1], by simp [h2]⟩
  · obtain ⟨T, T2, x, z, h1, h2, h3, h4, h5, h6, h7⟩ := y
    exact ⟨T, T2, x, z, h1, h2, h3, h4, h5, h6 xs q.1, h7 ys q.2⟩
theorem yEz_ok {K : PySem.W.Frag} {F : Hp} {va vb : List V} {xs ys : List D} (h1 : DpAll K F va xs) (h2 : DpAll K F vb ys) : YOk K (enumL (zipL xs ys)) F
    (fun i H v H' => ∃ (T T2 : Addr) (x y : V), v = .ref T ∧ H T = none ∧ H T2 = none ∧ T ≠ T2 ∧ H' = upd (upd H T2 (.tup [x, y])) T (.tup [.int (i : Nat), .ref T2]) ∧ va[i]? = some x ∧ vb[i]? = some y) := fun i c F1 S1 σ1 H1 v H2 s r y => by
  obtain ⟨T, T2, x, w, rfl, hT, hT2, ne, rfl, e1, e2⟩ := y
  obtain ⟨d, g1, g2⟩ := h1.getV e1
  obtain ⟨d2, g3, g4⟩ := h2.getV e2
  have f2 := r.fh.free hT2
  have f1 := r.fh.free hT
  have up2 := upd_up (o := .tup [x, w]) f2
  have f1' : (upd F1 T2 (.tup [x, w])) T = none := by rw [upd_ne ne]; exact f1
  have hT' : (upd H1 T2 (.tup [x, w])) T = none := by rw [upd_ne ne]; exact hT
  have up1 := upd_up (o := .tup [.int (i : Nat), .ref T2]) f1'
  refine ⟨upd (upd F1 T2 (.tup [x, w])) T (.tup [.int (i : Nat), .ref T2]), .tuple [.int i, .tuple [d, d2]], up2.trans up1, (r.alloc hT2).alloc hT', enumL_get (zipL_at g1 g3), .tup (.inl (.inl upd_same)) ?_⟩
  have in2 : (upd (upd F1 T2 (.tup [x, w])) T (.tup [.int (i : Nat), .ref T2])) T2 = some (.tup [x, w]) := by rw [upd_ne (Ne.symm ne), upd_same]
  have up := s.trans (up2.trans up1)
  exact .cons (.int _) (.cons (.tup (.inl (.inl in2)) (.cons (Dp.up up _ _ g2) (.cons (Dp.up up _ _ g4) .nil))) .nil)
/-- a frame that knows more -/
def Fr.know (c : Fr) (F : Hp) : Fr := { c with F0 := F }
theorem Rel.know {K : PySem.W.Frag} {c : Fr} {F : Hp} {S : Sta} {σ : L2.St} {H : Hp} (r : Rel K c F S σ H) : Rel K (c.know F) F S σ H :=
  ⟨Same.refl F, r.fh, fun a x e => .inl e, r.kp, r.hs, r.hc, r.sr, r.fs, r.fc, r.len, r.sl, r.sep⟩
theorem Rel.unknow {K : PySem.W.Frag} {c : Fr} {F F1 : Hp} {S S1 : Sta} {σ σ1 : L2.St} {H H1 : Hp} (r0 : Rel K c F S σ H) (r : Rel K (c.know F) F1 S1 σ1 H1) : Rel K c F1 S1 σ1 H1 :=
  ⟨r0.f0.trans r.f0, r.fh, fun a x e => (r.fr a x e).elim (fun w => r0.fr a x w) .inr, r.kp, r.hs, r.hc, r.sr, r.fs, r.fc, r.len, r.sl, r.sep⟩
/-- enumerate(zip(..)), the name at j forgotten -/
def enumZI (j : Nat) (n : MV (List D)) : MV (List D) := bnd (zipG n) fun ds => fun S => if j < S.env.length then some (enumL ds, { S with env := S.env.set j .un }) else none
open Classical in
noncomputable def onlyAtS (S0 : Sta) (r : List D × Sta) : MV (List D) := fun S => if S = S0 then some r else none
theorem dss_ez {X : Cx} {c : Fr} {e e2 : Expr} {n : MV (List D)} {pos p p2 pos2 p3 pos3 pos4 pos5 px : Pos} {x : Str} {elts : List Expr} {kk : Nat} {tpos : Pos} {elt : Expr} {ifs : List Expr} {scope : Scope} {own : List (Str × Nat)} {pt : Pat} {t : MV Bool} {m : MV D} (j : Nat)
    (hc : X.calm = true) (hN : X.N.Nodup) (hg : Gl X "enumerate") (hm : X.mg "enumerate" = none) (hg2 : Gl X "zip") (hm2 : X.mg "zip" = none) (ha : DL X c [e, e2] n)
    (ok : BlkOk X.N X.env.scope scope own) (hvs : ∀ j ∈ pt.vars, j ∈ own.map (·.2))
    (hgt : ∀ (s : Shared) (H : Hp) (C : Addr) (cl : List (Str × Addr)) (fp : List Addr), DG (X.blk s H scope (compEnvC scope cl C X.env) fp) (.Tuple elts kk tpos) pt) (ht : ∀ (s : Shared) (H : Hp) (C : Addr) (cl : List (Str × Addr)) (fp : List Addr), DTs (X.blk s H scope (compEnvC scope cl C X.env) fp) ifs t)
    (hm3 : ∀ (s : Shared) (H : Hp) (C : Addr) (cl : List (Str × Addr)) (fp : List Addr) (c' : Fr), DE (X.blk s H scope (compEnvC scope cl C X.env) fp) c' elt m)
    (hj : X.N[j]? = some x := by rfl) (hv : Vis X.env.scope x := by first | exact Or.inl rfl | exact Or.inr (Or.inl rfl) | exact Or.inr (Or.inr rfl)) (hl : X.env.scope.names.lookup x = some .local := by rfl)
    (hsw : swapsWith (.Call (.Name "enumerate" p) [.Call (.Name "zip" p2) [e, e2] [] pos2] [] pos) (some (.Name x px)) pos3.line X.env = pure false := by rfl) (hd : (x == ("__debug__" : Str)) = false := by decide) (hcd : (x == ("__classdict__" : Str)) = false := by decide)
    (hs : starEach [e, e2] X.env = (false, eval e X.env) :: starEach [e2] X.env := by rfl) (hpl : (backTo pos2 (starEach [e2] X.env)).any (·.1) = false := by rfl)
    (na : starEach [.Call (.Name "zip" p2) [e, e2] [] pos2] X.env = (false, eval (.Call (.Name "zip" p2) [e, e2] [] pos2) X.env) :: starEach [] X.env := by rfl) (hfs : ∀ y, foldedSetIterable (.Name x p3) X.env y = pure y := by intro _; rfl) :
    DSs X c [.Assign [.Name x px] (.Call (.Name "enumerate" p) [.Call (.Name "zip" p2) [e, e2] [] pos2] [] pos) pos3, .Return (some (.ListComp elt [⟨.Tuple elts kk tpos, .Name x p3, ifs, 0⟩] scope pos4)) pos5]
      (retS (compD (own.map (·.2)) (enumZI j n) pt t m)) := by
  refine pss_imp (pss_cons (ps_set (i := j) hN hj (.inl hl) (pe_ez hg hm hg2 hm2 ha hs hpl na) hsw (.inr hl)) (pss_one (ps_ret (pe_lc (g := gP X.K pt) (tt := tTx X.K t) (te := tDx X.K m) hc hN (pi_ez hj hv hd hcd) ok hgt ht (fun s H C cl fp => pe_ex (hm3 s H C cl fp)) hfs)))) fun D' σ H h => ?_
  obtain ⟨F, S, r, o, S', e1, q⟩ := h
  obtain ⟨d, S2, e2', e3⟩ := bnd_some e1
  cases e3
  obtain ⟨ds, S3, e4, e5⟩ := bnd_some e2'
  obtain ⟨zs, S4, e6, e7⟩ := bnd_some e4
  have hjl : j < S4.env.length ∧ some (enumL zs, ({ S4 with env := S4.env.set j .un } : Sta)) = some (ds, S3) := by
    have e7' : (if j < S4.env.length then some (enumL zs, ({ S4 with env := S4.env.set j .un } : Sta)) else none) = some (ds, S3) := e7
    by_cases w : j < S4.env.length
    · rw [if_pos w] at e7'
      exact ⟨w, e7'⟩
    · rw [if_neg w] at e7'
      cases e7'
  obtain ⟨hjl, e8⟩ := hjl
  cases e8
  refine ⟨F, S, zs, S4, r, e6, fun xs ys F1 H1 a0 z TI TO i1 i2 a b la lb va vb ez s1 r1 qa qb da db ok2 => ?_⟩
  subst ez
  have r1' : Rel X.K c F1 { S4 with env := S4.env.set j .un } (σ.set j (some (.ref a0))) H1 := r1.slots (by simp [r1.len]) fun i y hy => by
    by_cases hi : j = i
    · subst hi
      by_cases hl : j < S4.env.length
      · rw [List.getElem?_set_self hl] at hy
        exact .inl (Option.some.inj hy).symm
      · rw [List.getElem?_eq_none (by simp; omega)] at hy
        cases hy
    · rw [List.getElem?_set_ne hi] at hy ⊢
      exact .inr (.inl ⟨hy, rfl⟩)
  have hset : (σ.set j (some (.ref a0)))[j]? = some (some (.ref a0)) := List.getElem?_set_self (by rw [r1.len]; exact hjl)
  generalize hS0 : ({ S4 with env := S4.env.set j .un } : Sta) = S0 at *
  have en : tN X.K (c.know F1) (compD (own.map (·.2)) (onlyAtS S0 (enumL (zipL xs ys), S0)) pt t m) (σ.set j (some (.ref a0))) H1 D'.rt := by
    refine tN_tD (fun S d S' e => compD_list e) ⟨F1, S0, r1'.know, d, S', ?_, fun F' H' v s2 r2 d2 => ?_⟩
    · unfold compD
      rw [bnd_eq (show onlyAtS S0 (enumL (zipL xs ys), S0) S0 = some (enumL (zipL xs ys), S0) from if_pos rfl)]
      exact e5
    · exact q F' H' _ (s1.trans s2) (r1'.unknow r2) v d2
  obtain ⟨F5, S5, r5, ds5, S6, e9, q5⟩ := t_comp hvs en
  have e10 : S5 = S0 ∧ (enumL (zipL xs ys), S0) = (ds5, S6) := by
    unfold onlyAtS at e9
    by_cases w : S5 = S0
    · rw [if_pos w] at e9
      exact ⟨w, Option.some.inj e9⟩
    · rw [if_neg w] at e9
      cases e9
  obtain ⟨e11, e12⟩ := e10
  cases e12
  subst e11
  have s5 : Same F1 F5 := r5.f0
  have l1 := da.len
  have l2 := db.len
  refine ⟨a0, z, TI, TO, i1, i2, a, b, la, lb, H1, hset, rfl, ok2, ?_⟩
  refine q5 F5 H1 (Itez la lb X.K a b) (fun H => SqX la X.K H a va ∧ SqX lb X.K H b vb) _ (Same.refl F5) r5 (walk_ez ?_) (fun F6 H6 u1 u2 => ⟨sqX_up ((s5.trans u1).trans u2) qa, sqX_up ((s5.trans u1).trans u2) qb⟩) (yEz_ok (DpAll.up s5 _ _ da) (DpAll.up s5 _ _ db))
  rw [enumL_len]
  unfold zipL
  rw [List.length_zipWith, l1, l2]
end DL

-- part DL16
set_option Elab.async false
set_option linter.all false
set_option maxRecDepth 100000
set_option maxHeartbeats 1000000
/-! DL16: small words; the source of a law: _law_pick, _law_open_cells as functions. -/
namespace DL
open PySem PySem.Spec PyProof.Rows L2 RZ
theorem hu66 {k : Nat} {A : Around} (r : Room k A) : A.units + 66 < cLine := by have := r.un; omega
theorem hu64 {k : Nat} {A : Around} (r : Room k A) : A.units + 64 < cLine := by have := r.un; omega
theorem hu65 {k : Nat} {A : Around} (r : Room k A) : A.units + 65 < cLine := by have := r.un; omega
theorem hu1 {k : Nat} {A : Around} (r : Room k A) : A.units + 1 < cLine := by have := r.un; omega
theorem b_len : bootBuiltins "len" = some (.builtin "len") := by decide +kernel
theorem b_abs : bootBuiltins "abs" = some (.builtin "abs") := by decide +kernel
theorem b_all : bootBuiltins "all" = some (.builtin "all") := by decide +kernel
theorem b_any : bootBuiltins "any" = some (.builtin "any") := by decide +kernel
theorem b_sorted : bootBuiltins "sorted" = some (.builtin "sorted") := by decide +kernel
theorem b_sum : bootBuiltins "sum" = some (.builtin "sum") := by decide +kernel
theorem b_max : bootBuiltins "max" = some (.builtin "max") := by decide +kernel
theorem b_min : bootBuiltins "min" = some (.builtin "min") := by decide +kernel
theorem b_isinstance : bootBuiltins "isinstance" = some (.builtin "isinstance") := by decide +kernel
theorem b_int : bootBuiltins "int" = some (.type "int") := by decide +kernel
theorem b_bool : bootBuiltins "bool" = some (.type "bool") := by decide +kernel
theorem b_str : bootBuiltins "str" = some (.type "str") := by decide +kernel
theorem b_tuple : bootBuiltins "tuple" = some (.type "tuple") := by decide +kernel
theorem b_list : bootBuiltins "list" = some (.type "list") := by decide +kernel
theorem b_dict : bootBuiltins "dict" = some (.type "dict") := by decide +kernel
abbrev FnP (K : PySem.W.Frag) (x : Str) (st : Stmt) (f : Addr) (fd : FuncData) : Prop := FunD K x x (defArgs st) (defBody st) (defScope st) [] [] f fd
def addA : D → D → Option D := alt addI addT
/-- times, one factor small or both not huge -/
def mulO (i j : Int) : Prop := i.natAbs < 2 ^ 60 ∨ j.natAbs < 2 ^ 60
instance {i j : Int} : Decidable (mulO i j) := by
  unfold mulO
  infer_instance
section
variable {X : Cx} {c : Fr}
theorem opd_addA : OpR X (binaryOp .Add) (r2D X.K addA) := opr_alt opd_add opd_addT
theorem bits_small {i : Int} (h : i.natAbs < 2 ^ 60) : Builtin.Int.intBits i ≤ 64 := by
  unfold Builtin.Int.intBits
  by_cases z : i = 0
  · simp [z]
  · have z' : i.natAbs ≠ 0 := by omega
    have h2 : i.natAbs.log2 < 60 := (Nat.log2_lt z').mpr h
    have z2 : (i == 0) = false := by simp [z]
    rw [z2]
    show i.natAbs.log2 + 1 ≤ 64
    omega
theorem op_mulO : OpR X (binaryOp .Mult) (rI mulO fun i j => .int (i * j)) := opI fun i j _ _ _ _ _ hc q => mul_int q (hc.elim (fun w => IntMulOk.of_left (bits_small w)) fun w => IntMulOk.of_right (bits_small w))
def mulS : D → D → Option D := oI fun i j => if mulO i j then some (.int (i * j)) else none
theorem opd_mulS : OpR X (binaryOp .Mult) (r2D X.K mulS) := opI_D op_mulO fun i j d h => by
  by_cases z : mulO i j
  · rw [if_pos z] at h
    cases h
    exact ⟨z, fun _ => .int _⟩
  · rw [if_neg z] at h
    cases h
end

/-! ### _law_pick -/
def popR (left : Int) : List Int → Int × List Int
  | [] => (left, [])
  | c :: cs => if left < 2 then popR c cs else (left, c :: cs)
def pickS (m : Int) (s : Src) : Int × Src :=
  if m < 2 then (0, s) else
  let p := popR s.left s.cells.reverse
  if 1 < p.1 then (p.1.fmod m, { s with cells := p.2.reverse, left := p.1 / m }) else
  let lap := s.turn + 1
  let a := (s.mixed + lap * 104729).fmod 998244353
  let b := (a * a + lap * 17).fmod 2147483647
  ((b / 16).fmod m, { cells := p.2.reverse, left := p.1, mixed := s.mixed, turn := lap })
def pickF : DF := fun as s => match as with
  | [.src, .d (.int m)] => if m.natAbs < 2 ^ 60 then some (.int (pickS m s).1, (pickS m s).2) else none
  | _ => none
theorem fmod_bd {a m : Int} (h : 0 < m) : 0 ≤ a.fmod m ∧ a.fmod m < m := ⟨Int.fmod_nonneg_of_pos a h, Int.fmod_lt_of_pos a h⟩
theorem pickS_bd (m : Int) (s : Src) : 0 ≤ (pickS m s).1 ∧ ((pickS m s).1 < m ∨ (pickS m s).1 = 0) := by
  unfold pickS
  by_cases h : m < 2
  · rw [if_pos h]
    exact ⟨Int.le_refl 0, .inr rfl⟩
  · rw [if_neg h]
    have hm : 0 < m := by omega
    by_cases h2 : 1 < (popR s.left s.cells.reverse).1
    · simp only [if_pos h2]
      exact ⟨(fmod_bd hm).1, .inl (fmod_bd hm).2⟩
    · simp only [if_neg h2]
      exact ⟨(fmod_bd hm).1, .inl (fmod_bd hm).2⟩
/-- the heap with the source as s tells -/
def stH (H0 : Hp) (ps pc : Addr) (s : Src) : Hp := upd (upd H0 pc (.lst (s.cells.map V.int))) ps (.dK (kvSrc pc s))
section
variable {H0 H : Hp} {ps pc : Addr} {s : Src}
theorem SrcAt.eq (h : SrcAt ps pc s H) : stH H ps pc s = H := by
  funext b
  unfold stH
  by_cases h1 : b = ps
  · rw [h1, upd_same, h.d]
  · rw [upd_ne h1]
    by_cases h2 : b = pc
    · rw [h2, upd_same, h.l]
    · rw [upd_ne h2]
theorem SrcAt.ne (h : SrcAt ps pc s H) : ps ≠ pc := fun e => by
  have h1 := h.d
  rw [e, h.l] at h1
  cases h1
theorem stH_d : stH H0 ps pc s ps = some (.dK (kvSrc pc s)) := upd_same
theorem stH_l (n : ps ≠ pc) : stH H0 ps pc s pc = some (.lst (s.cells.map V.int)) := by
  unfold stH
  rw [upd_ne (Ne.symm n), upd_same]
theorem stH_at (n : ps ≠ pc) : SrcAt ps pc s (stH H0 ps pc s) := ⟨stH_d, stH_l n⟩
theorem stH_o {b : Addr} (h1 : b ≠ ps) (h2 : b ≠ pc) : stH H0 ps pc s b = H0 b := by
  unfold stH
  rw [upd_ne h1, upd_ne h2]
theorem stH_put {kvs : List (Key × V)} {s' : Src} (e : kvs = kvSrc pc s') (c : s'.cells = s.cells) : upd (stH H0 ps pc s) ps (.dK kvs) = stH H0 ps pc s' := by
  unfold stH
  rw [upd_upd, e, c]
theorem stH_pop (n : ps ≠ pc) {xs : List V} {s' : Src} (e : xs = s'.cells.map V.int) (l : s'.left = s.left) (m : s'.mixed = s.mixed) (t : s'.turn = s.turn) : upd (stH H0 ps pc s) pc (.lst xs) = stH H0 ps pc s' := by
  funext b
  unfold stH
  by_cases h1 : b = pc
  · rw [h1, upd_same, upd_ne (Ne.symm n), upd_same, e]
  · rw [upd_ne h1]
    by_cases h2 : b = ps
    · rw [h2, upd_same, upd_same]
      unfold kvSrc
      rw [l, m, t]
    · rw [upd_ne h2, upd_ne h1, upd_ne h2, upd_ne h1]
theorem k_cl : ¬ ((.inr "cells" : Key) = .inr "left") := by decide +kernel
theorem k_cm : ¬ ((.inr "cells" : Key) = .inr "mixed") := by decide +kernel
theorem k_ct : ¬ ((.inr "cells" : Key) = .inr "turn") := by decide +kernel
theorem k_lm : ¬ ((.inr "left" : Key) = .inr "mixed") := by decide +kernel
theorem k_lt : ¬ ((.inr "left" : Key) = .inr "turn") := by decide +kernel
theorem k_mt : ¬ ((.inr "mixed" : Key) = .inr "turn") := by decide +kernel
theorem k_ml : ¬ ((.inr "mixed" : Key) = .inr "left") := by decide +kernel
theorem k_tl : ¬ ((.inr "turn" : Key) = .inr "left") := by decide +kernel
theorem get_left : DGet (stH H0 ps pc s) ps (.str "left") (some (.int s.left)) := .inl ⟨_, .inr "left", .inl stH_d, rfl, by
  unfold kvSrc
  rw [valV_neg (by exact k_cl), valV_pos rfl]⟩
theorem get_mixed : DGet (stH H0 ps pc s) ps (.str "mixed") (some (.int s.mixed)) := .inl ⟨_, .inr "mixed", .inl stH_d, rfl, by
  unfold kvSrc
  rw [valV_neg (by exact k_cm), valV_neg (by exact k_lm), valV_pos rfl]⟩
theorem get_turn : DGet (stH H0 ps pc s) ps (.str "turn") (some (.int s.turn)) := .inl ⟨_, .inr "turn", .inl stH_d, rfl, by
  unfold kvSrc
  rw [valV_neg (by exact k_ct), valV_neg (by exact k_lt), valV_neg (by exact k_mt), valV_pos rfl]⟩
theorem get_cells : DGet (stH H0 ps pc s) ps (.str "cells") (some (.ref pc)) := .inl ⟨_, .inr "cells", .inl stH_d, rfl, by
  unfold kvSrc
  rw [valV_pos rfl]⟩
theorem putL (v : Int) : putK (kvSrc pc s) (.inr "left") (.int v) = kvSrc pc { s with left := v } := by
  unfold kvSrc putK
  rw [if_pos (by simp)]
  simp only [List.map_cons, List.map_nil, if_true]
  rw [if_neg k_cl, if_neg k_ml, if_neg k_tl]
theorem putT (v : Int) : putK (kvSrc pc s) (.inr "turn") (.int v) = kvSrc pc { s with turn := v } := by
  unfold kvSrc putK
  rw [if_pos (by simp)]
  simp only [List.map_cons, List.map_nil, if_true]
  rw [if_neg k_ct, if_neg k_lt, if_neg k_mt]
theorem len4 : (kvSrc pc s).length < sizeLine := by
  have := sizeLine_eq
  show 4 < sizeLine
  omega
theorem put_left (v : Int) : DPut (stH H0 ps pc s) ps (.str "left") (.int v) (stH H0 ps pc { s with left := v }) := .inl ⟨_, .inr "left", stH_d, rfl, len4, (stH_put (s := s) (s' := { s with left := v }) (putL v) rfl).symm⟩
theorem put_turn (v : Int) : DPut (stH H0 ps pc s) ps (.str "turn") (.int v) (stH H0 ps pc { s with turn := v }) := .inl ⟨_, .inr "turn", stH_d, rfl, len4, (stH_put (s := s) (s' := { s with turn := v }) (putT v) rfl).symm⟩
end
end DL

-- part DL17
set_option Elab.async false
set_option linter.all false
set_option maxRecDepth 100000
set_option maxHeartbeats 1000000
/-! DL17: x, y = e, [] where y's list is one's own; a def that makes the source. -/
namespace DL
open PySem PySem.Spec PyProof.Rows L2 RZ
def parO (i j : Nat) (m : MV D) : MS := bnd m fun x => fun S => some (.nx, { S with env := (S.env.set i (.fz x)).set j (.own []) })
section
variable {X : Cx} {c : Fr} {m : MV D} {pos : Pos}
theorem ds_parO {i j : Nat} {x y : Str} {e1 : Expr} {px py pt pl : Pos} {kt k2 pt2} (hc : X.calm = true) (hN : X.N.Nodup) (ha : DE X c e1 m) (hw : swappedStores [.Tuple [.Name x px, .Name y py] kt pt] (.Tuple [e1, .List [] pl] k2 pt2) X.env = pure (some [x, y])) (hij : i ≠ j) (hi : X.N[i]? = some x := by rfl) (hj : X.N[j]? = some y := by rfl)
    (hx : X.env.scope.names.lookup x = some .local := by rfl) (hy : X.env.scope.names.lookup y = some .local := by rfl) (hs : swapsWithSole [.Tuple [.Name x px, .Name y py] kt pt] (.Tuple [e1, .List [] pl] k2 pt2) pos.line X.env = pure false := by rfl)
    (he : starEach [e1, .List [] pl] X.env = (false, eval e1 X.env) :: starEach [.List [] pl] X.env := by rfl) :
    DS X c (.Assign [.Tuple [.Name x px, .Name y py] kt pt] (.Tuple [e1, .List [] pl] k2 pt2) pos) (parO i j m) := by
  have hl : PA X [e1, .List [] pl] (tCons (tD X.K c m) (tCons (tN X.K c (lstD (ret []))) tNil)) := pa_cons ha (pa_cons (dn_lst dl_nil) pa_nil) he
  refine ps_imp (ps_par hc hN hi hj hij hx hy hl hw hs) fun D' σ H ⟨F, S, r, o, S', e, q⟩ => ?_
  obtain ⟨x1, S1, e1', e2⟩ := bnd_some e
  cases e2
  have hemp : (lstD (ret [])) S1 = some (PyData.list [], S1) := by
    unfold lstD
    rw [bnd_eq (show ret ([] : List D) S1 = some ([], S1) from rfl)]
    show (if ([] : List D).length ≤ sizeLine then ret (PyData.list []) else fun _ => none) S1 = _
    rw [if_pos (show ([] : List D).length ≤ sizeLine from Nat.zero_le _)]
    rfl
  refine ⟨F, S, r, x1, S1, e1', fun F1 H1 v s1 r1 d1 => ⟨F1, S1, r1, [], S1, hemp, fun F' H' l ws s r' g1 g2 g3 g4 g5 => ?_⟩⟩
  refine ⟨v, .ref l, rfl, ?_⟩
  have ra := r'.set_fz (i := i) (Dp.up s _ _ d1)
  have rb := ra.adopt (i := j) g4 g1 g2 (fun k b hk => ?_) g5
  · exact q F' H' _ (s1.trans s) rb
  · by_cases hik : i = k
    · subst hik
      have hk' : (S1.env.set i (.fz x1))[i]? = some (.own b) := hk
      by_cases hl2 : i < S1.env.length
      · rw [List.getElem?_set_self hl2] at hk'
        cases hk'
      · rw [List.getElem?_eq_none (by simp; omega)] at hk'
        cases hk'
    · have hk' : (S1.env.set i (.fz x1))[k]? = some (.own b) := hk
      rw [List.getElem?_set_ne hik] at hk' ⊢
      exact g3 k b hk'
end
/-- whatever stands beside -/
def tSx (K : PySem.W.Frag) (m : MS) : TS := fun D σ H => ∃ c, tS K c m D σ H
theorem pss_ex {X : Cx} {ss : List Stmt} {m : MS} (h : ∀ c, DSs X c ss m) : PSs X ss (tSx X.K m) := ⟨fun pins s σ H D I ⟨c, q⟩ => (h c).run pins s σ H D I q⟩
theorem ite_t {b : Bool} {p q : Prop} (h : b = true) (x : p) : if b = true then p else q := by
  rw [if_pos h]
  exact x
theorem ite_f {b : Bool} {p q : Prop} (h : b = false) (x : q) : if b = true then p else q := by
  rw [h, if_neg Bool.false_ne_true]
  exact x
theorem tAnd_val {a b : TT} {σ : L2.St} {H : Hp} {Q : Bool → Hp → Prop} {x y : Bool} (ha : ∀ Q' : Bool → Hp → Prop, Q' x H → a σ H Q') (hb : ∀ Q' : Bool → Hp → Prop, Q' y H → b σ H Q') (q : Q (x && y) H) : tAnd a b σ H Q := by
  unfold tAnd
  refine ha _ ?_
  cases x with
  | true => exact ite_t rfl (hb _ q)
  | false => exact ite_f rfl q
theorem popR_stop {left : Int} {cs : List Int} (h : ¬ (left < 2 ∧ cs ≠ [])) : popR left cs = (left, cs) := by
  cases cs with
  | nil => rfl
  | cons c cs =>
    unfold popR
    rw [if_neg fun w => h ⟨w, List.cons_ne_nil _ _⟩]
/-! ### the source's beginning -/
def stir (ns : List Int) : Int := ns.foldl (fun s c => (s * 69069 + c * 31 + 5).fmod 2147483629) 11
theorem stir_succ {ns : List Int} {i : Nat} {c : Int} (h : ns[i]? = some c) : stir (ns.take (i + 1)) = (stir (ns.take i) * 69069 + c * 31 + 5).fmod 2147483629 := by
  unfold stir
  rw [List.take_add_one, h]
  simp [List.foldl_append]
def absI (i : Int) : Int := if i < 0 then -i else i
def openS (ns : List Int) : Src := ⟨(ns.map absI).reverse, 1, stir ns, 0⟩
theorem s_cl : ¬ (Str.ofString "cells" = Str.ofString "left") := by decide +kernel
theorem s_cm : ¬ (Str.ofString "cells" = Str.ofString "mixed") := by decide +kernel
theorem s_ct : ¬ (Str.ofString "cells" = Str.ofString "turn") := by decide +kernel
theorem s_lm : ¬ (Str.ofString "left" = Str.ofString "mixed") := by decide +kernel
theorem s_lt : ¬ (Str.ofString "left" = Str.ofString "turn") := by decide +kernel
theorem s_mt : ¬ (Str.ofString "mixed" = Str.ofString "turn") := by decide +kernel
theorem mergeK_src (pc : Addr) (s : Src) : mergeK [] (kvSrc pc s) = kvSrc pc s := by
  unfold mergeK kvSrc putK
  simp [s_cl, s_cm, s_ct, s_lm, s_lt, s_mt]
/-- what _law_open_cells promises -/
def spOpen (K : PySem.W.Frag) : Sp := fun vs H Q _ => ∃ (a : Addr) (ns : List Int), vs = [.ref a] ∧ ns.length ≤ 1000 ∧ SqL K H a (ns.map V.int) ∧ ∀ H' ps pc, Same H H' → H ps = none → H pc = none → SrcAt ps pc (openS ns) H' → Q (.ref ps) H'
end DL

-- part DL18
set_option Elab.async false
set_option linter.all false
set_option maxRecDepth 100000
set_option maxHeartbeats 1000000
/-! DL18: the functions evaluated. -/
namespace DL
open PySem PySem.Spec PyProof.Rows L2 RZ
section
variable {α β : Type} {S S1 S2 : Sta} {m : MV D} {t : MV Bool} {a b : MS} {d : D}
theorem e_seq {o : Option (Out × Sta)} (h : a S = some (.nx, S1)) (h2 : b S1 = o) : seqS a b S = o := by
  unfold seqS
  rw [bnd_eq h]
  exact h2
theorem e_seqR (h : a S = some (.rt d, S1)) : seqS a b S = some (.rt d, S1) := by
  unfold seqS
  rw [bnd_eq h]
  rfl
theorem e_asg {i : Nat} (h : m S = some (d, S1)) : asgS i m S = some (.nx, { S1 with env := S1.env.set i (.fz d) }) := by
  unfold asgS
  rw [bnd_eq h]
  rfl
theorem e_asgN {i : Nat} {ys : List D} (h : m S = some (.list ys, S1)) : asgN i m S = some (.nx, { S1 with env := S1.env.set i (.own ys) }) := by
  unfold asgN
  rw [bnd_eq h]
  rfl
theorem e_ret (h : m S = some (d, S1)) : retS m S = some (.rt d, S1) := by
  unfold retS
  rw [bnd_eq h]
  rfl
theorem e_ifT {o : Option (Out × Sta)} (h : t S = some (true, S1)) (h2 : a S1 = o) : ifS t a b S = o := by
  unfold ifS
  rw [bnd_eq h, if_pos rfl]
  exact h2
theorem e_ifF {o : Option (Out × Sta)} (h : t S = some (false, S1)) (h2 : b S1 = o) : ifS t a b S = o := by
  unfold ifS
  rw [bnd_eq h, if_neg Bool.false_ne_true]
  exact h2
theorem e_ifDT {m n : MV D} {o : Option (D × Sta)} (h : t S = some (true, S1)) (h2 : m S1 = o) : ifD t m n S = o := by
  unfold ifD
  rw [bnd_eq h, if_pos rfl]
  exact h2
theorem e_ifDF {m n : MV D} {o : Option (D × Sta)} (h : t S = some (false, S1)) (h2 : n S1 = o) : ifD t m n S = o := by
  unfold ifD
  rw [bnd_eq h, if_neg Bool.false_ne_true]
  exact h2
theorem e_toB {k : Bool} (h : m S = some (.bool k, S1)) : toB m S = some (k, S1) := toB_eq h
theorem e_op2 {f : D → D → Option D} {n : MV D} {x y z : D} (h1 : m S = some (x, S1)) (h2 : n S1 = some (y, S2)) (h3 : f x y = some z) : op2 f m n S = some (z, S2) := by
  unfold op2
  rw [bnd_eq h1, bnd_eq h2, h3]
  rfl
theorem e_op1 {f : D → Option D} {x z : D} (h1 : m S = some (x, S1)) (h3 : f x = some z) : op1 f m S = some (z, S1) := by
  unfold op1
  rw [bnd_eq h1, h3]
  rfl
theorem e_call {f : DF} {l : MV (List Arg)} {as : List Arg} {s' : Src} (h : l S = some (as, S1)) (h2 : f as S1.src = some (d, s')) : callD f l S = some (d, { S1 with src := s' }) := by
  unfold callD
  rw [bnd_eq h]
  show (match f as S1.src with | some (d, s') => _ | none => none) = _
  rw [h2]
theorem e_callN {g : List D → Option D} {n : MV (List D)} {xs : List D} (h : n S = some (xs, S1)) (h2 : g xs = some d) : callN g n S = some (d, S1) := by
  unfold callN
  rw [bnd_eq h, h2]
  rfl
theorem e_cons {n : MV (List D)} {xs : List D} (h : m S = some (d, S1)) (h2 : n S1 = some (xs, S2)) : consL m n S = some (d :: xs, S2) := by
  unfold consL
  rw [bnd_eq h, bnd_eq h2]
  rfl
theorem e_consA {n : MV (List Arg)} {xs : List Arg} (h : m S = some (d, S1)) (h2 : n S1 = some (xs, S2)) : consA m n S = some (.d d :: xs, S2) := by
  unfold consA
  rw [bnd_eq h, bnd_eq h2]
  rfl
theorem e_one (h : m S = some (d, S1)) : consL m (ret []) S = some ([d], S1) := e_cons h rfl
theorem e_tup {n : MV (List D)} {xs : List D} (h : n S = some (xs, S1)) (hl : xs.length ≤ 1000000) : tupD n S = some (.tuple xs, S1) := by
  unfold tupD
  rw [bnd_eq h]
  have : xs.length ≤ sizeLine := by have := sizeLine_eq; omega
  show (if xs.length ≤ sizeLine then ret (PyData.tuple xs) else fun _ => none) S1 = _
  rw [if_pos this]
  rfl
theorem e_lst {n : MV (List D)} {xs : List D} (h : n S = some (xs, S1)) (hl : xs.length ≤ 1000000) : lstD n S = some (.list xs, S1) := by
  unfold lstD
  rw [bnd_eq h]
  have : xs.length ≤ sizeLine := by have := sizeLine_eq; omega
  show (if xs.length ≤ sizeLine then ret (PyData.list xs) else fun _ => none) S1 = _
  rw [if_pos this]
  rfl
theorem e_seqI {xs : List D} (h : m S = some (d, S1)) (h2 : items d = some xs) : seqI m S = some (xs, S1) := by
  unfold seqI
  rw [bnd_eq h, h2]
  rfl
theorem e_and {p q : MV Bool} {k l : Bool} (h : p S = some (k, S1)) (h2 : k = true → q S1 = some (l, S2)) (h3 : k = false → l = false ∧ S2 = S1) : andT p q S = some (l, S2) := by
  unfold andT
  rw [bnd_eq h]
  cases k with
  | true =>
    rw [if_pos rfl]
    exact h2 rfl
  | false =>
    obtain ⟨rfl, rfl⟩ := h3 rfl
    rfl
theorem e_or {p q : MV Bool} {k l : Bool} (h : p S = some (k, S1)) (h2 : k = false → q S1 = some (l, S2)) (h3 : k = true → l = true ∧ S2 = S1) : orT p q S = some (l, S2) := by
  unfold orT
  rw [bnd_eq h]
  cases k with
  | false =>
    rw [if_neg Bool.false_ne_true]
    exact h2 rfl
  | true =>
    obtain ⟨rfl, rfl⟩ := h3 rfl
    rfl
theorem e_not {p : MV Bool} {k : Bool} (h : p S = some (k, S1)) : notT p S = some (!k, S1) := by
  unfold notT
  rw [bnd_eq h]
  rfl
/-- a loop without an early end -/
theorem e_for {p : Pat} (P : Nat → Sta → Prop) : ∀ (ds : List D) (k : Nat) (S : Sta), P k S →
    (∀ i d S, ds[i]? = some d → P (k + i) S → ∃ env1 S', p.bind d S.env = some env1 ∧ b { S with env := env1 } = some (.nx, S') ∧ P (k + i + 1) S') → ∃ S', forM p b ds S = some (.nx, S') ∧ P (k + ds.length) S'
  | [], k, S, h0, _ => ⟨S, rfl, h0⟩
  | d :: ds, k, S, h0, h => by
    obtain ⟨env1, S1, e1, e2, h1⟩ := h 0 d S rfl h0
    obtain ⟨S', e3, h3⟩ := e_for P ds (k + 1) S1 h1 fun i d' S' hi hp => by
      have := h (i + 1) d' S' hi (by rw [← Nat.add_assoc, Nat.add_right_comm]; exact hp)
      rw [show k + (i + 1) + 1 = k + 1 + i + 1 by omega] at this
      exact this
    refine ⟨S', ?_, by rw [List.length_cons, show k + (ds.length + 1) = k + 1 + ds.length by omega]; exact h3⟩
    unfold forM
    rw [e1]
    show bnd b _ { S with env := env1 } = _
    rw [bnd_eq e2]
    exact e3
/-- a loop that may return -/
theorem e_forR {p : Pat} (P : Nat → Sta → Prop) (R : D → Sta → Prop) : ∀ (ds : List D) (k : Nat) (S : Sta), P k S →
    (∀ i d S, ds[i]? = some d → P (k + i) S → ∃ env1 o S', p.bind d S.env = some env1 ∧ b { S with env := env1 } = some (o, S') ∧ ((o = .nx ∧ P (k + i + 1) S') ∨ ∃ r, o = .rt r ∧ R r S')) → ∃ o S', forM p b ds S = some (o, S') ∧ ((o = .nx ∧ P (k + ds.length) S') ∨ ∃ r, o = .rt r ∧ R r S')
  | [], k, S, h0, _ => ⟨.nx, S, rfl, .inl ⟨rfl, h0⟩⟩
  | d :: ds, k, S, h0, h => by
    obtain ⟨env1, o1, S1, e1, e2, h1⟩ := h 0 d S rfl h0
    rcases h1 with ⟨rfl, h1⟩ | ⟨r, rfl, h1⟩
    · obtain ⟨o, S', e3, h3⟩ := e_forR P R ds (k + 1) S1 h1 fun i d' S' hi hp => by
        have := h (i + 1) d' S' hi (by rw [← Nat.add_assoc, Nat.add_right_comm]; exact hp)
        rw [show k + (i + 1) + 1 = k + 1 + i + 1 by omega] at this
        exact this
      refine ⟨o, S', ?_, by rw [List.length_cons, show k + (ds.length + 1) = k + 1 + ds.length by omega]; exact h3⟩
      unfold forM
      rw [e1]
      show bnd b _ { S with env := env1 } = _
      rw [bnd_eq e2]
      exact e3
    · refine ⟨.rt r, S1, ?_, .inr ⟨r, rfl, h1⟩⟩
      unfold forM
      rw [e1]
      show bnd b _ { S with env := env1 } = _
      rw [bnd_eq e2]
      rfl
theorem e_forS {i : MV (List D)} {p : Pat} {ds : List D} {o : Option (Out × Sta)} (h : i S = some (ds, S1)) (h2 : forM p b ds S1 = o) : forS i p b S = o := by
  unfold forS
  rw [bnd_eq h]
  exact h2
/-- a comprehension whose words change nothing: g tells what each item gives -/
theorem e_compM {vs : List Nat} {p : Pat} {t : MV Bool} {m : MV D} {env : List Slot} {s : Src} (g : D → Option D) : ∀ (ds : List D),
    (∀ d ∈ ds, ∃ env1, p.bind d env = some env1 ∧ wipeE env1 vs = env ∧ ((g d = none ∧ t ⟨env1, s⟩ = some (false, ⟨env1, s⟩)) ∨ ∃ y, g d = some y ∧ t ⟨env1, s⟩ = some (true, ⟨env1, s⟩) ∧ m ⟨env1, s⟩ = some (y, ⟨env1, s⟩))) →
    compM vs p t m ds ⟨env, s⟩ = some (ds.filterMap g, ⟨env, s⟩)
  | [], _ => rfl
  | d :: ds, h => by
    have ih := e_compM g ds fun d' hd => h d' (List.mem_cons_of_mem _ hd)
    obtain ⟨env1, h1, h2, h3⟩ := h d List.mem_cons_self
    unfold compM
    rw [h1]
    rcases h3 with ⟨g1, g2⟩ | ⟨y, g1, g2, g3⟩
    · show bnd t _ ⟨env1, s⟩ = _
      rw [bnd_eq g2, if_neg Bool.false_ne_true]
      show compM vs p t m ds ⟨wipeE env1 vs, s⟩ = _
      rw [h2, ih, List.filterMap_cons, g1]
    · show bnd t _ ⟨env1, s⟩ = _
      rw [bnd_eq g2, if_pos rfl, bnd_eq g3]
      show bnd (compM vs p t m ds) _ ⟨wipeE env1 vs, s⟩ = _
      rw [h2, bnd_eq ih, List.filterMap_cons, g1]
      rfl
theorem e_compF {vs : List Nat} {i : MV (List D)} {p : Pat} {t : MV Bool} {m : MV D} {ds : List D} {env : List Slot} {s : Src} (g : D → Option D) (hi : i S = some (ds, ⟨env, s⟩)) (ho : vs.all (fun v => !(env.getD v .un).isOwn) = true) (hl : ds.length ≤ 1000000)
    (hb : backE env (wipeE env vs) vs = env)
    (h : ∀ d ∈ ds, ∃ env1, p.bind d (wipeE env vs) = some env1 ∧ wipeE env1 vs = wipeE env vs ∧ ((g d = none ∧ t ⟨env1, s⟩ = some (false, ⟨env1, s⟩)) ∨ ∃ y, g d = some y ∧ t ⟨env1, s⟩ = some (true, ⟨env1, s⟩) ∧ m ⟨env1, s⟩ = some (y, ⟨env1, s⟩))) :
    compD vs i p t m S = some (.list (ds.filterMap g), ⟨env, s⟩) := by
  unfold compD
  rw [bnd_eq hi]
  show (if vs.all (fun v => !(env.getD v .un).isOwn) = true ∧ ds.length ≤ 1000000 then _ else _) = _
  rw [if_pos ⟨ho, hl⟩, e_compM g ds h]
  show some (PyData.list (ds.filterMap g), ({ env := backE env (wipeE env vs) vs, src := s } : Sta)) = _
  rw [hb]
/-- the same over typed items, none left out -/
theorem e_comp {α : Type} {vs : List Nat} {i : MV (List D)} {p : Pat} {m : MV D} {env : List Slot} {s : Src} (xs : List α) (e : α → D) (f : α → D) (hi : i S = some (xs.map e, ⟨env, s⟩)) (ho : vs.all (fun v => !(env.getD v .un).isOwn) = true) (hl : xs.length ≤ 1000000)
    (hb : backE env (wipeE env vs) vs = env) (h : ∀ x ∈ xs, ∃ env1, p.bind (e x) (wipeE env vs) = some env1 ∧ wipeE env1 vs = wipeE env vs ∧ m ⟨env1, s⟩ = some (f x, ⟨env1, s⟩)) :
    compD vs i p (ret true) m S = some (.list (xs.map f), ⟨env, s⟩) := by
  have key : ∀ (ys : List α), (∀ x ∈ ys, x ∈ xs) → compM vs p (ret true) m (ys.map e) ⟨wipeE env vs, s⟩ = some (ys.map f, ⟨wipeE env vs, s⟩) := by
    intro ys
    induction ys with
    | nil => intro _; rfl
    | cons y ys ih =>
      intro hy
      obtain ⟨env1, h1, h2, h3⟩ := h y (hy y List.mem_cons_self)
      have ih' := ih fun x hx => hy x (List.mem_cons_of_mem _ hx)
      show compM vs p (ret true) m (e y :: ys.map e) _ = _
      unfold compM
      show (match p.bind (e y) (wipeE env vs) with | none => none | some env1 => _) = _
      rw [h1]
      show bnd (ret true) _ ⟨env1, s⟩ = _
      rw [bnd_eq (show ret true (⟨env1, s⟩ : Sta) = some (true, ⟨env1, s⟩) from rfl), if_pos rfl, bnd_eq h3]
      show bnd (compM vs p (ret true) m (ys.map e)) _ ⟨wipeE env1 vs, s⟩ = _
      rw [h2, bnd_eq ih']
      rfl
  unfold compD
  rw [bnd_eq hi]
  show (if vs.all (fun v => !(env.getD v .un).isOwn) = true ∧ (xs.map e).length ≤ 1000000 then _ else _) = _
  rw [if_pos ⟨ho, by rw [List.length_map]; exact hl⟩, key xs fun _ h => h]
  show some (PyData.list (xs.map f), ({ env := backE env (wipeE env vs) vs, src := s } : Sta)) = _
  rw [hb]
/-- .. some left out -/
theorem e_compIf {α : Type} {vs : List Nat} {i : MV (List D)} {p : Pat} {t : MV Bool} {m : MV D} {env : List Slot} {s : Src} (xs : List α) (e : α → D) (q : α → Bool) (f : α → D) (hi : i S = some (xs.map e, ⟨env, s⟩)) (ho : vs.all (fun v => !(env.getD v .un).isOwn) = true) (hl : xs.length ≤ 1000000)
    (hb : backE env (wipeE env vs) vs = env) (h : ∀ x ∈ xs, ∃ env1, p.bind (e x) (wipeE env vs) = some env1 ∧ wipeE env1 vs = wipeE env vs ∧ t ⟨env1, s⟩ = some (q x, ⟨env1, s⟩) ∧ (q x = true → m ⟨env1, s⟩ = some (f x, ⟨env1, s⟩))) :
    compD vs i p t m S = some (.list ((xs.filter q).map f), ⟨env, s⟩) := by
  have key : ∀ (ys : List α), (∀ x ∈ ys, x ∈ xs) → compM vs p t m (ys.map e) ⟨wipeE env vs, s⟩ = some ((ys.filter q).map f, ⟨wipeE env vs, s⟩) := by
    intro ys
    induction ys with
    | nil => intro _; rfl
    | cons y ys ih =>
      intro hy
      obtain ⟨env1, h1, h2, h3, h4⟩ := h y (hy y List.mem_cons_self)
      have ih' := ih fun x hx => hy x (List.mem_cons_of_mem _ hx)
      show compM vs p t m (e y :: ys.map e) _ = _
      unfold compM
      show (match p.bind (e y) (wipeE env vs) with | none => none | some env1 => _) = _
      rw [h1]
      show bnd t _ ⟨env1, s⟩ = _
      cases hq : q y with
      | true =>
        rw [hq] at h3
        rw [bnd_eq h3, if_pos rfl, bnd_eq (h4 hq)]
        show bnd (compM vs p t m (ys.map e)) _ ⟨wipeE env1 vs, s⟩ = _
        rw [h2, bnd_eq ih', List.filter_cons, if_pos hq]
        rfl
      | false =>
        rw [hq] at h3
        rw [bnd_eq h3, if_neg Bool.false_ne_true]
        show compM vs p t m (ys.map e) ⟨wipeE env1 vs, s⟩ = _
        rw [h2, ih', List.filter_cons, if_neg (by rw [hq]; exact Bool.false_ne_true)]
  unfold compD
  rw [bnd_eq hi]
  show (if vs.all (fun v => !(env.getD v .un).isOwn) = true ∧ (xs.map e).length ≤ 1000000 then _ else _) = _
  rw [if_pos ⟨ho, by rw [List.length_map]; exact hl⟩, key xs fun _ h => h]
  show some (PyData.list ((xs.filter q).map f), ({ env := backE env (wipeE env vs) vs, src := s } : Sta)) = _
  rw [hb]
end
theorem e_def {n : Nat} {b : MS} {as : List Arg} {s : Src} {d : D} {S' : Sta} (h : b ⟨as.map slotOf ++ List.replicate (n - as.length) .un, s⟩ = some (.rt d, S')) : defM n b as s = some (d, S'.src) := by
  unfold defM
  rw [h]
/-! ### data -/
abbrev dI (n : Int) : D := .int n
abbrev tI' (ns : List Int) : D := .tuple (ns.map PyData.int)
abbrev lI (ns : List Int) : D := .list (ns.map PyData.int)
abbrev pI (p : Int × Int) : D := .tuple [.int p.1, .int p.2]
theorem eqvAll_ints : ∀ (a b : List Int), PyData.eqvAll (a.map PyData.int) (b.map PyData.int) = decide (a = b)
  | [], [] => by simp [PyData.eqvAll]
  | [], _ :: _ => by simp [PyData.eqvAll]
  | _ :: _, [] => by simp [PyData.eqvAll]
  | x :: a, y :: b => by
    have ih := eqvAll_ints a b
    simp only [List.map_cons, PyData.eqvAll, PyData.eqv, ih]
    by_cases h : x = y
    · subst h
      by_cases h2 : a = b
      · simp [h2]
      · simp [h2]
    · simp [h]
theorem lay_ints : ∀ a : List Int, PyData.canLayAll0 (a.map PyData.int) = true
  | [] => by simp [PyData.canLayAll0]
  | x :: a => by simp [PyData.canLayAll0, PyData.canLay0, lay_ints a]
theorem dep_ints : ∀ a : List Int, PyData.depthAll (a.map PyData.int) = 0
  | [] => by simp [PyData.depthAll]
  | x :: a => by simp [PyData.depthAll, PyData.depth, dep_ints a]
theorem ok_lI (a : List Int) : okD (lI a) = true := by
  unfold okD
  simp [PyData.canLay0, PyData.depth, lay_ints, dep_ints]
theorem ok_tI (a : List Int) : okD (tI' a) = true := by
  unfold okD
  simp [PyData.canLay0, PyData.depth, lay_ints, dep_ints]
theorem eq_lI (a b : List Int) : eqD (lI a) (lI b) = some (.bool (decide (a = b))) := by
  unfold eqD
  rw [if_pos ⟨ok_lI a, ok_lI b⟩]
  show some (PyData.bool (PyData.eqv (.list _) (.list _))) = _
  simp only [PyData.eqv]
  rw [eqvAll_ints]
theorem ne_lI (a b : List Int) : neD (lI a) (lI b) = some (.bool (decide (a ≠ b))) := by
  unfold neD
  rw [if_pos ⟨ok_lI a, ok_lI b⟩]
  show some (PyData.bool (!PyData.eqv (.list _) (.list _))) = _
  simp only [PyData.eqv]
  rw [eqvAll_ints]
  simp
theorem ne_tI (a b : List Int) : neD (tI' a) (tI' b) = some (.bool (decide (a ≠ b))) := by
  unfold neD
  rw [if_pos ⟨ok_tI a, ok_tI b⟩]
  show some (PyData.bool (!PyData.eqv (.tuple _) (.tuple _))) = _
  simp only [PyData.eqv]
  rw [eqvAll_ints]
  simp
theorem eq_int (a b : Int) : eqD (.int a) (.int b) = some (.bool (decide (a = b))) := by
  unfold eqD okD
  simp [PyData.canLay0, PyData.depth, PyData.eqv]
  by_cases h : a = b <;> simp [h]
theorem ne_int (a b : Int) : neD (.int a) (.int b) = some (.bool (decide (a ≠ b))) := by
  unfold neD okD
  simp [PyData.canLay0, PyData.depth, PyData.eqv]
  by_cases h : a = b <;> simp [h]
theorem ne_bool (a b : Bool) : neD (.bool a) (.bool b) = some (.bool (decide (a ≠ b))) := by
  unfold neD okD
  cases a <;> cases b <;> simp [PyData.canLay0, PyData.depth, PyData.eqv]
end DL

-- part DL19
set_option Elab.async false
set_option linter.all false
set_option maxRecDepth 100000
set_option maxHeartbeats 1000000
/-! DL19: the pick that keeps its stirred number; a source's beginning with any numbers. -/
namespace DL
open PySem PySem.Spec PyProof.Rows L2 RZ
def pickC (m : Int) (s : Src) : Int × Src :=
  if m < 2 then (0, s) else
  let p := popR s.left s.cells.reverse
  if 1 < p.1 then (p.1.fmod m, { s with cells := p.2.reverse, left := p.1 / m }) else
  let lap := s.turn + 1
  let a := (s.mixed + lap * 104729).fmod 998244353
  let b := (a * a + lap * 17).fmod 2147483647
  ((b / 16).fmod m, { cells := p.2.reverse, left := p.1, mixed := b, turn := lap })
def pickCF : DF := fun as s => match as with
  | [.src, .d (.int m)] => if m.natAbs < 2 ^ 60 then some (.int (pickC m s).1, (pickC m s).2) else none
  | _ => none
theorem pickC_bd (m : Int) (s : Src) : 0 ≤ (pickC m s).1 ∧ ((pickC m s).1 < m ∨ (pickC m s).1 = 0) := by
  unfold pickC
  by_cases h : m < 2
  · rw [if_pos h]
    exact ⟨Int.le_refl 0, .inr rfl⟩
  · rw [if_neg h]
    have hm : 0 < m := by omega
    by_cases h2 : 1 < (popR s.left s.cells.reverse).1
    · simp only [if_pos h2]
      exact ⟨(fmod_bd hm).1, .inl (fmod_bd hm).2⟩
    · simp only [if_neg h2]
      exact ⟨(fmod_bd hm).1, .inl (fmod_bd hm).2⟩
section
variable {H0 H : Hp} {ps pc : Addr} {s : Src}
theorem k_cm' : ¬ ((.inr "cells" : Key) = .inr "mixed") := by decide +kernel
theorem k_tm' : ¬ ((.inr "turn" : Key) = .inr "mixed") := by decide +kernel
theorem putM (v : Int) : putK (kvSrc pc s) (.inr "mixed") (.int v) = kvSrc pc { s with mixed := v } := by
  unfold kvSrc putK
  rw [if_pos (by simp)]
  simp only [List.map_cons, List.map_nil, if_true]
  rw [if_neg k_cm, if_neg k_lm, if_neg k_tm']
theorem put_mixed (v : Int) : DPut (stH H0 ps pc s) ps (.str "mixed") (.int v) (stH H0 ps pc { s with mixed := v }) := .inl ⟨_, .inr "mixed", stH_d, rfl, len4, (stH_put (s := s) (s' := { s with mixed := v }) (putM v) rfl).symm⟩
end
/-! ### the source's beginning, by its numbers -/
def stirG (i0 a b c : Int) (ns : List Int) : Int := ns.foldl (fun s k => (s * a + k * b + c).fmod 2147483629) i0
theorem stirG_succ {i0 a b c : Int} {ns : List Int} {i : Nat} {k : Int} (h : ns[i]? = some k) : stirG i0 a b c (ns.take (i + 1)) = (stirG i0 a b c (ns.take i) * a + k * b + c).fmod 2147483629 := by
  unfold stirG
  rw [List.take_add_one, h]
  simp [List.foldl_append]
def openG (i0 a b c left : Int) (ns : List Int) : Src := ⟨(ns.map absI).reverse, left, stirG i0 a b c ns, 0⟩
def spOpenG (o : List Int → Src) (K : PySem.W.Frag) : Sp := fun vs H Q _ => ∃ (a : Addr) (ns : List Int), vs = [.ref a] ∧ ns.length ≤ 1000 ∧ SqL K H a (ns.map V.int) ∧ ∀ H' ps pc, Same H H' → H ps = none → H pc = none → SrcAt ps pc (o ns) H' → Q (.ref ps) H'
end DL


-- part DL20
set_option Elab.async false
set_option linter.all false
set_option maxRecDepth 100000
set_option maxHeartbeats 1000000
/-! DL20: the layer where no repr is under way: a room that knows it, defs and calls over it. -/
namespace DL
open PySem PySem.Spec PyProof.Rows L2 RZ
structure RoomG (k : Nat) (A : Around) : Prop where
  r : Room k A
  g : A.guards = some []
theorem RoomG.mono {j k : Nat} {A : Around} (r : RoomG k A) (h : j ≤ k) : RoomG j A := ⟨r.r.mono h, r.g⟩
theorem RoomG.deeper {k : Nat} {A : Around} (r : RoomG (k + 1) A) (env : Env) : RoomG k (A.deeper env) := ⟨r.r.deeper env, r.g⟩
/-- a def's promise where no repr is under way -/
structure FnG (P : Program) (w : World) (K : PySem.W.Frag) (mg : Str → Option Value) (base : Heap) (k : Nat) (f : Addr) (fd : FuncData) (ps : List Str) (sp : Sp) : Prop where
  len : ∀ vs H Q E, sp vs H Q E → vs.length = ps.length
  run : ∀ (B : Around) (up : List Env) (s : Shared) (H : Hp) (args : Args) (us : List Value) (vs : List V) (Q : VK) (E : XK), RoomG k B → Env0 P w K mg base B up s H → BindsTo s fd args (ps.zip us) → Vals vs us → sp vs H Q E → codeAny (model P w) B (.call (.ref f) args) (CR CX0 up P w H s Q E) s
section
variable {P : Program} {w : World} {K : PySem.W.Frag} {mg : Str → Option Value} {base : Heap} {x qual : Str} {params : Arguments} {body : List Stmt} {scope : Scope} {dvs : List V} {kws : List (Str × V)} {f : Addr} {fd : FuncData}
theorem okG {N ps : List Str} {k : Nat} {sp : Sp} (F : FunD K x qual params body scope dvs kws f fd) (S : FnScope N ps scope) (len : ∀ vs H Q E, sp vs H Q E → vs.length = ps.length)
    (hb : ∀ (cdv : Value) (B : Around) (up : List Env) (s : Shared) (H : Hp) (vs : List V) (Q : VK) (E : XK), RoomG k (B.deeper (envOfC qual scope s.heap.objs.size f cdv)) → sp vs H Q E → ∃ t, PSs (cxOf CX0 P w K mg base N qual scope f cdv B up s H E) body t ∧ t { nx := fun _ H' => Q .non H', rt := Q } (start N vs) H) :
    FnG P w K mg base (k + 1) f fd ps sp := by
  obtain ⟨c0, d0, dV, kV, doc, pm, an, cdv, ct, sl, e, lk, hcd, _, _⟩ := F.ex
  subst e
  refine ⟨len, fun B up s H args us vs Q E room en bind rel want => ?_⟩
  have inK : K.In s.heap := en.mod.kin.keeps fun b o z => (en.bs b o z).1
  have count := len vs H Q E want
  have kinds : ∀ q ∈ ps.zip us, scope.names.lookup q.1 = some .local ∨ (scope.names.lookup q.1 = some .cell ∧ ((cellsFrom (s.heap.objs.size + 1) scope.names []).lookup q.1).isSome = true) := fun q hq => (S.par q.1 (List.of_mem_zip hq).1).elim .inl fun c => .inr ⟨c, PySem.W.cellsFrom_some _ _ _ (.inl c)⟩
  refine codeAny_call_function room.r.depth (inK _ _ lk) rfl S.co S.gen rfl (PySem.W.codeRec_of inK hcd) (bind _ _ _ _ (wpAny_newFunctionEnv_cells S.kind kinds fun env eq s1 made => ?_))
  subst eq
  have free : s.heap.NoLimit := en.mod.nolimit.keeps fun b o z => (en.bs b o z).1
  refine ⟨free.keeps made.toInCall.keep, codeAny_func ?_⟩
  obtain ⟨t, walk, start0⟩ := hb cdv B up s H vs Q E (room.deeper _) want
  have I0 : Inv (cxOf CX0 P w K mg base N qual scope f cdv B up s H E) [] (start N vs) H s1 := inv_start S room.r.hd en count rel made
  refine wpAny_mono (walk.run [] s1 (start N vs) H _ I0 start0) (fun fl s2 got => ?_) fun _ _ z => z
  match fl, got with
  | .ret u, ⟨v, _, H2, J, rv, q⟩ => exact ⟨v, H2, J.os, J.bare, J.base, J.hok, rv, q⟩
  | .next, ⟨_, H2, J, q⟩ => exact ⟨V.non, H2, J.os, J.bare, J.base, J.hok, rfl, q⟩
  | .brk, ⟨_, _, _, q⟩ => exact q.elim
  | .cont, ⟨_, _, _, q⟩ => exact q.elim
theorem def_okG {N ps : List Str} {k : Nat} {b : MS} (F : FunD K x qual params body scope dvs kws f fd) (S : FnScope N ps scope) (hN : ps.length ≤ N.length)
    (h : ∀ (X : Cx) (c : Fr) (cdv : Value) (A : Around) (outer : List Env) (s : Shared) (H : Hp) (E : XK), X = (cxOf CX0 P w K mg base N qual scope f cdv A outer s H E).nox → RoomG k X.A → DSs X c body b) : FnG P w K mg base (k + 1) f fd ps (spD ps.length (defM N.length b) K) := by
  refine okG F S (fun vs H Q E q => spD_len q) fun cdv A outer s H vs Q E hr q => ?_
  obtain ⟨c, z⟩ := t_def hN q
  exact ⟨tS K c b, PSs.nox (h _ c cdv A outer s H E rfl hr), z⟩
/-- the def named x, n arguments, does m, where no repr is under way -/
structure CalG (P : Program) (w : World) (K : PySem.W.Frag) (mg : Str → Option Value) (base : Heap) (x : Str) (n k : Nat) (m : DF) : Prop where
  ex : ∃ (f : Addr) (fd : FuncData) (ps : List Str), FnG P w K mg base k f fd ps (spD n m K) ∧ mg x = some (.ref f) ∧ PySem.W.keepIn K (.ref f) = true ∧ Binds K fd ps []
theorem FnG.of {k : Nat} {ps : List Str} {sp : Sp} (F : FnOk P w K mg base CX0 k f fd ps sp) : FnG P w K mg base k f fd ps sp := ⟨F.len, fun B up s H args us vs Q E r => F.run B up s H args us vs Q E r.r⟩
theorem CalG.of {n k : Nat} {m : DF} (h : Cal P w K mg base x n k m) : CalG P w K mg base x n k m := let ⟨f, fd, ps, F, z⟩ := h.ex; ⟨⟨f, fd, ps, .of F, z⟩⟩
theorem def_inG {N ps : List Str} {k : Nat} {b : MS} {x' : Str} (F : FunD K x' qual params body scope [] [] f fd) (S : FnScope N ps scope) (hN : ps.length ≤ N.length) (hm : mg x = some (.ref f))
    (hb : ∀ (kV doc pm : Value) (an : Option Addr) (cdv ct : Value) (us : List Value), us.length = ps.length → bindArgs (PySem.W.fnOf x' qual params body scope .none kV doc pm an cdv ct) ⟨us, []⟩ = pure (ps.zip us))
    (h : ∀ (c : Fr) (cdv : Value) (A : Around) (outer : List Env) (s : Shared) (H : Hp) (E : XK), RoomG k (XX P w K mg base N qual scope f cdv A outer s H E).A → DSs (XX P w K mg base N qual scope f cdv A outer s H E) c body b) :
    CalG P w K mg base x ps.length (k + 1) (defM N.length b) :=
  ⟨⟨f, fd, ps, def_okG F S hN (fun X c cdv A outer s H E e r => by subst e; exact h c cdv A outer s H E r), hm, F.kp, F.bindsN hb⟩⟩
end
section
variable {X : Cx} {c : Fr} {e : Expr} {es : List Expr} {m : MV D} {pos : Pos} {l : MV (List Arg)}
theorem pe_callG {k : Nat} {f : Addr} {fd : FuncData} {ps : List Str} {sp : Sp} {dvs : List V} {ds : List Value} {E : XK} {x : Str} {p : Pos} {t : TA} (G : FnG X.prog X.w X.K X.mg X.base k f fd ps sp) (room : RoomG k X.A) (hg : Gl X x) (hm : X.mg x = some (.ref f)) (keep : PySem.W.keepIn X.K (.ref f) = true) (hb : Binds X.K fd ps ds) (hd : Vals dvs ds)
    (out : Passes CX0 X E) (ha : PA X (e :: es) t) (hdb : (x == ("__debug__" : Str)) = false := by decide) (he : starEach (e :: es) X.env = (false, eval e X.env) :: starEach es X.env := by rfl) (hpl : (backTo pos (starEach es X.env)).any (·.1) = false := by rfl) : PE X (.Call (.Name x p) (e :: es) [] pos) (tCall sp dvs E t) := by
  refine ⟨fun pins s σ H Q I want => wpAny_Call_Name_kw (ld_glob I hg hm (PySem.W.callWith_K (h₀ := X.base) I.ok.mod.kin keep (thn (ha.run pos pins s σ H _ I want) fun us s1 ⟨vs, H1, I1, rel, q⟩ => ⟨I1.kIn, ?_⟩) he hpl) hdb)⟩
  have both : Vals (vs ++ dvs) (us ++ ds) := rel.append hd
  have count : (us ++ ds).length = ps.length := both.length ▸ G.len _ _ _ _ q
  refine wpAny_call (codeAny_mono (G.run X.A X.stack s1 H1 ⟨us, []⟩ (us ++ ds) (vs ++ dvs) Q E room I1.env0 (hb s1 us I1.kIn count) both q) fun r s2 got => ?_)
  match r, got with
  | .error z, got => exact out pins σ H1 s1 z s2 I1 got
  | .ok (.ret u), got => exact I1.after got
  | .ok .next, got => exact False.elim got
  | .ok .brk, got => exact False.elim got
  | .ok .cont, got => exact False.elim got
theorem de_cG {n k j : Nat} {f : DF} {x : Str} {p : Pos} (C : CalG X.prog X.w X.K X.mg X.base x n k f) (hr : RoomG j X.A) (hk : k ≤ j) (hg : Gl X x)
    (ha : DA X c (e :: es) l) (hn : ∀ S as S', l S = some (as, S') → as.length = n) (hdb : (x == ("__debug__" : Str)) = false := by decide) (he : starEach (e :: es) X.env = (false, eval e X.env) :: starEach es X.env := by rfl) (hpl : (backTo pos (starEach es X.env)).any (·.1) = false := by rfl) :
    DE X c (.Call (.Name x p) (e :: es) [] pos) (callD f l) := by
  obtain ⟨ff, fd, ps, G, hm, kp, hb⟩ := C.ex
  exact pe_imp (pe_callG (E := E0) G (hr.mono hk) hg hm kp hb .nil pass0 ha hdb he hpl) fun σ H Q h => t_call hn h
end
end DL

-- part DL21
set_option Elab.async false
set_option linter.all false
set_option maxRecDepth 100000
set_option maxHeartbeats 1000000
/-! DL21: a law's call and walk, where its defs' promises want that no repr is under way. -/
namespace DL
open PySem PySem.Spec PyProof.Rows L2 RZ
/-- the script's abstract heap -/
theorem script_heap {P : Program} {w : World} {K : PySem.W.Frag} {a : Addr} {h : Heap} {vs : List Value} {ns : List Int} (inK : K.In h) (ha : h.get? a = some { cls := .type "list", data := .seq vs.toArray }) (numb : IntsAre vs ns) (size : ns.length ≤ sizeLine) :
    ∃ H : Hp, Only H ∧ SqL K H a (ns.map V.int) ∧ HOk P w H h ∧ (∀ b, H b ≠ none → b = a) ∧ (H a ≠ none → K.lookup a = none) := by
  have rel := vals_ints numb
  have count := numb.length
  by_cases own : K.lookup a = none
  · have self : (fun b => if b = a then some (HO.frz { cls := .type "list", data := .seq vs.toArray } (.lst (ns.map V.int))) else none : Hp) a = some (HO.frz { cls := .type "list", data := .seq vs.toArray } (.lst (ns.map V.int))) := if_pos rfl
    refine ⟨fun b => if b = a then some (HO.frz { cls := .type "list", data := .seq vs.toArray } (.lst (ns.map V.int))) else none, fun b => ?_, .inl (.inr ⟨_, self⟩), fun b u z => ?_, fun b z => Classical.byContradiction fun n => z (if_neg n), fun _ => own⟩
    · by_cases n : b = a
      · subst n
        exact .inr ⟨_, _, self⟩
      · exact .inl (if_neg n)
    · by_cases n : b = a
      · subst n
        cases self.symm.trans z
        exact ⟨ha, by rw [List.length_map]; exact size, vs, _, rel, ha⟩
      · cases (if_neg n).symm.trans z
  · obtain ⟨o, eo⟩ := Option.ne_none_iff_exists'.mp own
    have same := (inK a o eo).symm.trans ha
    cases same
    exact ⟨fun _ => none, fun _ => .inl rfl, .inr ⟨_, vs.toArray, _, eo, rfl, rfl, rfl, by rw [List.size_toArray, count]; exact size, by simpa using rel⟩, fun _ _ z => (nomatch z), fun _ z => absurd rfl z, fun z => absurd rfl z⟩
theorem law_callG {P : Program} {w : World} {K : PySem.W.Frag} {mg mb : Str → Option Value} {k : Nat} {fa a : Addr} {fd : FuncData} {x : Str} {sp : Sp} {s0 : Shared} {vs : List Value} {ns : List Int} (inK : K.In s0.heap) (glob : s0.heap.Ns mainGlobals mg) (blt : s0.heap.Ns builtinsNs mb)
    (boot : ∀ y : Str, y ≠ "__name__" → mb y = bootBuiltins y) (free : s0.heap.NoLimit) (none_ : s0.gens = #[]) (ha : s0.heap.get? a = some { cls := .type "list", data := .seq vs.toArray }) (numb : IntsAre vs ns) (size : ns.length ≤ sizeLine) (room : RoomG k callerA)
    (F : ∀ base : Heap, K.In base → base.Ns mainGlobals mg → FnG P w K mg base k fa fd [x] sp) (bind : ∀ (s : Shared) (u : Value), BindsTo s fd ⟨[u], []⟩ [(x, u)]) (want : ∀ H : Hp, Only H → SqL K H a (ns.map V.int) → sp [.ref a] H (fun v _ => v = .bl true) fun _ _ _ => False)
    (out : ∀ (H : Hp) (e : Value) (s2 : Shared), CX0 [] H s0 (fun _ _ _ => False) e s2 → False) : codeAny (model P w) callerA (.call (.ref fa) ⟨[.ref a], []⟩) (fun r s2 => r = .ok (.ret (.bool true)) ∧ OldK s0.heap s2.heap ∧ s2.os = s0.os ∧ AllBare s2.gens) s0 := by
  obtain ⟨H, only, seq, ok, sole, new⟩ := script_heap (P := P) (w := w) inK ha numb size
  have plain : ∀ {b : Addr} {o : Obj}, s0.heap.get? b = some o → (b = a → False) → (hidT s0.heap H).get? b = some o := fun {b o} z n => hidT_get z (Classical.byContradiction fun q => n (sole b q))
  have dictNs : ∀ {b : Addr} {m : Str → Option Value}, s0.heap.Ns b m → (hidT s0.heap H).Ns b m := fun {b m} ⟨o, es, ep, z, d, r⟩ => ⟨o, es, ep, plain z (fun n => by
    subst n
    cases ha.symm.trans z
    exact nomatch (show Data.seq vs.toArray _ = Data.dict es ep from d)), d, r⟩
  have keptK : K.In (hidT s0.heap H) := fun b o z => hidT_get (inK b o z) (Classical.byContradiction fun q => by
    have n := sole b q
    subst n
    rw [new q] at z
    exact nomatch z)
  obtain ⟨mc, l1, l2⟩ := free
  have en : Env0 P w K mg (hidT s0.heap H) callerA [] s0 H := ⟨rfl, ⟨keptK, dictNs glob, ⟨mb, dictNs blt, boot⟩, ⟨mc, dictNs l1, l2⟩⟩, fun b o z => of_hidT z, Nat.le_of_eq (hidT_size _ _), trivial, fun b z => (List.not_mem_nil (show b ∈ ([] : List Addr) from z)).elim, ok, .of_eq none_⟩
  refine codeAny_mono ((F _ keptK (dictNs glob)).run callerA [] s0 H ⟨[.ref a], []⟩ [.ref a] [.ref a] _ _ room en (bind s0 (.ref a)) (.cons rfl .nil) (want H only seq)) fun r s2 got => ?_
  match r, got with
  | .error z, got => exact (out H z s2 got).elim
  | .ok .next, got => exact False.elim got
  | .ok .brk, got => exact False.elim got
  | .ok .cont, got => exact False.elim got
  | .ok (.ret u), ⟨v, H2, os, bare, un, ok2, rv, q⟩ =>
    have q' : v = .bl true := q
    subst q'
    obtain rfl : u = Value.bool true := rv
    refine ⟨rfl, .of_keep fun b o z => ?_, os, bare⟩
    rcases only b with n | ⟨ob, xs, n⟩
    · exact un.keep b o z n (fun y => (List.not_mem_nil (show b ∈ ([] : List Addr) from y)).elim) (fun y => (List.not_mem_nil y).elim)
    · cases z.symm.trans (ok b _ n).1
      exact (ok2 b _ (un.frzs b _ _ n)).1
/-- the walk of a law over a head by facts -/
theorem walk_ofG {l : PySem.W.OpenLaw} {n k : Nat} {q : Program} {loose : List Str} {XP : (Str → Option Value) → Heap → Prop} {YP : World → Heap → Prop} {d : DefRec} {x : Str} (most : l.most = some n) (small : n ≤ sizeLine) (nodef : d.params.defaults = []) (room : RoomG k callerA)
    (F : ∀ (w : World) (mg : Str → Option Value) (fa : Addr) (h : Heap), YP w h → h.Ns mainGlobals mg → mg d.name = some (.ref fa) → ∃ (K : PySem.W.Frag) (fd : FuncData) (sp : Sp), K.In h ∧ (∀ (s : Shared) (u : Value), BindsTo s fd ⟨[u], []⟩ [(x, u)]) ∧
      (∀ (H : Hp) (a : Addr) (ns : List Int), ns.length ≤ n → Only H → SqL K H a (ns.map V.int) → sp [.ref a] H (fun v _ => v = .bl true) fun _ _ _ => False) ∧ ∀ base : Heap, K.In base → base.Ns mainGlobals mg → FnG l.prog w K mg base k fa fd [x] sp) :
    PySem.W.WalkO q loose XP YP l.row.toRowW d [] (fun f vs => PySem.call f vs) :=
  Att.attach_call most nodef fun w s0 s1 mg mb fa o pm cd doc a vs ns G Y ho hd hcd hmg obj numb len gen => by
    obtain ⟨K, fd, sp, inK, bind, want, F1⟩ := F w mg fa _ Y G.T.g hmg
    exact law_callG inK G.T.g G.T.b G.T.builtins G.T.nolimit gen obj numb (Nat.le_trans len small) room F1 bind (fun H o1 q1 => want H a ns len o1 q1) fun H e s2 z => z
end DL

-- part DL22
set_option Elab.async false
set_option linter.all false
set_option maxRecDepth 100000
set_option maxHeartbeats 1000000
/-! DL22: repr of deep data, where no repr is under way. -/
namespace DL
open PySem PySem.Spec PyProof.Rows L2 RZ
def reprD : List D → Option D
  | [d] => if d.showable = true ∧ d.hasDict = false ∧ d.depth ≤ 60 ∧ d.shown.length ≤ sizeLine then some (.str d.shown) else none
  | _ => none
section
variable {X : Cx}
theorem callr_repr {k : Nat} (hr : RoomG k X.A) : CallR X (.builtin "repr") (rnD X.K reprD) := by
  rintro pins s σ H xs us Q I r ⟨F, ds, d, e, ha, hf, q⟩
  match ds, hf with
  | [d0], hf =>
    have hf2 : (if d0.showable = true ∧ d0.hasDict = false ∧ d0.depth ≤ 60 ∧ d0.shown.length ≤ sizeLine then some (PyData.str d0.shown) else none) = some d := hf
    by_cases z : d0.showable = true ∧ d0.hasDict = false ∧ d0.depth ≤ 60 ∧ d0.shown.length ≤ sizeLine
    · rw [if_pos z] at hf2
      cases hf2
      obtain ⟨h1, h2, h3, h4⟩ := z
      cases ha with
      | @cons v _ vs _ hv ht =>
        cases ht
        cases r with
        | @cons _ u _ us2 ru rt =>
          cases rt
          obtain ⟨as, rd⟩ := Dp.reads I d0 v u (Dp.up e _ _ hv) ru
          have hu := hr.r.un
          cases hv with
          | non =>
            cases ru
            exact PySem.P.repr_of_none ⟨.str _, H, I.tok _, ⟨_, rfl⟩, q.1 _ (.str _)⟩
          | bl b =>
            cases ru
            exact PySem.P.repr_of_bool ⟨.str _, H, I.tok _, ⟨_, rfl⟩, q.1 _ (.str _)⟩
          | int i =>
            obtain ⟨t, rfl⟩ := ru
            exact PySem.P.repr_of_int (of_decide_eq_true h1) ⟨.str _, H, I.tok _, ⟨_, rfl⟩, q.1 _ (.str _)⟩
          | str x =>
            obtain ⟨t, rfl⟩ := ru
            exact PySem.P.repr_of_str (hsz := h4) ⟨.str _, H, I.tok _, ⟨_, rfl⟩, q.1 _ (.str _)⟩
          | lst h5 h6 =>
            cases ru
            exact repr_of_reads' rd h1 (fun w => by rw [h2] at w; cases w) hr.g (by omega) (fun _ _ w => w) (fun h' u tk hk => ⟨.str _, H, I.kept hk, ⟨_, rfl⟩, q.1 _ (.str _)⟩) h4
          | tup h5 h6 =>
            cases ru
            exact repr_of_reads' rd h1 (fun w => by rw [h2] at w; cases w) hr.g (by omega) (fun _ _ w => w) (fun h' u tk hk => ⟨.str _, H, I.kept hk, ⟨_, rfl⟩, q.1 _ (.str _)⟩) h4
    · rw [if_neg z] at hf2
      cases hf2
end
theorem b_repr : bootBuiltins "repr" = some (.builtin "repr") := by kernel_rfl
end DL

-- part DL23
set_option Elab.async false
set_option linter.all false
set_option maxRecDepth 100000
set_option maxHeartbeats 1000000
/-! DL23: powers of small numbers. -/
namespace DL
open PySem PySem.Spec PyProof.Rows L2 RZ
def powI : D → D → Option D := oI fun i j => if 0 ≤ j ∧ j ≤ 1000 ∧ i.natAbs < 2 ^ 64 then some (.int (i ^ j.toNat)) else none
theorem opd_pow {X : Cx} : OpR X (binaryOp .Pow) (r2D X.K powI) := opI_D op_pow fun i j d h => by
  by_cases z : 0 ≤ j ∧ j ≤ 1000 ∧ i.natAbs < 2 ^ 64
  · rw [if_pos z] at h
    cases h
    exact ⟨⟨z.1, by omega, z.2.2⟩, fun _ => .int _⟩
  · rw [if_neg z] at h
    cases h
end DL

-- part DL24
set_option Elab.async false
set_option linter.all false
set_option maxRecDepth 100000
set_option maxHeartbeats 1000000
/-! DL24: x, y = e, [] where x is used within a comprehension (a cell): through a tuple. -/
namespace DL
open PySem PySem.Spec PyProof.Rows L2 RZ
section
variable {X : Cx} {c : Fr} {m : MV D} {pos : Pos}
theorem ds_unpO {i j : Nat} {x y : Str} {e1 : Expr} {px py pt pl : Pos} {kt k2 pt2} (hc : X.calm = true) (hN : X.N.Nodup) (ha : DE X c e1 m) (hij : i ≠ j) (hi : X.N[i]? = some x := by rfl) (hj : X.N[j]? = some y := by rfl)
    (hx : Loc X.env.scope x := by first | exact Or.inl rfl | exact Or.inr rfl) (hy : Loc X.env.scope y := by first | exact Or.inl rfl | exact Or.inr rfl) (fx : X.fn x = true ∨ X.env.scope.names.lookup x = some .local := by first | exact .inl rfl | exact .inr rfl) (fy : X.fn y = true ∨ X.env.scope.names.lookup y = some .local := by first | exact .inl rfl | exact .inr rfl)
    (hs : swapsWithSole [.Tuple [.Name x px, .Name y py] kt pt] (.Tuple [e1, .List [] pl] k2 pt2) pos.line X.env = pure false := by rfl) (hw : swappedStores [.Tuple [.Name x px, .Name y py] kt pt] (.Tuple [e1, .List [] pl] k2 pt2) X.env = pure none := by rfl)
    (he : starEach [e1, .List [] pl] X.env = (false, eval e1 X.env) :: starEach [.List [] pl] X.env := by rfl)
    (hn : (assignEach [.Name x px, .Name y py] X.env).length = 2 := by rfl) (hst : (assignEach [.Name x px, .Name y py] X.env).findIdx? (·.1) = none := by rfl)
    (hs1 : (assignEach [.Name x px, .Name y py] X.env).map (·.2) = assign (.Name x px) X.env :: (assignEach [.Name y py] X.env).map (·.2) := by rfl)
    (hs2 : (assignEach [.Name y py] X.env).map (·.2) = assign (.Name y py) X.env :: (assignEach [] X.env).map (·.2) := by rfl)
    (h1 : (assignEach [.Tuple [.Name x px, .Name y py] kt pt] X.env).map (·.2) = [assign (.Tuple [.Name x px, .Name y py] kt pt) X.env] := by rfl) :
    DS X c (.Assign [.Tuple [.Name x px, .Name y py] kt pt] (.Tuple [e1, .List [] pl] k2 pt2) pos) (parO i j m) := by
  have hl : PA X [e1, .List [] pl] (tCons (tD X.K c m) (tCons (tN X.K c (lstD (ret []))) tNil)) := pa_cons ha (pa_cons (dn_lst dl_nil) pa_nil) he
  refine ps_imp (ps_asg (pe_tup hl) (pg_tup hc (pgs_cons (pg_name (i := i) hN hi hx fx) (pgs_cons (pg_name (i := j) hN hj hy fy) pgs_nil hs2) hs1) hn hst) hs hw h1) fun D' σ H ⟨F, S, r, o, S', e, q⟩ => ?_
  obtain ⟨x1, S1, e1', e2⟩ := bnd_some e
  cases e2
  have hemp : (lstD (ret [])) S1 = some (PyData.list [], S1) := by
    unfold lstD
    rw [bnd_eq (show ret ([] : List D) S1 = some ([], S1) from rfl)]
    show (if ([] : List D).length ≤ sizeLine then ret (PyData.list []) else fun _ => none) S1 = _
    rw [if_pos (show ([] : List D).length ≤ sizeLine from Nat.zero_le _)]
    rfl
  refine ⟨F, S, r, x1, S1, e1', fun F1 H1 v s1 r1 d1 => ⟨F1, S1, r1, [], S1, hemp, fun F' H' l ws s r' g1 g2 g3 g4 g5 => ?_⟩⟩
  refine ⟨by have := sizeLine_eq; show 2 ≤ sizeLine; omega, fun p hp => ⟨p, [v, .ref l], rfl, .inl (.inl upd_same), rfl, v, [.ref l], rfl, .ref l, [], rfl, rfl, ?_⟩⟩
  have lp : l ≠ p := fun w => by
    rw [w, hp] at g4
    cases g4
  have ra := (r'.junk (o := .tup [v, .ref l]) hp).set_fz (i := i) (Dp.up s _ _ d1)
  have rb := ra.adopt (i := j) (l := l) (ws := ws) (ys := []) ((upd_ne lp).trans g4) g1 g2 (fun k b hk => ?_) g5
  · exact q F' _ _ (s1.trans s) rb
  · by_cases hik : i = k
    · subst hik
      have hk' : (S1.env.set i (.fz x1))[i]? = some (.own b) := hk
      by_cases hl2 : i < S1.env.length
      · rw [List.getElem?_set_self hl2] at hk'
        cases hk'
      · rw [List.getElem?_eq_none (by simp; omega)] at hk'
        cases hk'
    · have hk' : (S1.env.set i (.fz x1))[k]? = some (.own b) := hk
      rw [List.getElem?_set_ne hik] at hk' ⊢
      exact g3 k b hk'
end
end DL

-- part DL25
set_option Elab.async false
set_option linter.all false
set_option maxRecDepth 100000
set_option maxHeartbeats 1000000
/-! DL25: sorted(dict(pairs)) with int keys: the distinct keys, sorted. -/
namespace DL
open PySem PySem.Spec PyProof.Rows L2 RZ
def keysD : List D → Option (List Int)
  | [] => some []
  | .tuple [.int k, _] :: xs => (keysD xs).map (k :: ·)
  | _ :: _ => none
def distStep (acc : List Int) (k : Int) : List Int := if k ∈ acc then acc else acc ++ [k]
def distinct (ns : List Int) : List Int := ns.foldl distStep []
def sdD : D → Option D
  | .list xs => (keysD xs).bind fun ks => if ks.length < 64 then some (.list ((sortI (distinct ks)).map .int)) else none
  | _ => none
open Classical in
theorem putK_keys (acc : List (Key × V)) (k : Key) (v : V) : (putK acc k v).map (·.1) = if k ∈ acc.map (·.1) then acc.map (·.1) else acc.map (·.1) ++ [k] := by
  unfold putK
  by_cases h : (acc.any fun kv => decide (kv.1 = k)) = true
  · have m : k ∈ acc.map (·.1) := by
      obtain ⟨kv, h1, h2⟩ := List.any_eq_true.mp h
      exact List.mem_map.mpr ⟨kv, h1, of_decide_eq_true h2⟩
    rw [if_pos h, if_pos m, List.map_map]
    refine List.map_congr_left fun kv _ => ?_
    show (if kv.1 = k then (kv.1, v) else kv).1 = kv.1
    by_cases e : kv.1 = k
    · rw [if_pos e]
    · rw [if_neg e]
  · have m : ¬ k ∈ acc.map (·.1) := fun m => by
      obtain ⟨kv, h1, h2⟩ := List.mem_map.mp m
      exact h (List.any_eq_true.mpr ⟨kv, h1, decide_eq_true h2⟩)
    rw [if_neg h, if_neg m, List.map_append]
    rfl
theorem mergeK_keys : ∀ (kvs acc : List (Key × V)) (ks aks : List Int), acc.map (·.1) = aks.map Sum.inl → kvs.map (·.1) = ks.map Sum.inl → (mergeK acc kvs).map (·.1) = (ks.foldl distStep aks).map Sum.inl
  | [], acc, ks, aks, ha, hk => by
    cases ks with
    | nil => exact ha
    | cons _ _ => cases hk
  | kv :: kvs, acc, ks, aks, ha, hk => by
    cases ks with
    | nil => cases hk
    | cons k ks =>
      rw [List.map_cons, List.map_cons] at hk
      obtain ⟨h1, h2⟩ := List.cons.inj hk
      show (mergeK (putK acc kv.1 kv.2) kvs).map (·.1) = (ks.foldl distStep (distStep aks k)).map Sum.inl
      refine mergeK_keys kvs _ ks _ ?_ h2
      rw [putK_keys, ha, h1]
      unfold distStep
      by_cases m : k ∈ aks
      · rw [if_pos m, if_pos (List.mem_map.mpr ⟨k, m, rfl⟩)]
      · rw [if_neg m, if_neg (fun w => by
          obtain ⟨k', a, b⟩ := List.mem_map.mp w
          cases b
          exact m a), List.map_append]
        rfl
theorem dist_len : ∀ (ns acc : List Int), (ns.foldl distStep acc).length ≤ acc.length + ns.length
  | [], acc => Nat.le_refl _
  | k :: ns, acc => by
    have h := dist_len ns (distStep acc k)
    have h2 : (distStep acc k).length ≤ acc.length + 1 := by
      unfold distStep
      by_cases m : k ∈ acc
      · rw [if_pos m]
        omega
      · rw [if_neg m, List.length_append]
        exact Nat.le_refl _
    show (ns.foldl distStep (distStep acc k)).length ≤ acc.length + (ns.length + 1)
    omega
theorem pairs_read {K : PySem.W.Frag} {F : Hp} : ∀ {xs : List D} {ks : List Int} {vs : List V}, keysD xs = some ks → DpAll K F vs xs → ∃ (ps : List Addr) (kvs : List (Key × V)), vs = ps.map V.ref ∧ Paired (fun p kv => SqT K F p [kV kv.1, kv.2]) ps kvs ∧ kvs.map (·.1) = ks.map Sum.inl
  | [], ks, vs, h, a => by
    cases h
    cases a
    exact ⟨[], [], rfl, .nil, rfl⟩
  | .tuple [.int k, d] :: xs, ks, vs, h, a => by
    have h' : (keysD xs).map (k :: ·) = some ks := h
    cases z : keysD xs with
    | none =>
      rw [z] at h'
      cases h'
    | some ks2 =>
      rw [z] at h'
      cases h'
      cases a with
      | cons h1 h2 =>
        obtain ⟨ps, kvs, rfl, e2, e3⟩ := pairs_read z h2
        cases h1 with
        | @tup p us _ g1 g2 =>
          obtain ⟨v1, v2, rfl, i1, i2⟩ := DpAll.two g2
          cases i1
          exact ⟨p :: ps, (.inl k, v2) :: kvs, rfl, .cons g1 e2, by rw [List.map_cons, List.map_cons, e3]⟩
theorem paired_up {K : PySem.W.Frag} {F H : Hp} (s : Same F H) : ∀ {ps : List Addr} {kvs : List (Key × V)}, Paired (fun p kv => SqT K F p [kV kv.1, kv.2]) ps kvs → Paired (fun p kv => SqT K H p [kV kv.1, kv.2]) ps kvs
  | _, _, .nil => .nil
  | _, _, .cons h t => .cons (sqT_up s h) (paired_up s t)
section
variable {X : Cx} {c : Fr} {e : Expr} {m : MV D} {pos p1 p2 pos2 : Pos}
theorem de_sortDict (hc : X.calm = true) (hg : Gl X "sorted") (g1 : X.mg "sorted" = none) (hg2 : Gl X "dict") (g2 : X.mg "dict" = none) (ha : DE X c e m)
    (he : starEach [e] X.env = (false, eval e X.env) :: starEach [] X.env := by rfl) (hpl : (backTo pos2 (starEach [] X.env)).any (·.1) = false := by rfl)
    (he2 : starEach [.Call (.Name "dict" p2) [e] [] pos2] X.env = (false, eval (.Call (.Name "dict" p2) [e] [] pos2) X.env) :: starEach [] X.env := by rfl) (hpl2 : (backTo pos (starEach [] X.env)).any (·.1) = false := by rfl) :
    DE X c (.Call (.Name "sorted" p1) [.Call (.Name "dict" p2) [e] [] pos2] [] pos) (op1 sdD m) := by
  refine pe_imp (pe_callB (call_sortedDI hc) hg g1 b_sorted (pa_cons (pe_callTy (call_dictP hc) hg2 g2 b_dict (pa_cons ha pa_nil he) (by decide) (by decide) he hpl) pa_nil he2) (by decide) (by decide) he2 hpl2) fun σ H Q h => ?_
  obtain ⟨F, S, r, g⟩ := h
  refine ⟨F, S, r, go_bnd g fun F1 S1 x v H1 s1 r1 d1 g1 => ?_⟩
  obtain ⟨d, S', e1, q⟩ := g1
  obtain ⟨e2, e3⟩ := opt_some e1
  subst e3
  match x, d1, e2 with
  | .list xs, d1, e2 =>
    have e2' : (keysD xs).bind (fun ks => if ks.length < 64 then some (PyData.list ((sortI (distinct ks)).map .int)) else none) = some d := e2
    cases z : keysD xs with
    | none =>
      rw [z] at e2'
      cases e2'
    | some ks =>
      rw [z] at e2'
      have e4 : (if ks.length < 64 then some (PyData.list ((sortI (distinct ks)).map .int)) else none) = some d := e2'
      by_cases h64 : ks.length < 64
      · rw [if_pos h64] at e4
        cases e4
        cases d1 with
        | @lst a us _ h1 h2 =>
          obtain ⟨ps, kvs, rfl, pr, ek⟩ := pairs_read z h2
          refine ⟨a, ps, kvs, rfl, sqL_up r1.fh h1, paired_up r1.fh pr, fun p hp => ?_⟩
          have key := mergeK_keys kvs [] ks [] rfl ek
          refine ⟨p, mergeK [] kvs, distinct ks, rfl, .inl upd_same, key, ?_, fun ys l hperm hsort hl => ?_⟩
          · have := dist_len ks []
            exact Nat.lt_of_le_of_lt this (by simpa using h64)
          · have eq : ys = sortI (distinct ks) := sorted_uniq (hperm.trans (sortI_perm _).symm) hsort (sortI_sorted _)
            subst eq
            have ra := (r1.junk (o := .dK (mergeK [] kvs)) hp).alloc (o := .lst ((sortI (distinct ks)).map V.int)) hl
            have hF : F1 l = none := by
              cases w : F1 l with
              | none => rfl
              | some o =>
                have := (r1.junk (o := .dK (mergeK [] kvs)) hp).fh l o w
                rw [hl] at this
                cases this
            exact q _ _ _ (upd_up hF) ra (.lst (.inl (.inl upd_same)) (DpAll.of_ints _))
      · rw [if_neg h64] at e4
        cases e4
end
end DL

-- part DL26
set_option Elab.async false
set_option linter.all false
set_option maxRecDepth 100000
set_option maxHeartbeats 1000000
/-! DL26: for over zip(range(a, b), name). -/
namespace DL
open PySem PySem.Spec PyProof.Rows L2 RZ
section
variable {prog : Program} {w : World} {A : Around} {E : Value → Shared → Prop} {s : Shared}
theorem nextOf_range_item {it : Addr} {x left step : Int} {Q : Value → Shared → Prop} (hit : IsRangeIter s.heap it x left step) (hleft : 0 < left)
    (hQ : ∀ h', IsRangeIter h' it (x + step) (left - 1) step → Heap.SameBut it s.heap h' → Q (.int x s.toks) { s with heap := h', toks := s.toks + 1 }) :
    wpAny (model prog w) A (Builtin.SmallTypes.nextOf (.ref it)) Q E s := by
  have hT : s.TypeIs (.ref it) "range_iterator" := ⟨_, hit, rfl⟩
  unfold Builtin.SmallTypes.nextOf
  refine wpAny_bind (wpAny_callSpecial?_slot (name := Str.ofString "__next__") hT F.slot_range_iterator_next
    (call_meets F.slot_range_iterator_next hT F.entry_range_iterator_next (F.args_range_iterator_next_1 _) (AutoRange.range_iterator___next___range_iterator_1 it x left step (by omega)) ⟨hit, ?_⟩))
  exact wpAny_pure (hQ _ (Heap.get?_update_self _ (Heap.get?_update_self _ hit rfl) rfl) ((Heap.SameBut.update ..).trans (Heap.SameBut.update ..)))
theorem nextOf_range_end {it : Addr} {x left step : Int} {Q : Value → Shared → Prop} (hh : A.handled = none) (hit : IsRangeIter s.heap it x left step) (hleft : left ≤ 0)
    (hE : ∀ h' e, Heap.ExtBut it s.heap h' → (∃ o, h'.get? e = some o ∧ o.cls = .type "StopIteration") → E (.ref e) { s with heap := h' }) : wpAny (model prog w) A (Builtin.SmallTypes.nextOf (.ref it)) Q E s := by
  have hT : s.TypeIs (.ref it) "range_iterator" := ⟨_, hit, rfl⟩
  unfold Builtin.SmallTypes.nextOf
  refine wpAny_bind (wpAny_callSpecial?_slot (name := Str.ofString "__next__") hT F.slot_range_iterator_next
    (wpAny_call_entry F.slot_range_iterator_next hT F.entry_range_iterator_next ?_ (F.args_range_iterator_next_1 _)))
  show wpAny _ _ (field (.ref it) 0 >>= _) _ _ s
  refine wpAny_bind (wpAny_field hit rfl (x := rawInt x) rfl ?_)
  show wpAny _ _ (field (.ref it) 1 >>= _) _ _ s
  refine wpAny_bind (wpAny_field hit rfl (x := rawInt left) rfl ?_)
  show wpAny _ _ (field (.ref it) 2 >>= _) _ _ s
  refine wpAny_bind (wpAny_field hit rfl (x := rawInt step) rfl ?_)
  show wpAny _ _ (if left ≤ 0 then _ else _) _ _ s
  rw [if_pos hleft]
  refine wpAny_bind (wpAny_rule ?_)
  refine wpAny_bind ?_
  show wpAny _ _ (newExc (.type "StopIteration") [] >>= _) _ _ _
  refine wpAny_bind ?_
  simp only [newExc, newTuple]
  refine wpAny_bind (wpAny_newObj_type ?_ (by size_fits))
  refine wpAny_bind (m := firstArgMember _ _) (wpAny_of_eq (a := Value.none) (by first | rfl | (simp only [firstArgMember]; rfl)) ?_)
  refine wpAny_newObj_type ?_ (by size_fits)
  simp only [raiseNew]
  refine wpAny_bind (wpAny_handled ?_)
  first | rw [show A.in1.handled = none from hh] | rw [hh]
  refine wpAny_bind (wpAny_pure (wpAny_throw ?_))
  exact hE _ _ (((Heap.ExtBut.refl it s.heap).push _).push _) ⟨_, Heap.get?_push_size _ rfl, rfl⟩
theorem r_draws (hh : A.handled = none) (it : Addr) (lo : Int) (n : Nat) : Draws prog w A it [it] n (fun i v => ∃ t, v = .int (lo + (i : Nat) * 1) t) (fun i h => IsRangeIter h it (lo + (i : Nat) * 1) ((n : Int) - (i : Nat)) 1) where
  live := fun _ _ st => ⟨_, st⟩
  frame := fun _ _ _ st hk => hk it (by simp) _ st
  item := fun i s Q E hi st hQ => nextOf_range_item st (by omega) fun h' st' sb => hQ _ h' _ ⟨_, rfl⟩ (by
    have e1 : lo + ((i + 1 : Nat) : Int) * 1 = lo + (i : Nat) * 1 + 1 := by omega
    have e2 : (n : Int) - ((i + 1 : Nat) : Int) = (n : Int) - (i : Nat) - 1 := by omega
    rw [e1, e2]
    exact st') sb
  done := fun s Q E st hE => nextOf_range_end hh st (by omega) fun h' e hb ho => hE h' e hb ho
theorem begins_range {r : Addr} {a b : Int} {t u v : Tok} (h1 : -(2 ^ 62) ≤ a) (h2 : a < 2 ^ 62) (h3 : -(2 ^ 62) ≤ b) (h4 : b < 2 ^ 62) :
    Begins (.ref r) { cls := .type "range_iterator", data := .fields #[rawInt a, rawInt (Builtin.Range.rangeSize a b 1), rawInt 1] } fun h => IsRange h r a b 1 t u v where
  iter := fun prog w A E s Q hl h => wpAny_pyIter_range hl (small_one h1 h2 h3 h4) h
  keeps := fun h h' x hk => hk r _ x
  free := rfl
variable {z TI TO i1 i2 : Addr} {fp1 fp2 : List Addr} {n1 n2 i : Nat} {P1 P2 : Nat → Value → Prop} {St1 St2 : Nat → Heap → Prop} {a1 a2 : Value}
theorem zd_pyNext {Q : Option Value → Shared → Prop} (S : ZipSep2 z TI TO i1 i2 fp1 fp2) (D1 : Draws prog w A.in1 i1 fp1 n1 P1 St1) (D2 : Draws prog w A.in1 i2 fp2 n2 P2 St2)
    (hz : IsZip s.heap z TI TO .none) (hTI : IsTupOf2 s.heap TI (.ref i1) (.ref i2)) (hTO : IsTupOf2 s.heap TO a1 a2) (st1 : St1 i s.heap) (st2 : St2 i s.heap) (l1 : i < n1) (l2 : i < n2)
    (hQ : ∀ x1 x2 h' tk, P1 i x1 → P2 i x2 → IsZip h' z TI TO (rawInt s.heap.objs.size) → IsTupOf2 h' TO x1 x2 → St1 (i + 1) h' → St2 (i + 1) h' → IsTupOf2 h' s.heap.objs.size x1 x2 → h'.objs.size = s.heap.objs.size + 1 →
      (∀ c o, c ≠ z → c ≠ TO → c ≠ i1 → c ≠ i2 → s.heap.get? c = some o → h'.get? c = some o) → Q (some (.ref s.heap.objs.size)) { s with heap := h', toks := tk }) : wpAny (model prog w) A (pyNext (.ref z)) Q E s := by
  have hT : s.TypeIs (.ref z) "zip" := ⟨_, hz, rfl⟩
  unfold pyNext
  exact wpAny_bind (wpAny_attempt (wpAny_callSpecial?_slot (name := Str.ofString "__next__") hT F.slot_zip_next
    (wpAny_call_entry F.slot_zip_next hT F.entry_zip_next (zipD2_next_item S D1 D2 hz hTI hTO st1 st2 l1 l2 fun x1 x2 h' tk q1 q2 q3 q4 q5 q6 q7 q8 q9 => wpAny_pure (hQ x1 x2 h' tk q1 q2 q3 q4 q5 q6 q7 q8 q9)) (F.args_zip_next_1 _))))
theorem zd_pyEnd {Q : Option Value → Shared → Prop} (S : ZipSep2 z TI TO i1 i2 fp1 fp2) (D1 : Draws prog w A.in1 i1 fp1 n1 P1 St1) (D2 : Draws prog w A.in1 i2 fp2 n2 P2 St2)
    (hz : IsZip s.heap z TI TO .none) (hTI : IsTupOf2 s.heap TI (.ref i1) (.ref i2)) (hTO : IsTupOf2 s.heap TO a1 a2) (st1 : St1 i s.heap) (st2 : St2 i s.heap) (l1 : i ≤ n1) (l2 : i ≤ n2) (hend : i = n1 ∨ i = n2)
    (hQ : ∀ h' tk, (∀ c o, c ≠ z → c ≠ TO → c ≠ i1 → c ≠ i2 → s.heap.get? c = some o → h'.get? c = some o) → Q none { s with heap := h', toks := tk }) : wpAny (model prog w) A (pyNext (.ref z)) Q E s := by
  have hT : s.TypeIs (.ref z) "zip" := ⟨_, hz, rfl⟩
  unfold pyNext
  refine wpAny_bind (wpAny_attempt (wpAny_callSpecial?_slot (name := Str.ofString "__next__") hT F.slot_zip_next
    (wpAny_call_entry F.slot_zip_next hT F.entry_zip_next (zipD2_next_end S D1 D2 hz hTI hTO st1 st2 l1 l2 hend fun h' tk e hk he => ?_) (F.args_zip_next_1 _))))
  obtain ⟨o, ho, hc⟩ := he
  exact wpAny_bind (wpAny_isInstance (T := "StopIteration") (b := true) ⟨o, ho, hc⟩ isSubtype_stop (wpAny_pure (hQ _ _ hk)))
end
/-- zip(range(lo, lo + n), the list at b) -/
def Itzr (K : PySem.W.Frag) (lo : Int) (n : Nat) (b : Addr) : It :=
  ⟨fun i H => i < n ∧ ∃ ys y, SqL K H b ys ∧ ys[i]? = some y,
   fun i H v H' => ∃ T y, v = .ref T ∧ H T = none ∧ H' = upd H T (.tup [.int (lo + (i : Nat) * 1), y]) ∧ ∀ ys, SqL K H b ys → ys[i]? = some y,
   fun i H => ∃ ys, SqL K H b ys ∧ i ≤ n ∧ i ≤ ys.length ∧ (i = n ∨ i = ys.length)⟩
theorem turn_zr {P : Program} {w : World} {K : PySem.W.Frag} {elts : List Expr} {kk : Nat} {tpos : Pos} {b z TI TO i1 i2 : Addr} {lo : Int} {n : Nat} (S : ZipSep2 z TI TO i1 i2 [i1] [i2, b]) (nb : b ≠ i2) :
    Turn P w K (.Tuple elts kk tpos) (Itzr K lo n b) [z, TI, TO, i1, i2] z (fun i h => IsZip h z TI TO .none ∧ IsTupOf2 h TI (.ref i1) (.ref i2) ∧ (∃ x y, IsTupOf2 h TO x y) ∧ IsRangeIter h i1 (lo + (i : Nat) * 1) ((n : Int) - (i : Nat)) 1 ∧ h.IsListIter i2 b i) where
  mem := by simp
  obj := fun i h st c hc => by
    obtain ⟨hz, hTI, ⟨x, y, hTO⟩, h1, ⟨o2, e2, _, d2⟩⟩ := st
    have e' : c = z ∨ c = TI ∨ c = TO ∨ c = i1 ∨ c = i2 := by simpa using hc
    rcases e' with q | q | q | q | q
    · rw [q]; exact ⟨_, hz, fun v q => nomatch q⟩
    · rw [q]; exact ⟨_, hTI, fun v q => nomatch q⟩
    · rw [q]; exact ⟨_, hTO, fun v q => nomatch q⟩
    · rw [q]; exact ⟨_, h1, fun v q => nomatch q⟩
    · rw [q]; exact ⟨o2, e2, fun v q => by rw [d2] at q; cases q⟩
  keep := fun i h h' st k => by
    obtain ⟨hz, hTI, ⟨x, y, hTO⟩, h1, h2⟩ := st
    exact ⟨k z (by simp) _ hz, k TI (by simp) _ hTI, ⟨x, y, k TO (by simp) _ hTO⟩, k i1 (by simp) _ h1, h2.at fun o q => k i2 (by simp) o q⟩
  item := by
    intro X hP hw hK hc i pins s σ H E I hf st hg
    subst hP hw hK
    obtain ⟨hz, hTI, ⟨x0, y0, hTO⟩, h1, h2⟩ := st
    obtain ⟨li, ys, y, hqy, hy⟩ := hg
    obtain ⟨its2, rv2, p2, _⟩ := I.list hqy
    obtain ⟨u2, hu2, ru2⟩ := rv2.get hy
    have hzl : z < s.heap.objs.size := Heap.lt_size hz
    have hh : X.A.handled = none := I.ok.hd hc
    have D1 := r_draws (prog := X.prog) (w := X.w) (A := X.A.in1) hh i1 lo n
    have D2 := Draws.list (prog := X.prog) (w := X.w) (A := X.A.in1) hh i2 b nb its2.toArray
    have li2 : i < its2.toArray.size := by
      have := (List.getElem?_eq_some_iff.mp hu2).1
      simpa using this
    refine zd_pyNext S D1 D2 hz hTI hTO h1 ⟨h2, p2.isList⟩ li li2 fun x1 x2 h' tk q1 q2 z' TO' h1' h2' hT hsz hk => ?_
    obtain ⟨t, rfl⟩ := q1
    have e2 : x2 = u2 := by
      have p2' : its2[i]? = some x2 := by simpa using q2
      rw [hu2] at p2'
      exact (Option.some.inj p2').symm
    subst e2
    refine ⟨_, rfl, wpAny_letOwnedTupleGo_zip (s := { s with heap := h', toks := tk }) z' fun h'' z'' sb => ?_⟩
    have hT2 : h''.get? s.heap.objs.size = some { cls := .type "tuple", data := .seq #[.int (lo + (i : Nat) * 1) t, x2] } := (sb.2 _ (Nat.ne_of_gt hzl)).trans hT
    have new : ObjOk X.prog X.w (upd H s.heap.objs.size (.tup [.int (lo + (i : Nat) * 1), y])) h'' s.heap.objs.size (.tup [.int (lo + (i : Nat) * 1), y]) :=
      ⟨by show 2 ≤ sizeLine; decide, [.int (lo + (i : Nat) * 1) t, x2], .cons ⟨t, rfl⟩ (.cons ru2 .nil), ⟨_, hT2, rfl, _, rfl⟩⟩
    have I1 : Inv X pins σ (upd H s.heap.objs.size (.tup [.int (lo + (i : Nat) * 1), y])) { s with heap := h'', toks := tk } :=
      I.turnedNew (t' := tk) (ch := [z, TI, TO, i1, i2]) (fun c o hb q => (sb.2 c (fun q' => hb (by simp [q']))).trans (hk c o (fun q' => hb (by simp [q'])) (fun q' => hb (by simp [q'])) (fun q' => hb (by simp [q'])) (fun q' => hb (by simp [q'])) q)) hf (Nat.le_refl _) new
    refine ⟨.ref s.heap.objs.size, _, I1, rfl, ⟨_, y, rfl, I.hok.fresh (Nat.le_refl _), rfl, fun l hl => by rw [I.list_inj hl hqy]; exact hy⟩, ⟨z'', ?_, ⟨.int (lo + (i : Nat) * 1) t, x2, ?_⟩, ?_, ?_⟩, fun c hcm => ?_⟩
    · exact (sb.2 _ S.TIz).trans (hk _ _ S.TIz S.TITO S.TIi1 S.TIi2 hTI)
    · exact (sb.2 _ S.TOz).trans TO'
    · exact (sb.2 _ (Ne.symm S.zi1)).trans h1'
    · exact h2'.1.at fun o q => (sb.2 _ (Ne.symm S.zi2)).trans q
    · have hlt : c < s.heap.objs.size := by
        have e' : c = z ∨ c = TI ∨ c = TO ∨ c = i1 ∨ c = i2 := by simpa using hcm
        rcases e' with q | q | q | q | q
        · rw [q]; exact hzl
        · rw [q]; exact Heap.lt_size hTI
        · rw [q]; exact Heap.lt_size hTO
        · rw [q]; exact Heap.lt_size h1
        · rw [q]; obtain ⟨_, e2, _⟩ := h2; exact Heap.lt_size e2
      rw [upd_ne (Nat.ne_of_lt hlt)]
      exact (hf c hcm).1
  done := by
    intro X hP hw hK hc i pins s σ H E I hf st hg
    subst hP hw hK
    obtain ⟨hz, hTI, ⟨x0, y0, hTO⟩, h1, h2⟩ := st
    obtain ⟨ys, hqy, l1, l2, hend⟩ := hg
    obtain ⟨its2, rv2, p2, _⟩ := I.list hqy
    have e2 : ys.length = its2.toArray.size := by simpa using rv2.length
    have hh : X.A.handled = none := I.ok.hd hc
    have D1 := r_draws (prog := X.prog) (w := X.w) (A := X.A.in1) hh i1 lo n
    have D2 := Draws.list (prog := X.prog) (w := X.w) (A := X.A.in1) hh i2 b nb its2.toArray
    exact zd_pyEnd S D1 D2 hz hTI hTO h1 ⟨h2, p2.isList⟩ l1 (by omega) (by omega) fun h' tk hk => ⟨rfl, I.turnedL (t' := tk) (ch := [z, TI, TO, i1, i2]) (fun c o hb q =>
      hk c o (fun q' => hb (by simp [q'])) (fun q' => hb (by simp [q'])) (fun q' => hb (by simp [q'])) (fun q' => hb (by simp [q'])) q) hf⟩
  self := fun A i s Q E st h => wpAny_pyIter_zip st.1 h
theorem walk_zr {K : PySem.W.Frag} {lo : Int} {n k : Nat} {b : Addr} {ys : List V} (hk : k = min n ys.length) : L2.Walk (Itzr K lo n b) k (fun H => SqL K H b ys)
    (fun i H v H' => ∃ T y, v = .ref T ∧ H T = none ∧ H' = upd H T (.tup [.int (lo + (i : Nat) * 1), y]) ∧ i < n ∧ ys[i]? = some y) := by
  subst hk
  refine ⟨fun i _ hi q => ?_, fun _ q => ⟨ys, q, by omega, by omega, by omega⟩, fun i H v H' hi q y => ?_⟩
  · have h2 : i < ys.length := by omega
    exact ⟨by omega, ys, ys[i], q, by simp [h2]⟩
  · obtain ⟨T, y, h1, h2, h3, h4⟩ := y
    exact ⟨T, y, h1, h2, h3, by omega, h4 ys q⟩
/-- the pairs of the numbers from lo on and of some data -/
def zipRV (m : MV (Int × Int)) (j : Nat) : MV (List D) := bnd m fun x => bnd (vD j) fun d => match d with
  | .list ys => if RgB x.1 x.2 then ret (zipL (upTo x.1 x.2) ys) else fun _ => none
  | _ => fun _ => none
section
variable {X : Cx} {c : Fr} {e : Expr} {m : MV (Int × Int)} {pos p px : Pos} {x : Str} {elts : List Expr} {kk : Nat} {tpos : Pos}
theorem di_zipR (j : Nat) (hg : Gl X "zip") (hm : X.mg "zip" = none) (he : DR X c e m) (hN : X.N[j]? = some x := by rfl) (hv : Vis X.env.scope x := by first | exact Or.inl rfl | exact Or.inr (Or.inl rfl) | exact Or.inr (Or.inr rfl)) (hd : (x == ("__debug__" : Str)) = false := by decide)
    (hcd : (x == ("__classdict__" : Str)) = false := by decide) (na : starEach [e, .Name x px] X.env = (false, eval e X.env) :: starEach [.Name x px] X.env := by rfl) (nb : starEach [.Name x px] X.env = (false, eval (.Name x px) X.env) :: starEach [] X.env := by rfl)
    (hp : (backTo pos (starEach [.Name x px] X.env)).any (·.1) = false := by rfl) : DI X c (.Tuple elts kk tpos) (.Call (.Name "zip" p) [e, .Name x px] [] pos) (zipRV m j) := by
  refine ⟨fun pins s σ H R I h => ?_⟩
  obtain ⟨F, S, r, ds, S', e1, q⟩ := h
  obtain ⟨⟨a, b⟩, S1, m1, e2⟩ := bnd_some e1
  obtain ⟨d, S2, m2, e3⟩ := bnd_some e2
  refine Call_ (ld_blt I hg hm PyProof.Rows.boot_zip (PyProof.Rows.callWith_type1 (args_cons (thn (he pins s σ H (fun a' b' H1 => ∃ F1, a' = a ∧ b' = b ∧ Same F F1 ∧ Rel X.K c F1 S1 σ H1) I ⟨F, S, r, a, b, S1, m1, fun F' H' s' r' => ⟨F', rfl, rfl, s', r'⟩⟩) fun v0 s1 hx => ?_) na) na hp))
  obtain ⟨ra, a', b', t, u, v, H1, rfl, hr, I1, F1, rfl, rfl, sF, r1⟩ := hx
  -- the name
  have look : ∃ (l : Addr) (ys : List D) (F2 : Hp), σ[j]? = some (some (.ref l)) ∧ d = .list ys ∧ Same F1 F2 ∧ Rel X.K c F2 S2 σ H1 ∧ Dp X.K F2 (.ref l) (.list ys) := by
    unfold vD at m2
    cases z : S1.env[j]? with
    | none => rw [z] at m2; cases m2
    | some y =>
      rw [z] at m2
      cases y with
      | un => cases m2
      | src => cases m2
      | fz d' =>
        cases m2
        obtain ⟨v, h1, h2⟩ := r1.fz_at z
        cases h2 with
        | @lst l vs ys g1 g2 => exact ⟨l, ys, F1, h1, rfl, Same.refl F1, r1, .lst g1 g2⟩
        | _ => cases e3
      | own ds' =>
        cases m2
        obtain ⟨l, F', h1, h2, h3, h4⟩ := r1.freeze z
        exact ⟨l, ds', F', h1, rfl, h2, h4, h3⟩
  obtain ⟨l, ys, F2, hσ, rfl, s2F, r2, dl⟩ := look
  have hb : RgB a' b' ∧ ds = zipL (upTo a' b') ys ∧ S' = S2 := by
    have e3' : (if RgB a' b' then ret (zipL (upTo a' b') ys) else fun _ => none) S2 = some (ds, S') := e3
    by_cases z : RgB a' b'
    · rw [if_pos z] at e3'
      cases e3'
      exact ⟨z, rfl, rfl⟩
    · rw [if_neg z] at e3'
      cases e3'
  obtain ⟨hb, rfl, rfl⟩ := hb
  cases dl with
  | @lst _ vs _ g1 g2 =>
    obtain ⟨mm, hn, hl⟩ := I1.loc
    obtain ⟨uv, ruv, lk⟩ := hl j x _ hN hσ hv
    cases ruv
    have g1' : SqL X.K H1 l vs := sqL_up r2.fh g1
    obtain ⟨its2, rv2, p2, _⟩ := I1.list g1'
    have fin : wpAny (model X.prog X.w) X.A (eval (.Name x px) X.env) (fun v2 s2 => v2 = .ref l ∧ s2 = s1) X.xe s1 := by
      rcases lk with ⟨hk, hmm⟩ | ⟨hk, cc, hc, hcell⟩
      · exact wpAny_Name (wpAny_loadName_local I1.ok.kind hk hn hmm ⟨rfl, rfl⟩) hd
      · rcases hk with hk | hk
        · exact wpAny_Name (wpAny_loadName_cell I1.ok.kind hk hc hcell ⟨rfl, rfl⟩) hd
        · exact wpAny_Name (wpAny_loadName_free I1.ok.kind hk hc hcell ⟨rfl, rfl⟩ hcd) hd
    refine args_cons (thn fin fun v2 s2 hx => ?_) nb
    obtain ⟨rfl, rfl⟩ := hx
    refine args_nil ?_
    have la : ra < s2.heap.objs.size := Heap.lt_size hr
    have lb : l < s2.heap.objs.size := p2.lt
    obtain ⟨⟨b1, b2⟩, ⟨b3, b4⟩, b5⟩ := hb
    refine zip_begins2 (begins_range b1 b2 b3 b4) (begins_list l its2.toArray) hr p2.isList fun h' hz' hTI hTO g1o g2o hsz hk => wpAny_pyIter_zip hz' ?_
    have I2 : Inv X pins σ H1 { s2 with heap := h' } := I1.kept (t' := s2.toks) hk
    have fresh5 : ∀ d, d ∈ [s2.heap.objs.size + 4, s2.heap.objs.size + 2, s2.heap.objs.size + 3, s2.heap.objs.size, s2.heap.objs.size + 1] → FpOk X pins H1 d := fun d hd => by
      have hle : s2.heap.objs.size ≤ d := by
        simp only [List.mem_cons, List.mem_nil_iff, or_false] at hd
        rcases hd with z | z | z | z | z <;> rw [z]
        · exact Nat.le_add_right _ _
        · exact Nat.le_add_right _ _
        · exact Nat.le_add_right _ _
        · exact Nat.le_refl _
        · exact Nat.le_add_right _ _
      exact I1.fpOk hle (I1.hok.fresh hle)
    have ne2 : l ≠ s2.heap.objs.size + 1 := Nat.ne_of_lt (Nat.lt_succ_of_lt lb)
    have sep : ZipSep2 (s2.heap.objs.size + 4) (s2.heap.objs.size + 2) (s2.heap.objs.size + 3) s2.heap.objs.size (s2.heap.objs.size + 1) [s2.heap.objs.size] [s2.heap.objs.size + 1, l] :=
      zip_sep2 (N := s2.heap.objs.size) (fp1 := []) (fp2 := [l]) (fun d hd => by cases hd) (fun d hd => by rw [List.mem_singleton.mp hd]; exact lb)
    refine ⟨s2.heap.objs.size + 4, [s2.heap.objs.size + 4, s2.heap.objs.size + 2, s2.heap.objs.size + 3, s2.heap.objs.size, s2.heap.objs.size + 1], _, _, H1, rfl, I2, turn_zr (lo := a') (n := (b' - a').toNat) sep ne2, ⟨hz', hTI, ⟨_, _, hTO⟩, ?_, ⟨_, g2o, rfl, rfl⟩⟩, fresh5, ?_⟩
    · have e1 : a' + ((0 : Nat) : Int) * 1 = a' := by simp
      have e2 : (((b' - a').toNat : Nat) : Int) - ((0 : Nat) : Int) = Builtin.Range.rangeSize a' b' 1 := by rw [rangeSize_one]; split <;> omega
      show IsRangeIter _ _ (a' + ((0 : Nat) : Int) * 1) ((((b' - a').toNat : Nat) : Int) - ((0 : Nat) : Int)) 1
      rw [e1, e2]
      exact g1o
    · refine q F2 H1 (Itzr X.K a' (b' - a').toNat l) (fun H => SqL X.K H l vs) _ (sF.trans s2F) r2 (walk_zr ?_) (fun F3 H3 u1 u2 => sqL_up (u1.trans u2) g1) ?_
      · unfold zipL upTo
        rw [List.length_zipWith, List.length_map, List.length_range, g2.len]
      · intro i c' F3 S3 σ3 H3 v3 H4 u1 r3 y3
        obtain ⟨T, y, rfl, hT, rfl, hi, hy⟩ := y3
        obtain ⟨dd, k1, k2⟩ := g2.getV hy
        have fT := r3.fh.free hT
        refine ⟨upd F3 T (.tup [.int (a' + (i : Nat) * 1), y]), .tuple [.int (a' + (i : Int)), dd], upd_up fT, r3.alloc hT, ?_, .tup (.inl (.inl upd_same)) ?_⟩
        · refine zipL_at ?_ k1
          unfold upTo
          rw [List.getElem?_map, List.getElem?_range hi]
          rfl
        · have up := u1.trans (upd_up (o := .tup [.int (a' + (i : Nat) * 1), y]) fT)
          rw [Int.mul_one]
          rw [Int.mul_one] at up
          exact .cons (.int _) (.cons (Dp.up up _ _ k2) .nil)
end
end DL

-- part DL27
set_option Elab.async false
set_option linter.all false
set_option maxRecDepth 100000
set_option maxHeartbeats 1000000
/-! DL27: list + list, list * int, tuple * int. -/
namespace DL
open PySem PySem.Spec PyProof.Rows L2 RZ
theorem tuple_mulW1 (l : Addr) (items : Array Value) (n : Nat) (dd : Option Addr) (sl : Array (Option Value)) (u : Tok) :
    Meets (Builtin.«tuple.__mul__» ⟨[.ref l, .int 1 u], []⟩) (fun _ R s => s.heap.get? l = some { cls := .type "tuple", dict := dd, data := .seq items n, slots := sl } ∧
      R (.ok (.ret (Value.ref l))) { s with heap := s.heap, toks := s.toks }) :=
  .of_wp fun prog w A R s h => by
    obtain ⟨hp, g, d, tk, os⟩ := s
    obtain ⟨hl, h⟩ := h
    have f1 := AutoSeq1.idx_int
    have c1 : (items.isEmpty || (1 : Int) == 1) = true := by simp
    wp_walk using wpAny_loadPart' hl
    repeat (first
      | (refine wpAny_ite_true (decide_eq_true c1) ?_; wp_walk using wpAny_loadPart' hl))
    exact ⟨_, rfl, h⟩
section
variable {X : Cx}
def rCatL (K : PySem.W.Frag) : R2 := fun x y H Q => ∃ a b xs ys, x = .ref a ∧ y = .ref b ∧ SqL K H a xs ∧ SqL K H b ys ∧ xs.length + ys.length ≤ sizeLine ∧ ∀ p, H p = none → Q (.ref p) (upd H p (.lst (xs ++ ys)))
theorem op_catL : OpR X (binaryOp .Add) (rCatL X.K) := by
  intro pins s σ H x y v u Q I rx ry h
  obtain ⟨a, b, xs, ys, rfl, rfl, ha, hb, hz, q⟩ := h
  cases rx
  cases ry
  obtain ⟨its, r, ⟨⟨cls, dd, data, sl⟩, n, ho, hc, hd, hs⟩, _⟩ := I.list ha
  obtain ⟨its2, r2, ⟨⟨cls2, dd2, data2, sl2⟩, n2, ho2, hc2, hd2, hs2⟩, _⟩ := I.list hb
  simp only at hc hd hs hc2 hd2 hs2
  subst hc hd hs hc2 hd2 hs2
  have l1 := r.length
  have l2 := r2.length
  have e : its.toArray ++ its2.toArray = (its ++ its2).toArray := by simp
  refine concat_meets ⟨_, ho, rfl⟩ ⟨_, ho2, rfl⟩ noFill_list_add seq_list_add PySem.F.slot_list_add PySem.F.entry_list_add (PySem.F.args_list_add_2 _ _) (list_addW a b its.toArray its2.toArray n n2 _ _ sl sl2 (by simp; omega)) ⟨ho, ho2, ?_⟩
  rw [e]
  exact ⟨.ref _, _, I.lnew (t' := s.toks) (r.append r2) (by rw [List.length_append]; omega), rfl, q _ I.fresh⟩
def rRepL (K : PySem.W.Frag) : R2 := fun x y H Q => ∃ l k xs, x = .ref l ∧ y = .int k ∧ SqL K H l xs ∧ -(2 ^ 62) ≤ k ∧ k < 2 ^ 62 ∧ xs.length * k.toNat ≤ 2 ^ 20 ∧ ∀ p, H p = none → Q (.ref p) (upd H p (.lst (List.replicate k.toNat xs).flatten))
theorem op_repL : OpR X (binaryOp .Mult) (rRepL X.K) := by
  intro pins s σ H x y v u Q I rx ry h
  obtain ⟨l, k, xs, rfl, rfl, ha, h1, h2, hz, q⟩ := h
  cases rx
  obtain ⟨t, rfl⟩ := ry
  obtain ⟨its, r, ⟨⟨cls, dd, data, sl⟩, n, ho, hc, hd, hs⟩, _⟩ := I.list ha
  simp only at hc hd hs
  subst hc hd hs
  have l1 := r.length
  have hz' : its.toArray.size * k.toNat ≤ 2 ^ 20 := by
    rw [List.size_toArray, ← l1]
    exact hz
  refine wpAny_binaryOp_repeat_ref (T := "list") (U := "int") (by decide) ⟨_, ho, rfl⟩ (fun s' => typeIs_int s' k t) noFill_list_mul F.fills_int_mul F.slot_int_rmul repeat_list F.slot_int_index.lookup
    (call_meets F.slot_int_rmul (typeIs_int s k t) F.entry_int_rmul (F.args_int_rmul_2 _ _) (lm_int_rmul_list_any k t l its.toArray n _ sl)
      ⟨ho, rfl, ⟨_, ho, rfl⟩, call_meets F.slot_list_mul ⟨_, ho, rfl⟩ F.entry_list_mul (F.args_list_mul_2 _ _)
        (lm_list_mul_any l its.toArray n _ sl k t (by simp [Builtin.List.listFitsIndex]; omega) (by omega) (by simp only [Builtin.List.listTooLong, sizeLine_eq]; simp only [decide_eq_true_eq]; omega))
        ⟨ho, ?_⟩⟩)
  rw [listMul_foldl_if]
  refine ⟨.ref _, _, I.lnew (t' := s.toks) (r.rep k.toNat) (by rw [PyProof.Rows.lm_len_rep_flat, sizeLine_eq, l1, Nat.mul_comm]; rw [List.size_toArray] at hz'; omega), rfl, q _ I.fresh⟩
/-- a tuple times 1 -/
def rRep1 (K : PySem.W.Frag) : R2 := fun x y H Q => ∃ l xs, x = .ref l ∧ y = .int 1 ∧ SqT K H l xs ∧ Q (.ref l) H
theorem op_rep1 : OpR X (binaryOp .Mult) (rRep1 X.K) := by
  intro pins s σ H x y v u Q I rx ry h
  obtain ⟨l, xs, rfl, rfl, hT, q⟩ := h
  cases rx
  obtain ⟨t, rfl⟩ := ry
  obtain ⟨its, r, ⟨⟨cls, dd, data, sl⟩, ho, hc, n, hd⟩, hs⟩ := I.tuple hT
  simp only at hc hd
  subst hc hd
  refine wpAny_binaryOp_repeat_ref (T := "tuple") (U := "int") (by decide) ⟨_, ho, rfl⟩ (fun s' => typeIs_int s' 1 t) noFill_tuple_mul F.fills_int_mul F.slot_int_rmul repeat_tuple F.slot_int_index.lookup
    (call_meets F.slot_int_rmul (typeIs_int s 1 t) F.entry_int_rmul (F.args_int_rmul_2 _ _) (int_rmul_tuple 1 t l its.toArray n dd sl)
      ⟨ho, rfl, ⟨_, ho, rfl⟩, call_meets F.slot_tuple_mul ⟨_, ho, rfl⟩ F.entry_tuple_mul (F.args_tuple_mul_2 _ _) (tuple_mulW1 l its.toArray n dd sl t) ⟨ho, ?_⟩⟩)
  exact ⟨.ref l, H, I, rfl, q⟩
/-! over data -/
def addL (x y : D) : Option D := match x, y with
  | .list xs, .list ys => if xs.length + ys.length ≤ sizeLine then some (.list (xs ++ ys)) else none
  | _, _ => none
theorem opd_addL : OpR X (binaryOp .Add) (r2D X.K addL) :=
  opr_imp op_catL fun x y H Q ⟨F, a, b, d, e, ha, hb, hf, q⟩ => by
    cases ha with
    | @lst p xs ds h1 h2 =>
      cases hb with
      | @lst p' ys es g1 g2 =>
        have hf' : (if ds.length + es.length ≤ sizeLine then some (PyData.list (ds ++ es)) else none) = some d := hf
        by_cases c : ds.length + es.length ≤ sizeLine
        · rw [if_pos c] at hf'
          cases hf'
          refine ⟨p, p', xs, ys, rfl, rfl, sqL_up e h1, sqL_up e g1, by rw [h2.len, g2.len]; exact c, fun l hl => ?_⟩
          have fl := Same.free e hl
          exact q.2 l _ hl (.lst (.inl (.inl upd_same)) (DpAll.up (upd_up fl) _ _ (h2.append g2)))
        · rw [if_neg c] at hf'
          cases hf'
      | non => exact nomatch hf
      | bl _ => exact nomatch hf
      | str _ => exact nomatch hf
      | tup _ _ => exact nomatch hf
      | int _ => exact nomatch hf
    | non => exact nomatch hf
    | bl _ => exact nomatch hf
    | int _ => exact nomatch hf
    | str _ => exact nomatch hf
    | tup _ _ => exact nomatch hf
def addB : D → D → Option D := alt addA addL
theorem opd_addB : OpR X (binaryOp .Add) (r2D X.K addB) := opr_alt opd_addA opd_addL
theorem dpRep {K : PySem.W.Frag} {F : Hp} {vs : List V} {ds : List D} (h : DpAll K F vs ds) : ∀ n : Nat, DpAll K F (List.replicate n vs).flatten (List.replicate n ds).flatten
  | 0 => .nil
  | n + 1 => by
    rw [List.replicate_succ, List.replicate_succ, List.flatten_cons, List.flatten_cons]
    exact h.append (dpRep h n)
def mulQ (x y : D) : Option D := match x, y with
  | .list xs, .int k => if (-(2 ^ 62) ≤ k ∧ k < 2 ^ 62) ∧ xs.length * k.toNat ≤ 2 ^ 20 then some (.list (List.replicate k.toNat xs).flatten) else none
  | _, _ => none
theorem opd_mulQ : OpR X (binaryOp .Mult) (r2D X.K mulQ) :=
  opr_imp op_repL fun x y H Q ⟨F, a, b, d, e, ha, hb, hf, q⟩ => by
    cases ha with
    | @lst p xs ds h1 h2 =>
      cases hb with
      | int k =>
        have hf' : (if (-(2 ^ 62) ≤ k ∧ k < 2 ^ 62) ∧ ds.length * k.toNat ≤ 2 ^ 20 then some (PyData.list (List.replicate k.toNat ds).flatten) else none) = some d := hf
        by_cases c : (-(2 ^ 62) ≤ k ∧ k < 2 ^ 62) ∧ ds.length * k.toNat ≤ 2 ^ 20
        · rw [if_pos c] at hf'
          cases hf'
          refine ⟨p, k, xs, rfl, rfl, sqL_up e h1, c.1.1, c.1.2, by rw [h2.len]; exact c.2, fun l hl => ?_⟩
          have fl := Same.free e hl
          exact q.2 l _ hl (.lst (.inl (.inl upd_same)) (DpAll.up (upd_up fl) _ _ (dpRep h2 _)))
        · rw [if_neg c] at hf'
          cases hf'
      | non => exact nomatch hf
      | bl _ => exact nomatch hf
      | str _ => exact nomatch hf
      | tup _ _ => exact nomatch hf
      | lst _ _ => exact nomatch hf
    | non => exact nomatch hf
    | bl _ => exact nomatch hf
    | int _ => exact nomatch hf
    | str _ => exact nomatch hf
    | tup _ _ => exact nomatch hf
def mulT (x y : D) : Option D := match x, y with
  | .tuple xs, .int k => if xs ≠ [] ∧ 2 ≤ k ∧ k ≤ 1000 ∧ xs.length ≤ 1000 then some (.tuple (List.replicate k.toNat xs).flatten) else none
  | _, _ => none
theorem opd_mulT : OpR X (binaryOp .Mult) (r2D X.K mulT) :=
  opr_imp op_repT fun x y H Q ⟨F, a, b, d, e, ha, hb, hf, q⟩ => by
    cases ha with
    | @tup p xs ds h1 h2 =>
      cases hb with
      | int k =>
        unfold mulT at hf
        by_cases c : ds ≠ [] ∧ 2 ≤ k ∧ k ≤ 1000 ∧ ds.length ≤ 1000
        · simp only [if_pos c] at hf
          cases hf
          refine ⟨p, k, xs, rfl, rfl, sqT_up e h1, fun z => c.1 ?_, c.2.1, c.2.2.1, by rw [h2.len]; exact c.2.2.2, fun l hl => ?_⟩
          · subst z
            cases h2
            rfl
          · have fl := Same.free e hl
            exact q.2 l _ hl (.tup (.inl (.inl upd_same)) (DpAll.up (upd_up fl) _ _ (dpRep h2 _)))
        · simp only [if_neg c] at hf
          cases hf
      | non => exact nomatch hf
      | bl _ => exact nomatch hf
      | str _ => exact nomatch hf
      | tup _ _ => exact nomatch hf
      | lst _ _ => exact nomatch hf
    | non => exact nomatch hf
    | bl _ => exact nomatch hf
    | int _ => exact nomatch hf
    | str _ => exact nomatch hf
    | lst _ _ => exact nomatch hf
def mulT1 (x y : D) : Option D := match x, y with
  | .tuple xs, .int k => if k = 1 then some (.tuple xs) else none
  | _, _ => none
theorem opd_mulT1 : OpR X (binaryOp .Mult) (r2D X.K mulT1) :=
  opr_imp op_rep1 fun x y H Q ⟨F, a, b, d, e, ha, hb, hf, q⟩ => by
    cases ha with
    | @tup p xs ds h1 h2 =>
      cases hb with
      | int k =>
        unfold mulT1 at hf
        by_cases c : k = 1
        · simp only [if_pos c] at hf
          cases hf
          subst c
          exact ⟨p, xs, rfl, rfl, sqT_up e h1, q.1 _ (.tup h1 h2)⟩
        · simp only [if_neg c] at hf
          cases hf
      | non => exact nomatch hf
      | bl _ => exact nomatch hf
      | str _ => exact nomatch hf
      | tup _ _ => exact nomatch hf
      | lst _ _ => exact nomatch hf
    | non => exact nomatch hf
    | bl _ => exact nomatch hf
    | int _ => exact nomatch hf
    | str _ => exact nomatch hf
    | lst _ _ => exact nomatch hf
def mulB : D → D → Option D := alt mulS (alt mulQ (alt mulT mulT1))
theorem opd_mulB : OpR X (binaryOp .Mult) (r2D X.K mulB) := opr_alt opd_mulS (opr_alt opd_mulQ (opr_alt opd_mulT opd_mulT1))
end
end DL

-- part DL28
set_option Elab.async false
set_option linter.all false
set_option maxRecDepth 100000
set_option maxHeartbeats 1000000
/-! DL28: enumerate over a list or a tuple. -/
namespace DL
open PySem PySem.Spec PyProof.Rows L2 RZ
theorem meets_enum_B {v : Value} {o : Obj} {H : Heap → Prop} (B : Begins v o H) :
    Meets (Builtin.«enumerate.__new__» ⟨[.type "enumerate", v], []⟩) (fun _ R s => H s.heap ∧
      R (.ok (.ret (.ref (s.heap.push o).objs.size))) { s with heap := (s.heap.push o).push { cls := .type "enumerate", data := .fields #[.none, .bool false, .ref s.heap.objs.size, rawInt 0, .none, .none] } }) :=
  .of_wp fun prog w A R s h => by
    obtain ⟨hp, g, d, tk, os⟩ := s; obtain ⟨h1, h⟩ := h
    have hsub := sub_enumerate
    have q1 : ∀ {A' : Around} {E : Value → Shared → Prop} {Q : Value → Shared → Prop}, Q (.ref hp.objs.size) ⟨hp.push o, g, d, tk, os⟩ → wpAny (model prog w) A' (pyIter v) Q E ⟨hp, g, d, tk, os⟩ :=
      fun q => B.iter prog w _ _ ⟨hp, g, d, tk, os⟩ _ h1 q
    wp_walk using q1
    refine wpAny_stack_any fun st => wpAny_pure ?_
    split
    · rename_i c _ _ _ _ _
      cases (c == Value.type "enumerate")
      · wp_walk using q1
        exact ⟨_, rfl, h⟩
      · wp_walk using q1
        exact ⟨_, rfl, h⟩
    · wp_walk using q1
      exact ⟨_, rfl, h⟩
theorem call_enum_B {prog : Program} {w : World} {A : Around} {E : Value → Shared → Prop} {s : Shared} {v : Value} {o : Obj} {H : Heap → Prop} {Q : Value → Shared → Prop} (B : Begins v o H) (h1 : H s.heap)
    (h : ∀ h', IsEnum h' (s.heap.objs.size + 1) s.heap.objs.size 0 .none → h'.get? s.heap.objs.size = some o → h'.objs.size = s.heap.objs.size + 2 →
      (∀ b o, s.heap.get? b = some o → h'.get? b = some o) → Q (.ref (s.heap.objs.size + 1)) { s with heap := h' }) :
    wpAny (model prog w) A (call (.type "enumerate") [v]) Q E s := by
  refine callType_new F.called_enumerate (by decide) (F.typeCall_enumerate_1 _) (F.newCall_enumerate_1 _) (fun obj => F.args_object_init_2 obj _) F.entry_enumerate_new
    (meets_enum_B B) ⟨h1, ?_⟩
  have hz : (s.heap.push o).objs.size = s.heap.objs.size + 1 := Heap.size_push ..
  show _ ∧ _
  rw [hz]
  have he : IsEnum ((s.heap.push o).push { cls := .type "enumerate", data := .fields #[.none, .bool false, .ref s.heap.objs.size, rawInt 0, .none, .none] }) (s.heap.objs.size + 1) s.heap.objs.size 0 .none := by
    have := Heap.get?_push_size (s.heap.push o) (o := { cls := .type "enumerate", data := .fields #[.none, .bool false, .ref s.heap.objs.size, rawInt 0, .none, .none] }) rfl
    rw [hz] at this; exact this
  refine ⟨⟨_, he, rfl⟩, h _ he (Heap.get?_push_of_some _ (Heap.get?_push_size _ B.free)) (by rw [Heap.size_push, hz]) fun b o x => Heap.get?_push_of_some _ (Heap.get?_push_of_some _ x)⟩
def ItenX (l : Bool) (K : PySem.W.Frag) (a : Addr) : It :=
  ⟨fun i H => ∃ (xs : List V) (x : V), SqX l K H a xs ∧ xs[i]? = some x,
   fun i H v H' => ∃ (T : Addr) (x : V), v = .ref T ∧ H T = none ∧ H' = upd H T (.tup [.int (i : Nat), x]) ∧ ∀ xs, SqX l K H a xs → xs[i]? = some x,
   fun i H => ∃ xs : List V, SqX l K H a xs ∧ i = xs.length⟩
theorem turn_enX {P : Program} {w : World} {K : PySem.W.Frag} {elts : List Expr} {kk : Nat} {tpos : Pos} {l : Bool} {a e it : Addr} (ne : e ≠ it) (na : a ≠ it) (nea : e ≠ a) :
    Turn P w K (.Tuple elts kk tpos) (ItenX l K a) [e, it] e (fun i h => (∃ old, IsEnum h e it ((i : Nat) : Int) old) ∧ sIt l it a i h) where
  mem := by simp
  obj := fun i h st d hd => by
    obtain ⟨⟨old, he⟩, s1⟩ := st
    simp only [List.mem_cons, List.mem_nil_iff, or_false] at hd
    rcases hd with q | q <;> rw [q]
    · exact ⟨_, he, fun v q => nomatch q⟩
    · exact sIt_obj s1
  keep := fun i h h' st k => by
    obtain ⟨⟨old, he⟩, s1⟩ := st
    exact ⟨⟨old, k e (by simp) _ he⟩, sIt_keep s1 (k it (by simp))⟩
  item := by
    intro X hP hw hK hc i pins s σ H E I hf st hg
    subst hP hw hK
    obtain ⟨⟨old, he⟩, s1⟩ := st
    obtain ⟨xs, x, qx, hx⟩ := hg
    obtain ⟨ia, ra, pa⟩ := inv_side I qx
    obtain ⟨u, hu, ru⟩ := ra.get hx
    have hh : X.A.handled = none := I.ok.hd hc
    have D1 := s_draws (prog := X.prog) (w := X.w) (A := X.A.in1) l hh it a na ia.toArray
    have li : i < ia.toArray.size := by
      have := (List.getElem?_eq_some_iff.mp hu).1
      simpa using this
    have el : e < s.heap.objs.size := Heap.lt_size he
    obtain ⟨oi, hoi, _⟩ := sIt_obj s1
    have il : it < s.heap.objs.size := Heap.lt_size hoi
    refine eg_next (R := fun v g1 tk => v = u ∧ sIt l it a (i + 1) g1 ∧ Heap.SameBut it s.heap g1) he (fun Q1 E1 hq => ?_) fun v g1 h' tk hR eo tup sz fr => ?_
    · refine D1.item i s Q1 E1 li ⟨s1, pa⟩ fun x' g1 tk p st2 sb => ?_
      have e1 : x' = u := by
        have p1' : ia[i]? = some x' := by simpa using p
        rw [hu] at p1'
        exact (Option.some.inj p1').symm
      exact hq x' g1 tk ⟨e1, st2.1, sb⟩ (sb.extBut _ _ ne he)
    · obtain ⟨rfl, st2, sb1⟩ := hR
      refine ⟨_, rfl, wpAny_letOwnedTupleGo_enum (s := { s with heap := h', toks := tk + 1 }) eo fun h'' he' sb => ?_⟩
      have sz1 : g1.objs.size = s.heap.objs.size := sb1.1
      rw [sz1] at tup
      try rw [sz1]
      have tup2 : h''.get? s.heap.objs.size = some { cls := .type "tuple", data := .seq #[.int (i : Int) tk, v] } := (sb.2 _ (Nat.ne_of_gt el)).trans tup
      have keep1 : ∀ d o, d ∉ [e, it] → s.heap.get? d = some o → h''.get? d = some o := fun d o nd ed => by
        have n1 : d ≠ e := fun q => nd (by simp [q])
        have n2 : d ≠ it := fun q => nd (by simp [q])
        exact (sb.2 _ n1).trans (fr _ _ n1 (sb1.extBut _ _ n2 ed))
      have new : ObjOk X.prog X.w (upd H s.heap.objs.size (.tup [.int (i : Nat), x])) h'' s.heap.objs.size (.tup [.int (i : Nat), x]) :=
        ⟨by show 2 ≤ sizeLine; decide, [.int (i : Int) tk, v], .cons ⟨_, rfl⟩ (.cons ru .nil), ⟨_, tup2, rfl, _, rfl⟩⟩
      have I1 : Inv X pins σ (upd H s.heap.objs.size (.tup [.int (i : Nat), x])) { s with heap := h'', toks := tk + 1 } := I.turnedNew (t' := tk + 1) (ch := [e, it]) keep1 hf (Nat.le_refl _) new
      refine ⟨.ref s.heap.objs.size, _, I1, rfl, ⟨_, x, rfl, I.hok.fresh (Nat.le_refl _), rfl, fun ys hl => by rw [sqX_inj I hl qx]; exact hx⟩, ⟨⟨v, ?_⟩, ?_⟩, fun d hd => ?_⟩
      · have e1 : ((i + 1 : Nat) : Int) = (i : Int) + 1 := by omega
        rw [e1]
        exact he'
      · exact sIt_keep st2 fun o eo => (sb.2 _ (Ne.symm ne)).trans (fr _ _ (Ne.symm ne) eo)
      · have hlt : d < s.heap.objs.size := by
          simp only [List.mem_cons, List.mem_nil_iff, or_false] at hd
          rcases hd with q | q <;> rw [q]
          · exact el
          · exact il
        rw [upd_ne (Nat.ne_of_lt hlt)]
        exact (hf d hd).1
  done := by
    intro X hP hw hK hc i pins s σ H E I hf st hg
    subst hP hw hK
    obtain ⟨⟨old, he⟩, s1⟩ := st
    obtain ⟨xs, qx, hend⟩ := hg
    obtain ⟨ia, ra, pa⟩ := inv_side I qx
    have hh : X.A.handled = none := I.ok.hd hc
    have l1 : xs.length = ia.toArray.size := by simpa using ra.length
    have D1 := s_draws (prog := X.prog) (w := X.w) (A := X.A.in1) l hh it a na ia.toArray
    refine eg_end he fun Q1 E1 hq => D1.done s Q1 E1 (by rw [← l1, ← hend]; exact ⟨s1, pa⟩) fun h' x sb hx => ?_
    exact hq h' s.toks x hx ⟨rfl, I.turnedL (t' := s.toks) (ch := [e, it]) (fun d o nd ed => sb d o (fun q => nd (by simp [q])) ed) hf⟩
  self := fun A i s Q E st h => let ⟨⟨_, he⟩, _⟩ := st; wpAny_pyIter_enum he h
theorem walk_enX {K : PySem.W.Frag} {l : Bool} {a : Addr} {xs : List V} {n : Nat} (hn : n = xs.length) : L2.Walk (ItenX l K a) n (fun H => SqX l K H a xs)
    (fun i H v H' => ∃ (T : Addr) (x : V), v = .ref T ∧ H T = none ∧ H' = upd H T (.tup [.int (i : Nat), x]) ∧ xs[i]? = some x) := by
  subst hn
  refine ⟨fun i _ hi q => ?_, fun _ q => ⟨xs, q, rfl⟩, fun i H v H' _ q y => ?_⟩
  · exact ⟨xs, xs[i], q, by simp [hi]⟩
  · obtain ⟨T, x, h1, h2, h3, h4⟩ := y
    exact ⟨T, x, h1, h2, h3, h4 xs q⟩
/-- enumerate of a list or a tuple -/
def enumA (m : MV D) : MV (List D) := bnd m fun d => opt ((items d).map enumL)
section
variable {X : Cx} {c : Fr} {e : Expr} {m : MV D} {pos p : Pos} {elts : List Expr} {kk : Nat} {tpos : Pos}
theorem di_enumA (hg : Gl X "enumerate") (hm : X.mg "enumerate" = none) (ha : DE X c e m) (na : starEach [e] X.env = (false, eval e X.env) :: starEach [] X.env := by rfl) :
    DI X c (.Tuple elts kk tpos) (.Call (.Name "enumerate" p) [e] [] pos) (enumA m) := by
  refine ⟨fun pins s σ H R I h => ?_⟩
  obtain ⟨F, S, r, ds, S', e1, q⟩ := h
  obtain ⟨d, S1, m1, e2⟩ := bnd_some e1
  obtain ⟨e3, e4⟩ := opt_some e2
  subst e4
  cases hi : items d with
  | none => rw [hi] at e3; cases e3
  | some xs =>
    rw [hi] at e3
    cases e3
    refine Call_ (ld_blt I hg hm boot_enumerate (PyProof.Rows.callWith_type1 (args_cons (thn (ha.run pins s σ H (fun v H1 => ∃ F1, Same F F1 ∧ Rel X.K c F1 S' σ H1 ∧ Dp X.K F1 v d) I ⟨F, S, r, d, S', m1, fun F' H' v s' r' d' => ⟨F', s', r', d'⟩⟩) fun u s1 hx => args_nil ?_) na) na rfl))
    obtain ⟨v, H1, I1, ru, F1, sF, r1, d1⟩ := hx
    obtain ⟨l, a, vs, rfl, qa, da⟩ := dp_side d1 hi
    cases ru
    have qa' := sqX_up r1.fh qa
    obtain ⟨ia, ra, pa⟩ := inv_side I1 qa'
    have al := sHp_lt pa
    refine call_enum_B (s_begins l a ia.toArray) pa fun h' he hit hsz hk => wpAny_pyIter_enum he ?_
    have I2 : Inv X pins σ H1 { s1 with heap := h' } := I1.kept (t' := s1.toks) hk
    refine ⟨s1.heap.objs.size + 1, [s1.heap.objs.size + 1, s1.heap.objs.size], _, _, H1, rfl, I2, turn_enX (l := l) (Nat.succ_ne_self _) (Nat.ne_of_lt al) (Nat.ne_of_gt (Nat.lt_succ_of_lt al)), ⟨⟨.none, he⟩, sIt_new hit⟩, fun b hb => ?_, ?_⟩
    · have e' : b = s1.heap.objs.size + 1 ∨ b = s1.heap.objs.size := by simpa using hb
      have hle : s1.heap.objs.size ≤ b := by
        rcases e' with z | z
        · rw [z]; exact Nat.le_add_right _ _
        · rw [z]; exact Nat.le_refl _
      exact I1.fpOk hle (I1.hok.fresh hle)
    · refine q F1 H1 (ItenX l X.K a) (fun H => SqX l X.K H a vs) _ sF r1 (walk_enX ?_) (fun F3 H3 u1 u2 => sqX_up (u1.trans u2) qa) ?_
      · rw [enumL_len, da.len]
      · intro i c' F3 S3 σ3 H3 v3 H4 u1 r3 y3
        obtain ⟨T, y, rfl, hT, rfl, hy⟩ := y3
        obtain ⟨dd, k1, k2⟩ := da.getV hy
        have fT := r3.fh.free hT
        refine ⟨upd F3 T (.tup [.int (i : Nat), y]), .tuple [.int (i : Nat), dd], upd_up fT, r3.alloc hT, enumL_get k1, .tup (.inl (.inl upd_same)) ?_⟩
        have up := u1.trans (upd_up (o := .tup [.int (i : Nat), y]) fT)
        exact .cons (.int _) (.cons (Dp.up up _ _ k2) .nil)
end
end DL

-- part K48a
set_option Elab.async false
set_option linter.all false
set_option maxRecDepth 100000
set_option maxHeartbeats 1000000
namespace K48
open PySem PySem.Spec PyProof.Rows L2 RZ DL
def topS (i : Nat) : Stmt := PySem.Challenge.pw_beforeitcomes_k48_whole_ends_known_far.main.body.getD i (.Pass ⟨0, 0, 0, 0⟩)
abbrev s__law_source : Stmt := topS 25
abbrev N__law_source : List Str := ["script", "mixed", "cell"]
theorem sc__law_source : FnScope N__law_source ["script"] (defScope s__law_source) := ⟨rfl, rfl, rfl, by decide +kernel, rfl, by decide +kernel, by decide +kernel⟩
theorem c__law_source {P : Program} {w : World} {K : PySem.W.Frag} {mg : Str → Option Value} {base : Heap} {f : Addr} {fd : FuncData} (F : FnP K "_law_source" s__law_source f fd) (hm : mg "_law_source" = some (.ref f)) (g_abs : mg "abs" = none) (g_int : mg "int" = none) :
    FnOk P w K mg base CX0 1 f fd ["script"] (spOpenG (openG 11 69069 31 5 1) K) := by
  refine F.ok sc__law_source (fun vs H Q E q => ?_) (fun cdv A outer s H vs Q E hr q => ⟨_, PSs.nox (pss_cons (ps_set (i := 1) sc__law_source.nd rfl (Or.inl rfl) pe_int)
    (pss_cons (ps_for PassesOwn.never rfl (pi_list (pv 0)) (pg_name (i := 2) sc__law_source.nd rfl (Or.inl rfl)) (pss_one (ps_set (i := 1) sc__law_source.nd rfl (Or.inl rfl) (pe_op op_modN (pe_callTy call_int1 rfl g_int b_int (pa_cons (pe_op op_add (pe_op op_add (pe_op op_mulO (pv 1) pe_int) (pe_op op_mulO (pv 2) pe_int)) pe_int) pa_nil)) pe_int))))
    (pss_one (ps_ret (pe_disp (pps_cons pe_str (pe_revL (pe_lc (own := [("cell", 2)]) rfl sc__law_source.nd (pi_list (pv 0)) (blkOk_by (by kernel_rfl)) (fun _ _ _ _ _ => pg_name (i := 2) sc__law_source.nd rfl (Or.inl rfl)) (fun _ _ _ _ _ => pts_nil) (fun _ _ _ _ _ => pe_callB call_abs rfl g_abs b_abs (pa_cons (pv 2) pa_nil)))) (pps_cons pe_str pe_int (pps_cons pe_str (pv 1) (pps_cons pe_str pe_int pps_nil)))) rfl rfl (by decide) (by decide)))))), ?_⟩)
  · obtain ⟨a, ns, rfl, _⟩ := q
    rfl
  obtain ⟨a, ns, rfl, hlen, hS, q⟩ := q
  have hsz := sizeLine_eq
  refine ⟨_, rfl, a, rfl, ⟨_, hS⟩, ?_⟩
  refine for_list (xs := ns.map V.int) (fun i σ H' => H' = H ∧ ∃ cc, σ = [some (.ref a), some (.int (stirG 11 69069 31 5 (ns.take i))), cc]) ⟨rfl, none, rfl⟩ (fun i σ H' _ p => by rw [p.1]; exact hS) ?_ ?_
  · rintro i x σ H' hx ⟨rfl, cc, rfl⟩
    rw [List.getElem?_map] at hx
    cases hi : ns[i]? with
    | none =>
      rw [hi] at hx
      cases hx
    | some c =>
      rw [hi] at hx
      cases hx
      refine ⟨_, rfl, _, _, rfl, rfl, .inr (by decide), _, rfl, _, _, rfl, rfl, .inr (by decide), _, _, rfl, rfl, _, _, rfl, rfl, .inl ⟨_, rfl, _, _, rfl, rfl, (show (2147483629 : Int) ≠ 0 by decide), rfl, some (.int c), ?_⟩⟩
      rw [stirG_succ hi]
      rfl
  · rintro σ H' ⟨rfl, cc, rfl⟩
    rw [List.length_map, List.take_length]
    intro p hp
    have hU : Same H' (upd H' p (.dK [])) := upd_up hp
    refine ⟨_, rfl, a, rfl, ⟨_, sqL_up hU hS⟩, fun Dl hD => ?_⟩
    have hpD : Dl ≠ p := fun e => by
      rw [e, upd_same] at hD
      cases hD
    have hD' : H' Dl = none := by
      rw [upd_ne hpD] at hD
      exact hD
    have hDa : ∀ H2 xs, SqL K H' a xs → SqL K (upd (upd H' p (.dK [])) Dl H2) a xs := fun H2 xs h => sqL_up (upd_up hD) (sqL_up hU h)
    refine lc_list (xs := ns.map V.int) (fun k Hk => Hk = upd (upd H' p (.dK [])) Dl (.lst ((ns.take k).map fun i => V.int (absI i)))) rfl (fun i Hk _ p => by rw [p]; exact hDa _ _ hS) ?_ ?_
    · rintro i x Hk hx rfl
      rw [List.getElem?_map] at hx
      cases hi : ns[i]? with
      | none =>
        rw [hi] at hx
        cases hx
      | some c =>
        rw [hi] at hx
        cases hx
        refine ⟨rfl, ?_⟩
        unfold tYes
        dsimp only
        rw [if_pos rfl]
        refine ⟨_, rfl, c, rfl, _, upd_same, ?_, ?_⟩
        · rw [List.length_map, List.length_take]
          omega
        · rw [upd_upd, List.take_add_one, hi]
          simp
          rfl
    · rintro Hk rfl
      rw [List.length_map, List.take_length]
      refine ⟨Dl, ns.map fun i => V.int (absI i), rfl, .inl (.inl upd_same), fun r hr2 => ?_⟩
      have hrD : r ≠ Dl := fun e => by
        rw [e, upd_same] at hr2
        cases hr2
      have hrp : r ≠ p := fun e => by
        rw [upd_ne hrD, e, upd_same] at hr2
        cases hr2
      have hr' : H' r = none := by
        rw [upd_ne hrD, upd_ne hrp] at hr2
        exact hr2
      refine ⟨_, rfl, ?_, kvSrc r (openG 11 69069 31 5 1 ns), rfl, (show 4 ≤ 15 by decide), ?_⟩
      · rw [upd_ne (Ne.symm hrp), upd_ne (Ne.symm hpD), upd_same]
      · rw [mergeK_src]
        refine q _ p r (fun b o e => ?_) hp hr' ⟨upd_same, ?_⟩
        · have n1 : b ≠ p := fun w => by rw [w, hp] at e; cases e
          have n2 : b ≠ r := fun w => by rw [w, hr'] at e; cases e
          have n3 : b ≠ Dl := fun w => by rw [w, hD'] at e; cases e
          rw [upd_ne n1, upd_ne n2, upd_ne n3, upd_ne n1]
          exact e
        · rw [upd_ne hrp, upd_same]
          unfold openG
          rw [List.map_reverse, List.map_map]
          rfl
abbrev s__law_pick : Stmt := topS 26
abbrev N__law_pick : List Str := ["source", "many", "left", "mixed"]
theorem sc__law_pick : FnScope N__law_pick ["source", "many"] (defScope s__law_pick) := ⟨rfl, rfl, rfl, by decide +kernel, rfl, by decide +kernel, by decide +kernel⟩
theorem c__law_pick {P : Program} {w : World} {K : PySem.W.Frag} {mg : Str → Option Value} {base : Heap} {f : Addr} {fd : FuncData} (F : FnP K "_law_pick" s__law_pick f fd) (hm : mg "_law_pick" = some (.ref f)) (g_len : mg "len" = none) (g_int : mg "int" = none) (g_max : mg "max" = none) :
    Cal P w K mg base "_law_pick" 2 1 pickCF := by
  refine ⟨⟨f, fd, ["source", "many"], F.ok sc__law_pick (fun vs H Q E q => spD_len q) (fun cdv A outer s H vs Q E hr q => ⟨_, PSs.nox (pss_cons (ps_while PassesOwn.never (PW.pt (pw_and (pt_cmpR op_gt (pv 1) pe_int (nomark _)) (pw_and (pt_cmpR op_lt (pe_dget (hu1 hr) (pv 0) pe_str (fun _ _ => rfl)) pe_int (nomark _)) (pw_and1 (pt_cmpR op_gt (pe_callB call_len_seq rfl g_len b_len (pa_cons (pe_dget (hu1 hr) (pv 0) pe_str (fun _ _ => rfl)) pa_nil)) pe_int (nomark _))))))
      (pss_one (ps_dput (hu1 hr) (pv 0) pe_str (pe_bm0 PySem.F.plainAttrs_list PySem.F.slot_list_pop PySem.F.type_list_pop mt_pop (pe_dget (hu1 hr) (pv 0) pe_str (fun _ _ => rfl))) rfl)))
    (pss_cons (ps_set (i := 2) sc__law_pick.nd rfl (Or.inl rfl) (pe_dget (hu1 hr) (pv 0) pe_str (fun _ _ => rfl)))
    (pss_cons (ps_if (PW.pt (pw_or (pt_cmpR op_lt (pv 1) pe_int (nomark _)) (pw_or1 (pt_cmpR op_gt (pv 2) pe_int (nomark _))))) (pss_cons (ps_dput (hu1 hr) (pv 0) pe_str (pe_op op_fdivW (pv 2) (pe_callB (call_max2 rfl) rfl g_max b_max (pa_cons pe_int (pa_cons (pv 1) pa_nil)))) rfl) (pss_one (ps_ret (pe_op op_modN (pe_callTy call_int1 rfl g_int b_int (pa_cons (pv 2) pa_nil)) (pe_callB (call_max2 rfl) rfl g_max b_max (pa_cons pe_int (pa_cons (pv 1) pa_nil))))))) pss_nil)
    (pss_cons (ps_dput (hu1 hr) (pv 0) pe_str (pe_op op_add (pe_dget (hu1 hr) (pv 0) pe_str (fun _ _ => rfl)) pe_int) rfl)
    (pss_cons (ps_set (i := 3) sc__law_pick.nd rfl (Or.inl rfl) (pe_op op_modN (pe_callTy call_int1 rfl g_int b_int (pa_cons (pe_op op_add (pe_dget (hu1 hr) (pv 0) pe_str (fun _ _ => rfl)) (pe_op op_mulO (pe_dget (hu1 hr) (pv 0) pe_str (fun _ _ => rfl)) pe_int)) pa_nil)) pe_int))
    (pss_cons (ps_set (i := 3) sc__law_pick.nd rfl (Or.inl rfl) (pe_op op_modN (pe_callTy call_int1 rfl g_int b_int (pa_cons (pe_op op_add (pe_op op_mulO (pv 3) (pv 3)) (pe_op op_mulO (pe_dget (hu1 hr) (pv 0) pe_str (fun _ _ => rfl)) pe_int)) pa_nil)) pe_int))
    (pss_cons (ps_dput (hu1 hr) (pv 0) pe_str (pv 3) rfl)
    (pss_one (ps_ret (pe_op op_modN (pe_callTy call_int1 rfl g_int b_int (pa_cons (pe_op op_fdivW (pv 3) pe_int) pa_nil)) (pv 1))))))))))), ?_⟩), hm, F.kp, F.bindsN fun _ _ _ _ _ _ us hl => match us, hl with | [_, _], _ => rfl⟩⟩
  obtain ⟨ps, pc, F0, as, s0, d, s', hn, hF, hA, hS, fps, fpc, hm', k⟩ := q
  match as, hA, hm', hn with
  | [.src, .d (.int m)], hA, hm', _ =>
    have hm2 : (if m.natAbs < 2 ^ 60 then some (PyData.int (pickC m s0).1, (pickC m s0).2) else none) = some (d, s') := hm'
    by_cases hb : m.natAbs < 2 ^ 60
    · rw [if_pos hb] at hm2
      cases hm2
      cases hA with
      | @cons v1 _ vs1 _ ha hA =>
        cases hA with
        | @cons v2 _ vs2 _ ha2 hA =>
          cases hA
          obtain rfl : v1 = .ref ps := ha
          have ha2' : Dp K F0 v2 (.int m) := ha2
          cases ha2'
          have ne := hS.ne
          rw [← hS.eq]
          have fin : ∀ (r : Int) (s2 : Src), r = (pickC m s0).1 → s2 = (pickC m s0).2 → Q (.int r) (stH H ps pc s2) := fun r s2 e1 e2 => by
            subst e1 e2
            refine k F0 _ _ (Same.refl _) (fun b o e => ?_) (fun a o e => .inl e) (fun a o e n1 n2 => ?_) (stH_at ne) (.int _)
            · have n1 : b ≠ ps := fun w => by rw [w, fps] at e; cases e
              have n2 : b ≠ pc := fun w => by rw [w, fpc] at e; cases e
              rw [stH_o n1 n2]
              exact hF b o e
            · rw [stH_o n1 n2]
              exact e
          clear hS k hF fps fpc
          unfold pickC at fin
          have hmx : m.natAbs.log2 < 9000 := by
            by_cases h0 : m.natAbs = 0
            · rw [h0]
              decide
            · have := (Nat.log2_lt h0).mpr hb
              omega
          refine ⟨fun n σ Hn => ∃ left cs, n = cs.length ∧ σ = [some (.ref ps), some (.int m), none, none] ∧ Hn = stH H ps pc { s0 with cells := cs.reverse, left := left } ∧ (2 ≤ m → popR left cs = popR s0.left s0.cells.reverse) ∧ (m < 2 → left = s0.left ∧ cs = s0.cells.reverse), ⟨_, s0.left, s0.cells.reverse, rfl, rfl, by rw [List.reverse_reverse], fun _ => rfl, fun _ => ⟨rfl, rfl⟩⟩, ?_⟩
          rintro n σ Hn ⟨left, cs, rfl, rfl, rfl, hpop, hsm⟩
          refine tAnd_val (x := decide (1 < m)) (y := (decide (left < 2) && decide ((0 : Int) < (((cs.reverse.map V.int).length : Nat) : Int)))) (fun Q' q' => ⟨_, rfl, _, _, rfl, rfl, _, rfl, q'⟩) (fun Q' q' => tAnd_val (x := decide (left < 2)) (y := decide ((0 : Int) < (((cs.reverse.map V.int).length : Nat) : Int))) (fun Q' q' => ⟨_, rfl, ps, _, rfl, get_left, _, _, rfl, rfl, _, rfl, q'⟩) (fun Q' q' => ⟨_, rfl, ps, _, rfl, get_cells, pc, cs.reverse.map V.int, rfl, .inl (.inl (.inl (stH_l ne))), _, _, rfl, rfl, _, rfl, q'⟩) q') ?_
          by_cases hgo : 1 < m ∧ left < 2 ∧ cs ≠ []
          · obtain ⟨hm1, hl, hc⟩ := hgo
            match cs, hc with
            | c1 :: cs, _ =>
              have hlen : (0 : Int) < ((((c1 :: cs).reverse.map V.int).length : Nat) : Int) := by simp
              refine ite_t (by rw [decide_eq_true hm1, decide_eq_true hl, decide_eq_true hlen]; rfl) ⟨fun σ' H' => σ' = [some (.ref ps), some (.int m), none, none] ∧ H' = stH H ps pc { s0 with cells := cs.reverse, left := c1 }, ?_, ?_⟩
              · rintro σ' H' ⟨rfl, rfl⟩
                refine ⟨cs.length, by simp, c1, cs, rfl, rfl, rfl, fun h => ?_, fun h => by omega⟩
                rw [← hpop h]
                show popR c1 cs = if left < 2 then popR c1 cs else (left, c1 :: cs)
                rw [if_pos hl]
              · refine ⟨_, rfl, ps, _, rfl, get_cells, .inl ⟨rfl, _, .inl (.inl (stH_l ne))⟩, pc, _, .int c1, rfl, rfl, stH_l ne, ?_, ?_⟩
                · simp
                · have hp : upd (stH H ps pc { s0 with cells := (c1 :: cs).reverse, left := left }) pc (.lst (((c1 :: cs).reverse.map V.int).dropLast)) = stH H ps pc { s0 with cells := cs.reverse, left := left } := stH_pop (s' := { s0 with cells := cs.reverse, left := left }) ne (by simp) rfl rfl rfl
                  exact ⟨_, rfl, ps, stH H ps pc { s0 with cells := cs.reverse, left := c1 }, rfl, hp ▸ put_left (s := { s0 with cells := cs.reverse, left := left }) c1, rfl, rfl⟩
          · refine ite_f ?_ ?_
            · by_cases hm1 : 1 < m
              · by_cases hl : left < 2
                · have hc : cs = [] := Classical.byContradiction fun w => hgo ⟨hm1, hl, w⟩
                  subst hc
                  simp
                · rw [decide_eq_false hl]
                  simp
              · rw [decide_eq_false hm1]
                rfl
            · refine ⟨_, rfl, ps, _, rfl, get_left, ?_⟩
              by_cases h2 : m < 2
              · obtain ⟨rfl, rfl⟩ := hsm h2
                rw [if_pos h2] at fin
                have hmax : (if m > 1 then m else (1 : Int)) = 1 := if_neg (by omega)
                refine ⟨_, rfl, _, _, rfl, rfl, _, rfl, ?_⟩
                refine ite_t (decide_eq_true h2) ?_
                refine ite_t rfl ?_
                refine ⟨_, rfl, _, rfl, 1, m, rfl, ?_⟩
                rw [hmax]
                refine ⟨_, _, rfl, rfl, ⟨by decide, by decide⟩, _, rfl, ps, _, rfl, put_left (s0.left / 1), ?_⟩
                refine ⟨_, rfl, .inl ⟨s0.left, rfl, _, rfl, 1, m, rfl, ?_⟩⟩
                rw [hmax]
                refine ⟨s0.left, 1, rfl, rfl, (show (1 : Int) ≠ 0 by decide), ?_⟩
                exact fin _ _ (by rw [Int.fmod_one]) (by rw [Int.ediv_one, List.reverse_reverse])
              · have hm0 : 0 < m := by omega
                have hst := popR_stop (left := left) (cs := cs) fun w => hgo ⟨by omega, w⟩
                have hpop' := hpop (by omega)
                rw [if_neg h2] at fin
                rw [← hpop', hst] at fin
                have hmax : (if m > 1 then m else (1 : Int)) = m := if_pos (by omega)
                refine ⟨_, rfl, _, _, rfl, rfl, _, rfl, ?_⟩
                refine ite_f (decide_eq_false h2) ?_
                refine ⟨_, rfl, _, _, rfl, rfl, _, rfl, ?_⟩
                by_cases h1 : 1 < left
                · refine ite_t (decide_eq_true h1) ?_
                  refine ⟨_, rfl, _, rfl, 1, m, rfl, ?_⟩
                  rw [hmax]
                  refine ⟨left, m, rfl, rfl, ⟨hm0, hmx⟩, _, rfl, ps, _, rfl, put_left (left / m), ?_⟩
                  refine ⟨_, rfl, .inl ⟨left, rfl, _, rfl, 1, m, rfl, ?_⟩⟩
                  rw [hmax]
                  refine ⟨left, m, rfl, rfl, by omega, ?_⟩
                  exact fin _ _ (by simp only [if_pos h1]) (by simp only [if_pos h1])
                · refine ite_f (decide_eq_false h1) ?_
                  simp only [if_neg h1] at fin
                  refine ⟨_, rfl, ps, _, rfl, get_turn, _, _, rfl, rfl, _, rfl, ps, _, rfl, put_turn (s0.turn + 1), ?_⟩
                  have hsm : ((s0.mixed + (s0.turn + 1) * 104729).fmod 998244353).natAbs < 2 ^ 60 := by
                    have := fmod_bd (a := s0.mixed + (s0.turn + 1) * 104729) (m := 998244353) (by decide)
                    omega
                  refine ⟨_, rfl, ps, _, rfl, get_mixed, _, rfl, ps, _, rfl, get_turn, _, _, rfl, rfl, .inr (by decide), _, _, rfl, rfl, .inl ⟨_, rfl, _, _, rfl, rfl, (show (998244353 : Int) ≠ 0 by decide), ?_⟩⟩
                  refine ⟨_, rfl, _, rfl, _, _, rfl, rfl, .inl hsm, _, rfl, ps, _, rfl, get_turn, _, _, rfl, rfl, .inr (by decide), _, _, rfl, rfl, .inl ⟨_, rfl, _, _, rfl, rfl, (show (2147483647 : Int) ≠ 0 by decide), ?_⟩⟩
                  refine ⟨_, rfl, _, rfl, ps, _, rfl, put_mixed _, ?_⟩
                  refine ⟨_, rfl, _, _, rfl, rfl, ⟨(show (0 : Int) < 16 by decide), (show (16 : Int).natAbs.log2 < 9000 by decide)⟩, .inl ⟨_, rfl, _, rfl, _, _, rfl, rfl, (show m ≠ 0 by omega), ?_⟩⟩
                  exact fin _ _ rfl rfl
    · rw [if_neg hb] at hm2
      cases hm2
end K48

-- part K48b
set_option Elab.async false
set_option linter.all false
set_option maxRecDepth 100000
set_option maxHeartbeats 1000000
namespace K48
open PySem PySem.Spec PyProof.Rows L2 RZ DL
noncomputable def f__law_pick : DF := pickCF
abbrev s_share_number : Stmt := topS 1
abbrev N_share_number : List Str := ["p", "q", "a", "b"]
theorem sc_share_number : FnScope N_share_number ["p", "q"] (defScope s_share_number) := ⟨rfl, rfl, rfl, by decide +kernel, rfl, by decide +kernel, by decide +kernel⟩
noncomputable def d_share_number : MS :=
  (seqS (par2 2 3 (consL (callN absD (consL (vD 0) (ret []))) (consL (vD 1) (ret []))))
  (seqS (whileS (toB (op2 gtI (vD 3) (cD (.int 0)))) (par2 2 3 (consL (vD 3) (consL (op2 modI (vD 2) (vD 3)) (ret [])))))
  (retS (tupD (consL (op2 divI (vD 0) (vD 2)) (consL (op2 divI (vD 1) (vD 2)) (ret [])))))))
noncomputable def f_share_number : DF := defM 4 d_share_number
theorem c_share_number {P : Program} {w : World} {K : PySem.W.Frag} {mg : Str → Option Value} {base : Heap} {f : Addr} {fd : FuncData} (F : FnP K "share_number" s_share_number f fd) (hm : mg "share_number" = some (.ref f)) (g_abs : mg "abs" = none) :
    CalG P w K mg base "share_number" 2 1 f_share_number :=
  def_inG F sc_share_number (by decide) hm (fun _ _ _ _ _ _ us hl => match us, hl with | [_, _], _ => rfl) fun c cdv A outer s H E hr =>
  (dss_cons (ds_par rfl sc_share_number.nd (dl_cons (de_callB callr_abs rfl g_abs b_abs (dl_cons (de_var 0) dl_nil)) (dl_cons (de_var 1) dl_nil)) rfl (by decide) (i := 2) (j := 3))
  (dss_cons (ds_while PassesOwn.never (dt_cmp opd_gt (de_var 3) de_int) (dss_one (ds_par rfl sc_share_number.nd (dl_cons (de_var 3) (dl_cons (de_op opd_mod (de_var 2) (de_var 3)) dl_nil)) rfl (by decide) (i := 2) (j := 3))))
  (dss_one (ds_ret (de_tup (dl_cons (de_op opd_div (de_var 0) (de_var 2)) (dl_cons (de_op opd_div (de_var 1) (de_var 2)) dl_nil)))))))
abbrev s_is_less_share : Stmt := topS 2
abbrev N_is_less_share : List Str := ["x", "y"]
theorem sc_is_less_share : FnScope N_is_less_share ["x", "y"] (defScope s_is_less_share) := ⟨rfl, rfl, rfl, by decide +kernel, rfl, by decide +kernel, by decide +kernel⟩
noncomputable def d_is_less_share : MS :=
  (retS (op2 ltI (op2 mulS (op2 ixD (vD 0) (cD (.int 0))) (op2 ixD (vD 1) (cD (.int 1)))) (op2 mulS (op2 ixD (vD 1) (cD (.int 0))) (op2 ixD (vD 0) (cD (.int 1))))))
noncomputable def f_is_less_share : DF := defM 2 d_is_less_share
theorem c_is_less_share {P : Program} {w : World} {K : PySem.W.Frag} {mg : Str → Option Value} {base : Heap} {f : Addr} {fd : FuncData} (F : FnP K "is_less_share" s_is_less_share f fd) (hm : mg "is_less_share" = some (.ref f)) :
    CalG P w K mg base "is_less_share" 2 1 f_is_less_share :=
  def_inG F sc_is_less_share (by decide) hm (fun _ _ _ _ _ _ us hl => match us, hl with | [_, _], _ => rfl) fun c cdv A outer s H E hr =>
  (dss_one (ds_ret (de_cmp opd_lt (de_op opd_mulS (de_ix (de_var 0) de_int) (de_ix (de_var 1) de_int)) (de_op opd_mulS (de_ix (de_var 1) de_int) (de_ix (de_var 0) de_int)))))
abbrev s_greater_share : Stmt := topS 3
abbrev N_greater_share : List Str := ["x", "y"]
theorem sc_greater_share : FnScope N_greater_share ["x", "y"] (defScope s_greater_share) := ⟨rfl, rfl, rfl, by decide +kernel, rfl, by decide +kernel, by decide +kernel⟩
noncomputable def d_greater_share : MS :=
  (retS (ifD (toB (callD f_is_less_share (consA (vD 0) (consA (vD 1) (ret []))))) (vD 1) (vD 0)))
noncomputable def f_greater_share : DF := defM 2 d_greater_share
theorem c_greater_share {P : Program} {w : World} {K : PySem.W.Frag} {mg : Str → Option Value} {base : Heap} {f : Addr} {fd : FuncData} (F : FnP K "greater_share" s_greater_share f fd) (hm : mg "greater_share" = some (.ref f)) (C_is_less_share : CalG P w K mg base "is_less_share" 2 1 f_is_less_share) :
    CalG P w K mg base "greater_share" 2 2 f_greater_share :=
  def_inG F sc_greater_share (by decide) hm (fun _ _ _ _ _ _ us hl => match us, hl with | [_, _], _ => rfl) fun c cdv A outer s H E hr =>
  (dss_one (ds_ret (de_if (dt_val (de_cG C_is_less_share hr (by decide) rfl (da_cons (de_var 0) (da_cons (de_var 1) da_nil)) (len_cons (len_cons (fun _ _ _ h => len_nil h))))) (de_var 1) (de_var 0))))
abbrev s_rent_cost : Stmt := topS 5
abbrev N_rent_cost : List Str := ["b", "s", "days"]
theorem sc_rent_cost : FnScope N_rent_cost ["b", "s", "days"] (defScope s_rent_cost) := ⟨rfl, rfl, rfl, by decide +kernel, rfl, by decide +kernel, by decide +kernel⟩
noncomputable def d_rent_cost : MS :=
  (retS (ifD (orT (toB (op2 isD (vD 1) (cD .none))) (toB (op2 ltI (vD 2) (vD 1)))) (vD 2) (op2 addA (op2 subI (vD 1) (cD (.int 1))) (vD 0))))
noncomputable def f_rent_cost : DF := defM 3 d_rent_cost
theorem c_rent_cost {P : Program} {w : World} {K : PySem.W.Frag} {mg : Str → Option Value} {base : Heap} {f : Addr} {fd : FuncData} (F : FnP K "rent_cost" s_rent_cost f fd) (hm : mg "rent_cost" = some (.ref f)) :
    CalG P w K mg base "rent_cost" 3 1 f_rent_cost :=
  def_inG F sc_rent_cost (by decide) hm (fun _ _ _ _ _ _ us hl => match us, hl with | [_, _, _], _ => rfl) fun c cdv A outer s H E hr =>
  (dss_one (ds_ret (de_if (DW.dt (dw_or (dt_cmp opd_is (de_var 1) de_none) (dw_or1 (dt_cmp opd_lt (de_var 2) (de_var 1))))) (de_var 2) (de_op opd_addA (de_op opd_sub (de_var 1) de_int) (de_var 0)))))
abbrev s_rent_share : Stmt := topS 6
abbrev N_rent_share : List Str := ["b", "s"]
theorem sc_rent_share : FnScope N_rent_share ["b", "s"] (defScope s_rent_share) := ⟨rfl, rfl, rfl, by decide +kernel, rfl, by decide +kernel, by decide +kernel⟩
noncomputable def d_rent_share : MS :=
  (retS (ifD (toB (op2 notIsD (vD 1) (cD .none))) (callD f_share_number (consA (op2 addA (op2 subI (vD 1) (cD (.int 1))) (vD 0)) (consA (callN min2D (consL (vD 1) (consL (vD 0) (ret [])))) (ret [])))) (cD .none)))
noncomputable def f_rent_share : DF := defM 2 d_rent_share
theorem c_rent_share {P : Program} {w : World} {K : PySem.W.Frag} {mg : Str → Option Value} {base : Heap} {f : Addr} {fd : FuncData} (F : FnP K "rent_share" s_rent_share f fd) (hm : mg "rent_share" = some (.ref f)) (g_min : mg "min" = none) (C_share_number : CalG P w K mg base "share_number" 2 1 f_share_number) :
    CalG P w K mg base "rent_share" 2 2 f_rent_share :=
  def_inG F sc_rent_share (by decide) hm (fun _ _ _ _ _ _ us hl => match us, hl with | [_, _], _ => rfl) fun c cdv A outer s H E hr =>
  (dss_one (ds_ret (de_if (dt_cmp opd_isnot (de_var 1) de_none) (de_cG C_share_number hr (by decide) rfl (da_cons (de_op opd_addA (de_op opd_sub (de_var 1) de_int) (de_var 0)) (da_cons (de_callB (callr_min2 rfl) rfl g_min b_min (dl_cons (de_var 1) (dl_cons (de_var 0) dl_nil))) da_nil)) (len_cons (len_cons (fun _ _ _ h => len_nil h)))) de_none)))
abbrev s_least_rent_share : Stmt := topS 7
abbrev N_least_rent_share : List Str := ["b"]
theorem sc_least_rent_share : FnScope N_least_rent_share ["b"] (defScope s_least_rent_share) := ⟨rfl, rfl, rfl, by decide +kernel, rfl, by decide +kernel, by decide +kernel⟩
noncomputable def d_least_rent_share : MS :=
  (retS (callD f_rent_share (consA (vD 0) (consA (vD 0) (ret [])))))
noncomputable def f_least_rent_share : DF := defM 1 d_least_rent_share
theorem c_least_rent_share {P : Program} {w : World} {K : PySem.W.Frag} {mg : Str → Option Value} {base : Heap} {f : Addr} {fd : FuncData} (F : FnP K "least_rent_share" s_least_rent_share f fd) (hm : mg "least_rent_share" = some (.ref f)) (C_rent_share : CalG P w K mg base "rent_share" 2 2 f_rent_share) :
    CalG P w K mg base "least_rent_share" 1 3 f_least_rent_share :=
  def_inG F sc_least_rent_share (by decide) hm (fun _ _ _ _ _ _ us hl => match us, hl with | [_], _ => rfl) fun c cdv A outer s H E hr =>
  (dss_one (ds_ret (de_cG C_rent_share hr (by decide) rfl (da_cons (de_var 0) (da_cons (de_var 0) da_nil)) (len_cons (len_cons (fun _ _ _ h => len_nil h))))))
abbrev s_known_share : Stmt := topS 8
abbrev N_known_share : List Str := ["b", "s", "low", "high", "found"]
theorem sc_known_share : FnScope N_known_share ["b", "s", "low", "high"] (defScope s_known_share) := ⟨rfl, rfl, rfl, by decide +kernel, rfl, by decide +kernel, by decide +kernel⟩
noncomputable def d_known_share : MS :=
  (seqS (ifS (orT (toB (op2 isD (vD 1) (cD .none))) (toB (op2 gtI (vD 1) (vD 3)))) (retS (callD f_greater_share (consA (tupD (consL (cD (.int 1)) (consL (cD (.int 1)) (ret [])))) (consA (callD f_share_number (consA (vD 3) (consA (vD 0) (ret [])))) (ret []))))) (ret .nx))
  (seqS (asgS 4 (callD f_greater_share (consA (tupD (consL (cD (.int 1)) (consL (cD (.int 1)) (ret [])))) (consA (callD f_share_number (consA (op2 addA (op2 subI (vD 1) (cD (.int 1))) (vD 0)) (consA (callN min2D (consL (vD 0) (consL (callN max2D (consL (vD 2) (consL (vD 1) (ret [])))) (ret [])))) (ret [])))) (ret [])))))
  (retS (ifD (toB (op2 geI (op2 subI (vD 1) (cD (.int 1))) (vD 2))) (callD f_greater_share (consA (vD 4) (consA (callD f_share_number (consA (op2 subI (vD 1) (cD (.int 1))) (consA (vD 0) (ret [])))) (ret [])))) (vD 4)))))
noncomputable def f_known_share : DF := defM 5 d_known_share
theorem c_known_share {P : Program} {w : World} {K : PySem.W.Frag} {mg : Str → Option Value} {base : Heap} {f : Addr} {fd : FuncData} (F : FnP K "known_share" s_known_share f fd) (hm : mg "known_share" = some (.ref f)) (g_max : mg "max" = none) (g_min : mg "min" = none) (C_greater_share : CalG P w K mg base "greater_share" 2 2 f_greater_share) (C_share_number : CalG P w K mg base "share_number" 2 1 f_share_number) :
    CalG P w K mg base "known_share" 4 3 f_known_share :=
  def_inG F sc_known_share (by decide) hm (fun _ _ _ _ _ _ us hl => match us, hl with | [_, _, _, _], _ => rfl) fun c cdv A outer s H E hr =>
  (dss_cons (ds_if (DW.dt (dw_or (dt_cmp opd_is (de_var 1) de_none) (dw_or1 (dt_cmp opd_gt (de_var 1) (de_var 3))))) (dss_one (ds_ret (de_cG C_greater_share hr (by decide) rfl (da_cons (de_tup (dl_cons de_int (dl_cons de_int dl_nil))) (da_cons (de_cG C_share_number hr (by decide) rfl (da_cons (de_var 3) (da_cons (de_var 0) da_nil)) (len_cons (len_cons (fun _ _ _ h => len_nil h)))) da_nil)) (len_cons (len_cons (fun _ _ _ h => len_nil h)))))) dss_nil)
  (dss_cons (ds_asg 4 (de_cG C_greater_share hr (by decide) rfl (da_cons (de_tup (dl_cons de_int (dl_cons de_int dl_nil))) (da_cons (de_cG C_share_number hr (by decide) rfl (da_cons (de_op opd_addA (de_op opd_sub (de_var 1) de_int) (de_var 0)) (da_cons (de_callB (callr_min2 rfl) rfl g_min b_min (dl_cons (de_var 0) (dl_cons (de_callB (callr_max2 rfl) rfl g_max b_max (dl_cons (de_var 2) (dl_cons (de_var 1) dl_nil))) dl_nil))) da_nil)) (len_cons (len_cons (fun _ _ _ h => len_nil h)))) da_nil)) (len_cons (len_cons (fun _ _ _ h => len_nil h)))) sc_known_share.nd)
  (dss_one (ds_ret (de_if (dt_cmp opd_ge (de_op opd_sub (de_var 1) de_int) (de_var 2)) (de_cG C_greater_share hr (by decide) rfl (da_cons (de_var 4) (da_cons (de_cG C_share_number hr (by decide) rfl (da_cons (de_op opd_sub (de_var 1) de_int) (da_cons (de_var 0) da_nil)) (len_cons (len_cons (fun _ _ _ h => len_nil h)))) da_nil)) (len_cons (len_cons (fun _ _ _ h => len_nil h)))) (de_var 4))))))
abbrev s_told_known_way : Stmt := topS 9
abbrev N_told_known_way : List Str := ["b", "low", "high", "found", "best", "s", "share"]
theorem sc_told_known_way : FnScope N_told_known_way ["b", "low", "high"] (defScope s_told_known_way) := ⟨rfl, rfl, rfl, by decide +kernel, rfl, by decide +kernel, by decide +kernel⟩
noncomputable def d_told_known_way : MS :=
  (seqS (asgS 3 (op2 addA (vD 2) (cD (.int 1))))
  (seqS (asgS 4 (callD f_known_share (consA (vD 0) (consA (cD .none) (consA (vD 1) (consA (vD 2) (ret [])))))))
  (seqS (forS (seqI (tupD (consL (cD (.int 1)) (consL (vD 1) (consL (callN min2D (consL (vD 0) (consL (vD 2) (ret [])))) (consL (vD 2) (ret []))))))) (.nm 5) (seqS (asgS 6 (callD f_known_share (consA (vD 0) (consA (vD 5) (consA (vD 1) (consA (vD 2) (ret [])))))))
  (ifS (orT (toB (callD f_is_less_share (consA (vD 6) (consA (vD 4) (ret []))))) (andT (toB (op2 eqD (vD 6) (vD 4))) (toB (op2 ltI (vD 5) (vD 3))))) (par2 3 4 (consL (vD 5) (consL (vD 6) (ret [])))) (ret .nx))))
  (retS (vD 3)))))
noncomputable def f_told_known_way : DF := defM 7 d_told_known_way
theorem c_told_known_way {P : Program} {w : World} {K : PySem.W.Frag} {mg : Str → Option Value} {base : Heap} {f : Addr} {fd : FuncData} (F : FnP K "told_known_way" s_told_known_way f fd) (hm : mg "told_known_way" = some (.ref f)) (g_min : mg "min" = none) (C_is_less_share : CalG P w K mg base "is_less_share" 2 1 f_is_less_share) (C_known_share : CalG P w K mg base "known_share" 4 3 f_known_share) :
    CalG P w K mg base "told_known_way" 3 4 f_told_known_way :=
  def_inG F sc_told_known_way (by decide) hm (fun _ _ _ _ _ _ us hl => match us, hl with | [_, _, _], _ => rfl) fun c cdv A outer s H E hr =>
  (dss_cons (ds_asg 3 (de_op opd_addA (de_var 2) de_int) sc_told_known_way.nd)
  (dss_cons (ds_asg 4 (de_cG C_known_share hr (by decide) rfl (da_cons (de_var 0) (da_cons de_none (da_cons (de_var 1) (da_cons (de_var 2) da_nil)))) (len_cons (len_cons (len_cons (len_cons (fun _ _ _ h => len_nil h)))))) sc_told_known_way.nd)
  (dss_cons (ds_for PassesOwn.never rfl (di_seq (de_tup (dl_cons de_int (dl_cons (de_var 1) (dl_cons (de_callB (callr_min2 rfl) rfl g_min b_min (dl_cons (de_var 0) (dl_cons (de_var 2) dl_nil))) (dl_cons (de_var 2) dl_nil)))))) (dg_nm 5 sc_told_known_way.nd) (dss_cons (ds_asg 6 (de_cG C_known_share hr (by decide) rfl (da_cons (de_var 0) (da_cons (de_var 5) (da_cons (de_var 1) (da_cons (de_var 2) da_nil)))) (len_cons (len_cons (len_cons (len_cons (fun _ _ _ h => len_nil h)))))) sc_told_known_way.nd)
  (dss_one (ds_if (DW.dt (dw_or (dt_val (de_cG C_is_less_share hr (by decide) rfl (da_cons (de_var 6) (da_cons (de_var 4) da_nil)) (len_cons (len_cons (fun _ _ _ h => len_nil h))))) (dw_or1 (DW.dt (dw_and (dt_cmp (opd_eq (hu64 hr.r)) (de_var 6) (de_var 4)) (dw_and1 (dt_cmp opd_lt (de_var 5) (de_var 3)))))))) (dss_one (ds_par rfl sc_told_known_way.nd (dl_cons (de_var 5) (dl_cons (de_var 6) dl_nil)) rfl (by decide) (i := 3) (j := 4))) dss_nil))))
  (dss_one (ds_ret (de_var 3))))))
abbrev s_least_known_share : Stmt := topS 10
abbrev N_least_known_share : List Str := ["b", "low", "high"]
theorem sc_least_known_share : FnScope N_least_known_share ["b", "low", "high"] (defScope s_least_known_share) := ⟨rfl, rfl, rfl, by decide +kernel, rfl, by decide +kernel, by decide +kernel⟩
noncomputable def d_least_known_share : MS :=
  (retS (callD f_known_share (consA (vD 0) (consA (callD f_told_known_way (consA (vD 0) (consA (vD 1) (consA (vD 2) (ret []))))) (consA (vD 1) (consA (vD 2) (ret [])))))))
noncomputable def f_least_known_share : DF := defM 3 d_least_known_share
theorem c_least_known_share {P : Program} {w : World} {K : PySem.W.Frag} {mg : Str → Option Value} {base : Heap} {f : Addr} {fd : FuncData} (F : FnP K "least_known_share" s_least_known_share f fd) (hm : mg "least_known_share" = some (.ref f)) (C_known_share : CalG P w K mg base "known_share" 4 3 f_known_share) (C_told_known_way : CalG P w K mg base "told_known_way" 3 4 f_told_known_way) :
    CalG P w K mg base "least_known_share" 3 5 f_least_known_share :=
  def_inG F sc_least_known_share (by decide) hm (fun _ _ _ _ _ _ us hl => match us, hl with | [_, _, _], _ => rfl) fun c cdv A outer s H E hr =>
  (dss_one (ds_ret (de_cG C_known_share hr (by decide) rfl (da_cons (de_var 0) (da_cons (de_cG C_told_known_way hr (by decide) rfl (da_cons (de_var 0) (da_cons (de_var 1) (da_cons (de_var 2) da_nil))) (len_cons (len_cons (len_cons (fun _ _ _ h => len_nil h))))) (da_cons (de_var 1) (da_cons (de_var 2) da_nil)))) (len_cons (len_cons (len_cons (len_cons (fun _ _ _ h => len_nil h))))))))
abbrev s_is_cost : Stmt := topS 12
abbrev N_is_cost : List Str := ["value"]
theorem sc_is_cost : FnScope N_is_cost ["value"] (defScope s_is_cost) := ⟨rfl, rfl, rfl, by decide +kernel, rfl, by decide +kernel, by decide +kernel⟩
noncomputable def d_is_cost : MS :=
  (retS (andV (op1 (isiD "int") (vD 0)) (andV (notV (op1 (isiD "bool") (vD 0))) (op2 geI (vD 0) (cD (.int 0))))))
noncomputable def f_is_cost : DF := defM 1 d_is_cost
theorem c_is_cost {P : Program} {w : World} {K : PySem.W.Frag} {mg : Str → Option Value} {base : Heap} {f : Addr} {fd : FuncData} (F : FnP K "is_cost" s_is_cost f fd) (hm : mg "is_cost" = some (.ref f)) (g_bool : mg "bool" = none) (g_int : mg "int" = none) (g_isinstance : mg "isinstance" = none) :
    CalG P w K mg base "is_cost" 1 1 f_is_cost :=
  def_inG F sc_is_cost (by decide) hm (fun _ _ _ _ _ _ us hl => match us, hl with | [_], _ => rfl) fun c cdv A outer s H E hr =>
  (dss_one (ds_ret (de_and (de_isi (de_var 0) rfl g_isinstance b_isinstance rfl g_int b_int) (de_and (de_not (de_isi (de_var 0) rfl g_isinstance b_isinstance rfl g_bool b_bool)) (de_one (de_cmp opd_ge (de_var 0) de_int))))))
abbrev s_least_costs : Stmt := topS 13
abbrev N_least_costs : List Str := ["table", "row", "i"]
theorem sc_least_costs : FnScope N_least_costs ["table"] (defScope s_least_costs) := ⟨rfl, rfl, rfl, by decide +kernel, rfl, by decide +kernel, by decide +kernel⟩
noncomputable def d_least_costs : MS :=
  (retS (callN tupleD (consL (compD [2] (rangeI1 (consL (callN lenD (consL (op2 ixD (vD 0) (cD (.int 0))) (ret []))) (ret []))) (.nm 2) (ret true) (callN (altN min1L min1T) (consL (compD [1] (seqI (vD 0)) (.nm 1) (ret true) (op2 ixD (vD 1) (vD 2))) (ret [])))) (ret []))))
noncomputable def f_least_costs : DF := defM 3 d_least_costs
theorem c_least_costs {P : Program} {w : World} {K : PySem.W.Frag} {mg : Str → Option Value} {base : Heap} {f : Addr} {fd : FuncData} (F : FnP K "least_costs" s_least_costs f fd) (hm : mg "least_costs" = some (.ref f)) (g_len : mg "len" = none) (g_min : mg "min" = none) (g_range : mg "range" = none) (g_tuple : mg "tuple" = none) :
    CalG P w K mg base "least_costs" 1 1 f_least_costs :=
  def_inG F sc_least_costs (by decide) hm (fun _ _ _ _ _ _ us hl => match us, hl with | [_], _ => rfl) fun c cdv A outer s H E hr =>
  (dss_one (ds_ret (de_callTy callr_tuple rfl g_tuple b_tuple (dl_cons (de_comp rfl sc_least_costs.nd (di_range1 rfl g_range (dl_cons (de_callB callr_len rfl g_len b_len (dl_cons (de_ix (de_var 0) de_int) dl_nil)) dl_nil)) (own := [("i", 2)]) (blkOk_by (by kernel_rfl)) (by decide) (fun _ _ _ _ _ => (dg_nm 2 sc_least_costs.nd)) (fun _ _ _ _ _ => dts_nil) (fun _ _ _ _ _ _ => (de_callB (callr_min1 rfl) rfl g_min b_min (dl_cons (de_comp rfl sc_least_costs.nd (di_seq (de_var 0)) (own := [("row", 1)]) (blkOk_by (by kernel_rfl)) (by decide) (fun _ _ _ _ _ => (dg_nm 1 sc_least_costs.nd)) (fun _ _ _ _ _ => dts_nil) (fun _ _ _ _ _ _ => (de_ix (de_var 1) (de_var 2)))) dl_nil)))) dl_nil))))
abbrev s_way_share : Stmt := topS 14
abbrev N_way_share : List Str := ["table", "k", "found", "cost", "least"]
theorem sc_way_share : FnScope N_way_share ["table", "k"] (defScope s_way_share) := ⟨rfl, rfl, rfl, by decide +kernel, rfl, by decide +kernel, by decide +kernel⟩
noncomputable def d_way_share : MS :=
  (seqS (asgS 2 (tupD (consL (cD (.int 1)) (consL (cD (.int 1)) (ret [])))))
  (seqS (forS (zipI (consL (op2 ixD (vD 0) (vD 1)) (consL (callD f_least_costs (consA (vD 0) (ret []))) (ret [])))) (.tp [(.nm 3), (.nm 4)]) (seqS (ifS (andT (toB (op2 eqD (vD 4) (cD (.int 0)))) (toB (op2 gtI (vD 3) (cD (.int 0))))) (retS (cD .none)) (ret .nx))
  (ifS (toB (op2 gtI (vD 4) (cD (.int 0)))) (asgS 2 (callD f_greater_share (consA (vD 2) (consA (callD f_share_number (consA (vD 3) (consA (vD 4) (ret [])))) (ret []))))) (ret .nx))))
  (retS (vD 2))))
noncomputable def f_way_share : DF := defM 5 d_way_share
theorem c_way_share {P : Program} {w : World} {K : PySem.W.Frag} {mg : Str → Option Value} {base : Heap} {f : Addr} {fd : FuncData} (F : FnP K "way_share" s_way_share f fd) (hm : mg "way_share" = some (.ref f)) (g_zip : mg "zip" = none) (C_greater_share : CalG P w K mg base "greater_share" 2 2 f_greater_share) (C_least_costs : CalG P w K mg base "least_costs" 1 1 f_least_costs) (C_share_number : CalG P w K mg base "share_number" 2 1 f_share_number) :
    CalG P w K mg base "way_share" 2 3 f_way_share :=
  def_inG F sc_way_share (by decide) hm (fun _ _ _ _ _ _ us hl => match us, hl with | [_, _], _ => rfl) fun c cdv A outer s H E hr =>
  (dss_cons (ds_asg 2 (de_tup (dl_cons de_int (dl_cons de_int dl_nil))) sc_way_share.nd)
  (dss_cons (ds_for PassesOwn.never rfl (di_zip rfl g_zip (dl_cons (de_ix (de_var 0) (de_var 1)) (dl_cons (de_cG C_least_costs hr (by decide) rfl (da_cons (de_var 0) da_nil) (len_cons (fun _ _ _ h => len_nil h))) dl_nil))) (dg_tp rfl (dgs_cons (dg_nm 3 sc_way_share.nd) (dgs_cons (dg_nm 4 sc_way_share.nd) dgs_nil))) (dss_cons (ds_if (DW.dt (dw_and (dt_cmp (opd_eq (hu64 hr.r)) (de_var 4) de_int) (dw_and1 (dt_cmp opd_gt (de_var 3) de_int)))) (dss_one (ds_ret de_none)) dss_nil)
  (dss_one (ds_if (dt_cmp opd_gt (de_var 4) de_int) (dss_one (ds_asg 2 (de_cG C_greater_share hr (by decide) rfl (da_cons (de_var 2) (da_cons (de_cG C_share_number hr (by decide) rfl (da_cons (de_var 3) (da_cons (de_var 4) da_nil)) (len_cons (len_cons (fun _ _ _ h => len_nil h)))) da_nil)) (len_cons (len_cons (fun _ _ _ h => len_nil h)))) sc_way_share.nd)) dss_nil))))
  (dss_one (ds_ret (de_var 2)))))
abbrev s_best_way : Stmt := topS 15
abbrev N_best_way : List Str := ["table", "found", "best", "k", "share"]
theorem sc_best_way : FnScope N_best_way ["table"] (defScope s_best_way) := ⟨rfl, rfl, rfl, by decide +kernel, rfl, by decide +kernel, by decide +kernel⟩
noncomputable def d_best_way : MS :=
  (seqS (unpS (.tp [(.nm 1), (.nm 2)]) (tupD (consL (cD .none) (consL (cD .none) (ret [])))))
  (seqS (forS (rangeI1 (consL (callN lenD (consL (vD 0) (ret []))) (ret []))) (.nm 3) (seqS (asgS 4 (callD f_way_share (consA (vD 0) (consA (vD 3) (ret [])))))
  (ifS (andT (toB (op2 notIsD (vD 4) (cD .none))) (orT (toB (op2 isD (vD 2) (cD .none))) (toB (callD f_is_less_share (consA (vD 4) (consA (vD 2) (ret []))))))) (par2 1 2 (consL (vD 3) (consL (vD 4) (ret [])))) (ret .nx))))
  (retS (vD 1))))
noncomputable def f_best_way : DF := defM 5 d_best_way
theorem c_best_way {P : Program} {w : World} {K : PySem.W.Frag} {mg : Str → Option Value} {base : Heap} {f : Addr} {fd : FuncData} (F : FnP K "best_way" s_best_way f fd) (hm : mg "best_way" = some (.ref f)) (g_len : mg "len" = none) (g_range : mg "range" = none) (C_is_less_share : CalG P w K mg base "is_less_share" 2 1 f_is_less_share) (C_way_share : CalG P w K mg base "way_share" 2 3 f_way_share) :
    CalG P w K mg base "best_way" 1 4 f_best_way :=
  def_inG F sc_best_way (by decide) hm (fun _ _ _ _ _ _ us hl => match us, hl with | [_], _ => rfl) fun c cdv A outer s H E hr =>
  (dss_cons (ds_unp (de_tup (dl_cons de_none (dl_cons de_none dl_nil))) (dg_tp rfl (dgs_cons (dg_nm 1 sc_best_way.nd) (dgs_cons (dg_nm 2 sc_best_way.nd) dgs_nil))))
  (dss_cons (ds_for PassesOwn.never rfl (di_range1 rfl g_range (dl_cons (de_callB callr_len rfl g_len b_len (dl_cons (de_var 0) dl_nil)) dl_nil)) (dg_nm 3 sc_best_way.nd) (dss_cons (ds_asg 4 (de_cG C_way_share hr (by decide) rfl (da_cons (de_var 0) (da_cons (de_var 3) da_nil)) (len_cons (len_cons (fun _ _ _ h => len_nil h)))) sc_best_way.nd)
  (dss_one (ds_if (DW.dt (dw_and (dt_cmp opd_isnot (de_var 4) de_none) (dw_and1 (DW.dt (dw_or (dt_cmp opd_is (de_var 2) de_none) (dw_or1 (dt_val (de_cG C_is_less_share hr (by decide) rfl (da_cons (de_var 4) (da_cons (de_var 2) da_nil)) (len_cons (len_cons (fun _ _ _ h => len_nil h))))))))))) (dss_one (ds_par rfl sc_best_way.nd (dl_cons (de_var 3) (dl_cons (de_var 4) dl_nil)) rfl (by decide) (i := 1) (j := 2))) dss_nil))))
  (dss_one (ds_ret (de_var 1)))))
abbrev s_least_share : Stmt := topS 16
abbrev N_least_share : List Str := ["table", "k"]
theorem sc_least_share : FnScope N_least_share ["table"] (defScope s_least_share) := ⟨rfl, rfl, rfl, by decide +kernel, rfl, by decide +kernel, by decide +kernel⟩
noncomputable def d_least_share : MS :=
  (seqS (asgS 1 (callD f_best_way (consA (vD 0) (ret []))))
  (retS (ifD (toB (op2 notIsD (vD 1) (cD .none))) (callD f_way_share (consA (vD 0) (consA (vD 1) (ret [])))) (cD .none))))
noncomputable def f_least_share : DF := defM 2 d_least_share
theorem c_least_share {P : Program} {w : World} {K : PySem.W.Frag} {mg : Str → Option Value} {base : Heap} {f : Addr} {fd : FuncData} (F : FnP K "least_share" s_least_share f fd) (hm : mg "least_share" = some (.ref f)) (C_best_way : CalG P w K mg base "best_way" 1 4 f_best_way) (C_way_share : CalG P w K mg base "way_share" 2 3 f_way_share) :
    CalG P w K mg base "least_share" 1 5 f_least_share :=
  def_inG F sc_least_share (by decide) hm (fun _ _ _ _ _ _ us hl => match us, hl with | [_], _ => rfl) fun c cdv A outer s H E hr =>
  (dss_cons (ds_asg 1 (de_cG C_best_way hr (by decide) rfl (da_cons (de_var 0) da_nil) (len_cons (fun _ _ _ h => len_nil h))) sc_least_share.nd)
  (dss_one (ds_ret (de_if (dt_cmp opd_isnot (de_var 1) de_none) (de_cG C_way_share hr (by decide) rfl (da_cons (de_var 0) (da_cons (de_var 1) da_nil)) (len_cons (len_cons (fun _ _ _ h => len_nil h)))) de_none))))
abbrev s_is_no_better : Stmt := topS 17
abbrev N_is_no_better : List Str := ["table", "k", "other", "cost", "late"]
theorem sc_is_no_better : FnScope N_is_no_better ["table", "k", "other"] (defScope s_is_no_better) := ⟨rfl, rfl, rfl, by decide +kernel, rfl, by decide +kernel, by decide +kernel⟩
noncomputable def d_is_no_better : MS :=
  (retS (callN allD (consL (compD [3, 4] (zipI (consL (op2 ixD (vD 0) (vD 1)) (consL (op2 ixD (vD 0) (vD 2)) (ret [])))) (.tp [(.nm 3), (.nm 4)]) (ret true) (op2 geI (vD 3) (vD 4))) (ret []))))
noncomputable def f_is_no_better : DF := defM 5 d_is_no_better
theorem c_is_no_better {P : Program} {w : World} {K : PySem.W.Frag} {mg : Str → Option Value} {base : Heap} {f : Addr} {fd : FuncData} (F : FnP K "is_no_better" s_is_no_better f fd) (hm : mg "is_no_better" = some (.ref f)) (g_all : mg "all" = none) (g_zip : mg "zip" = none) :
    CalG P w K mg base "is_no_better" 3 1 f_is_no_better :=
  def_inG F sc_is_no_better (by decide) hm (fun _ _ _ _ _ _ us hl => match us, hl with | [_, _, _], _ => rfl) fun c cdv A outer s H E hr =>
  (dss_one (ds_ret (de_callB (callr_all rfl) rfl g_all b_all (dl_cons (de_comp rfl sc_is_no_better.nd (di_zip rfl g_zip (dl_cons (de_ix (de_var 0) (de_var 1)) (dl_cons (de_ix (de_var 0) (de_var 2)) dl_nil))) (own := [("cost", 3), ("late", 4)]) (blkOk_by (by kernel_rfl)) (by decide) (fun _ _ _ _ _ => (dg_tp rfl (dgs_cons (dg_nm 3 sc_is_no_better.nd) (dgs_cons (dg_nm 4 sc_is_no_better.nd) dgs_nil)))) (fun _ _ _ _ _ => dts_nil) (fun _ _ _ _ _ _ => (de_cmp opd_ge (de_var 3) (de_var 4)))) dl_nil))))
abbrev s_kept_ways : Stmt := topS 18
abbrev N_kept_ways : List Str := ["table", "left", "k", "other"]
theorem sc_kept_ways : FnScope N_kept_ways ["table"] (defScope s_kept_ways) := ⟨rfl, rfl, rfl, by decide +kernel, rfl, by decide +kernel, by decide +kernel⟩
noncomputable def d_kept_ways : MS :=
  (seqS (asgN 1 (rngD .list (rgM1 (callN lenD (consL (vD 0) (ret []))))))
  (seqS (forS (rangeI3 (consL (op2 subI (callN lenD (consL (vD 0) (ret []))) (cD (.int 1))) (consL (op1 negD (cD (.int 1))) (consL (op1 negD (cD (.int 1))) (ret []))))) (.nm 2) (ifS (peekT 1 (toB (callN anyD (consL (compD [3] (seqI (vD 1)) (.nm 3) (toB (op2 neD (vD 3) (vD 2))) (callD f_is_no_better (consA (vD 0) (consA (vD 2) (consA (vD 3) (ret [])))))) (ret []))))) (remS 1 (vD 2)) (ret .nx)))
  (retS (callN tupleD (consL (vD 1) (ret []))))))
noncomputable def f_kept_ways : DF := defM 4 d_kept_ways
theorem c_kept_ways {P : Program} {w : World} {K : PySem.W.Frag} {mg : Str → Option Value} {base : Heap} {f : Addr} {fd : FuncData} (F : FnP K "kept_ways" s_kept_ways f fd) (hm : mg "kept_ways" = some (.ref f)) (g_any : mg "any" = none) (g_len : mg "len" = none) (g_list : mg "list" = none) (g_range : mg "range" = none) (g_tuple : mg "tuple" = none) (C_is_no_better : CalG P w K mg base "is_no_better" 3 1 f_is_no_better) :
    CalG P w K mg base "kept_ways" 1 2 f_kept_ways :=
  def_inG F sc_kept_ways (by decide) hm (fun _ _ _ _ _ _ us hl => match us, hl with | [_], _ => rfl) fun c cdv A outer s H E hr =>
  (dss_cons (ds_new 1 (dn_listRg rfl rfl g_list (dr_1 rfl g_range (de_callB callr_len rfl g_len b_len (dl_cons (de_var 0) dl_nil)))) sc_kept_ways.nd)
  (dss_cons (ds_for PassesOwn.never rfl (di_range3 rfl g_range (dl_cons (de_op opd_sub (de_callB callr_len rfl g_len b_len (dl_cons (de_var 0) dl_nil)) de_int) (dl_cons (de_neg de_int) (dl_cons (de_neg de_int) dl_nil)))) (dg_nm 2 sc_kept_ways.nd) (dss_one (ds_if (dt_peek 1 (dt_val (de_callB (callr_any rfl) rfl g_any b_any (dl_cons (de_comp rfl sc_kept_ways.nd (di_seq (de_var 1)) (own := [("other", 3)]) (blkOk_by (by kernel_rfl)) (by decide) (fun _ _ _ _ _ => (dg_nm 3 sc_kept_ways.nd)) (fun _ _ _ _ _ => (dts_one fun _ => (dt_cmp (opd_ne (hu64 hr.r)) (de_var 3) (de_var 2)))) (fun _ _ _ _ _ _ => (de_cG C_is_no_better hr (by decide) rfl (da_cons (de_var 0) (da_cons (de_var 2) (da_cons (de_var 3) da_nil))) (len_cons (len_cons (len_cons (fun _ _ _ h => len_nil h))))))) dl_nil)))) (dss_one (ds_remove (pe_bm PySem.F.plainAttrs_list PySem.F.slot_list_remove PySem.F.type_list_remove mt_removeI (pv 1) (pa_cons (de_var 2) pa_nil)))) dss_nil)))
  (dss_one (ds_ret (de_callTy callr_tuple rfl g_tuple b_tuple (dl_cons (de_var 1) dl_nil))))))
abbrev s_cases_above : Stmt := topS 20
abbrev N_cases_above : List Str := ["table", "k", "c", "pairs", "i", "cost", "least"]
theorem sc_cases_above : FnScope N_cases_above ["table", "k", "c"] (defScope s_cases_above) := ⟨rfl, rfl, rfl, by decide +kernel, rfl, by decide +kernel, by decide +kernel⟩
noncomputable def d_cases_above : MS :=
  (retS (compD [4, 5, 6] (enumZI 3 (consL (op2 ixD (vD 0) (vD 1)) (consL (callD f_least_costs (consA (vD 0) (ret []))) (ret [])))) (.tp [(.nm 4), (.tp [(.nm 5), (.nm 6)])]) (toB (op2 gtI (op2 mulS (vD 5) (op2 ixD (vD 2) (cD (.int 1)))) (op2 mulS (vD 6) (op2 ixD (vD 2) (cD (.int 0)))))) (vD 4)))
noncomputable def f_cases_above : DF := defM 7 d_cases_above
theorem c_cases_above {P : Program} {w : World} {K : PySem.W.Frag} {mg : Str → Option Value} {base : Heap} {f : Addr} {fd : FuncData} (F : FnP K "cases_above" s_cases_above f fd) (hm : mg "cases_above" = some (.ref f)) (g_enumerate : mg "enumerate" = none) (g_zip : mg "zip" = none) (C_least_costs : CalG P w K mg base "least_costs" 1 1 f_least_costs) :
    CalG P w K mg base "cases_above" 3 2 f_cases_above :=
  def_inG F sc_cases_above (by decide) hm (fun _ _ _ _ _ _ us hl => match us, hl with | [_, _, _], _ => rfl) fun c cdv A outer s H E hr =>
  (dss_ez 3 rfl sc_cases_above.nd rfl g_enumerate rfl g_zip (dl_cons (de_ix (de_var 0) (de_var 1)) (dl_cons (de_cG C_least_costs hr (by decide) rfl (da_cons (de_var 0) da_nil) (len_cons (fun _ _ _ h => len_nil h))) dl_nil)) (own := [("i", 4), ("cost", 5), ("least", 6)]) (blkOk_by (by kernel_rfl)) (by decide) (fun _ _ _ _ _ => (dg_tp rfl (dgs_cons (dg_nm 4 sc_cases_above.nd) (dgs_cons (dg_tp rfl (dgs_cons (dg_nm 5 sc_cases_above.nd) (dgs_cons (dg_nm 6 sc_cases_above.nd) dgs_nil))) dgs_nil)))) (fun _ _ _ _ _ => (dts_one fun _ => (dt_cmp opd_gt (de_op opd_mulS (de_var 5) (de_ix (de_var 2) de_int)) (de_op opd_mulS (de_var 6) (de_ix (de_var 2) de_int))))) (fun _ _ _ _ _ _ => (de_var 4)))
abbrev s_share_paper : Stmt := topS 21
abbrev N_share_paper : List Str := ["table", "c", "rows", "good", "k", "row"]
theorem sc_share_paper : FnScope N_share_paper ["table", "c"] (defScope s_share_paper) := ⟨rfl, rfl, rfl, by decide +kernel, rfl, by decide +kernel, by decide +kernel⟩
noncomputable def d_share_paper : MS :=
  (seqS (asgN 2 (compD [4] (rangeI1 (consL (callN lenD (consL (vD 0) (ret []))) (ret []))) (.nm 4) (ret true) (callD f_cases_above (consA (vD 0) (consA (vD 4) (consA (vD 1) (ret [])))))))
  (seqS (asgN 3 (compD [4, 5] (enumI (consL (vD 2) (ret []))) (.tp [(.nm 4), (.nm 5)]) (toB (op2 eqD (vD 5) (lstD (ret [])))) (vD 4)))
  (retS (ifD (toB (op2 neD (vD 3) (lstD (ret [])))) (tupD (consL (cD (.str "way")) (consL (op2 ixD (vD 3) (cD (.int 0))) (ret [])))) (tupD (consL (cD (.str "bars")) (consL (callN tupleD (consL (compD [5] (seqI (vD 2)) (.nm 5) (ret true) (op2 ixD (vD 5) (cD (.int 0)))) (ret []))) (ret []))))))))
noncomputable def f_share_paper : DF := defM 6 d_share_paper
theorem c_share_paper {P : Program} {w : World} {K : PySem.W.Frag} {mg : Str → Option Value} {base : Heap} {f : Addr} {fd : FuncData} (F : FnP K "share_paper" s_share_paper f fd) (hm : mg "share_paper" = some (.ref f)) (g_enumerate : mg "enumerate" = none) (g_len : mg "len" = none) (g_range : mg "range" = none) (g_tuple : mg "tuple" = none) (C_cases_above : CalG P w K mg base "cases_above" 3 2 f_cases_above) :
    CalG P w K mg base "share_paper" 2 3 f_share_paper :=
  def_inG F sc_share_paper (by decide) hm (fun _ _ _ _ _ _ us hl => match us, hl with | [_, _], _ => rfl) fun c cdv A outer s H E hr =>
  (dss_cons (ds_setComp 2 rfl sc_share_paper.nd (sw_true rfl rfl rfl (by decide +kernel)) (di_range1 rfl g_range (dl_cons (de_callB callr_len rfl g_len b_len (dl_cons (de_var 0) dl_nil)) dl_nil)) (own := [("k", 4)]) (blkOk_by (by kernel_rfl)) (by decide) (fun _ _ _ _ _ => (dg_nm 4 sc_share_paper.nd)) (fun _ _ _ _ _ => dts_nil) (fun _ _ _ _ _ _ => (de_cG C_cases_above hr (by decide) rfl (da_cons (de_var 0) (da_cons (de_var 4) (da_cons (de_var 1) da_nil))) (len_cons (len_cons (len_cons (fun _ _ _ h => len_nil h)))))))
  (dss_cons (ds_setComp 3 rfl sc_share_paper.nd (sw_true rfl rfl rfl (by decide +kernel)) (di_enum rfl g_enumerate (dl_cons (de_var 2) dl_nil)) (own := [("k", 4), ("row", 5)]) (blkOk_by (by kernel_rfl)) (by decide) (fun _ _ _ _ _ => (dg_tp rfl (dgs_cons (dg_nm 4 sc_share_paper.nd) (dgs_cons (dg_nm 5 sc_share_paper.nd) dgs_nil)))) (fun _ _ _ _ _ => (dts_one fun _ => (dt_cmp (opd_eq (hu64 hr.r)) (de_var 5) (de_lst dl_nil)))) (fun _ _ _ _ _ _ => (de_var 4)))
  (dss_one (ds_ret (de_if (dt_cmp (opd_ne (hu64 hr.r)) (de_var 3) (de_lst dl_nil)) (de_tup (dl_cons de_str (dl_cons (de_ix (de_var 3) de_int) dl_nil))) (de_tup (dl_cons de_str (dl_cons (de_callTy callr_tuple rfl g_tuple b_tuple (dl_cons (de_comp rfl sc_share_paper.nd (di_seq (de_var 2)) (own := [("row", 5)]) (blkOk_by (by kernel_rfl)) (by decide) (fun _ _ _ _ _ => (dg_nm 5 sc_share_paper.nd)) (fun _ _ _ _ _ => dts_nil) (fun _ _ _ _ _ _ => (de_ix (de_var 5) de_int))) dl_nil)) dl_nil))))))))
abbrev s_is_case_row : Stmt := topS 22
abbrev N_is_case_row : List Str := ["table", "value", "i"]
theorem sc_is_case_row : FnScope N_is_case_row ["table", "value"] (defScope s_is_case_row) := ⟨rfl, rfl, rfl, by decide +kernel, rfl, by decide +kernel, by decide +kernel⟩
noncomputable def d_is_case_row : MS :=
  (seqS (ifS (orT (notT (toB (op1 (isiD "tuple") (vD 1)))) (toB (op2 neD (callN lenD (consL (vD 1) (ret []))) (callN lenD (consL (vD 0) (ret [])))))) (retS (cD (.bool false))) (ret .nx))
  (retS (callN allD (consL (compD [2] (seqI (vD 1)) (.nm 2) (ret true) (andV (callD f_is_cost (consA (vD 2) (ret []))) (op2 ltI (vD 2) (callN lenD (consL (op2 ixD (vD 0) (cD (.int 0))) (ret [])))))) (ret [])))))
noncomputable def f_is_case_row : DF := defM 3 d_is_case_row
theorem c_is_case_row {P : Program} {w : World} {K : PySem.W.Frag} {mg : Str → Option Value} {base : Heap} {f : Addr} {fd : FuncData} (F : FnP K "is_case_row" s_is_case_row f fd) (hm : mg "is_case_row" = some (.ref f)) (g_all : mg "all" = none) (g_isinstance : mg "isinstance" = none) (g_len : mg "len" = none) (g_tuple : mg "tuple" = none) (C_is_cost : CalG P w K mg base "is_cost" 1 1 f_is_cost) :
    CalG P w K mg base "is_case_row" 2 2 f_is_case_row :=
  def_inG F sc_is_case_row (by decide) hm (fun _ _ _ _ _ _ us hl => match us, hl with | [_, _], _ => rfl) fun c cdv A outer s H E hr =>
  (dss_cons (ds_if (DW.dt (dw_or (dt_not (dt_val (de_isi (de_var 1) rfl g_isinstance b_isinstance rfl g_tuple b_tuple))) (dw_or1 (dt_cmp (opd_ne (hu64 hr.r)) (de_callB callr_len rfl g_len b_len (dl_cons (de_var 1) dl_nil)) (de_callB callr_len rfl g_len b_len (dl_cons (de_var 0) dl_nil)))))) (dss_one (ds_ret de_bool)) dss_nil)
  (dss_one (ds_ret (de_callB (callr_all rfl) rfl g_all b_all (dl_cons (de_comp rfl sc_is_case_row.nd (di_seq (de_var 1)) (own := [("i", 2)]) (blkOk_by (by kernel_rfl)) (by decide) (fun _ _ _ _ _ => (dg_nm 2 sc_is_case_row.nd)) (fun _ _ _ _ _ => dts_nil) (fun _ _ _ _ _ _ => (de_and (de_cG C_is_cost hr (by decide) rfl (da_cons (de_var 2) da_nil) (len_cons (fun _ _ _ h => len_nil h))) (de_one (de_cmp opd_lt (de_var 2) (de_callB callr_len rfl g_len b_len (dl_cons (de_ix (de_var 0) de_int) dl_nil))))))) dl_nil)))))
abbrev s_judge_share : Stmt := topS 23
abbrev N_judge_share : List Str := ["table", "c", "value", "some", "within", "k", "i"]
theorem sc_judge_share : FnScope N_judge_share ["table", "c", "value"] (defScope s_judge_share) := ⟨rfl, rfl, rfl, by decide +kernel, rfl, by decide +kernel, by decide +kernel⟩
noncomputable def d_judge_share : MS :=
  (seqS (ifS (orT (notT (toB (op1 (isiD "tuple") (vD 2)))) (orT (toB (op2 neD (callN lenD (consL (vD 2) (ret []))) (cD (.int 2)))) (notT (toB (op1 (isiD "str") (op2 ixD (vD 2) (cD (.int 0)))))))) (retS (tupD (consL (cD (.str "form")) (ret [])))) (ret .nx))
  (seqS (ifS (andT (toB (op2 eqD (op2 ixD (vD 2) (cD (.int 0))) (cD (.str "way")))) (andT (toB (callD f_is_cost (consA (op2 ixD (vD 2) (cD (.int 1))) (ret [])))) (toB (op2 ltI (op2 ixD (vD 2) (cD (.int 1))) (callN lenD (consL (vD 0) (ret []))))))) (seqS (asgS 3 (callD f_cases_above (consA (vD 0) (consA (op2 ixD (vD 2) (cD (.int 1))) (consA (vD 1) (ret []))))))
  (retS (ifD (toB (op2 neD (vD 3) (lstD (ret [])))) (tupD (consL (cD (.str "case")) (consL (op2 ixD (vD 3) (cD (.int 0))) (ret [])))) (cD .none)))) (ret .nx))
  (seqS (ifS (orT (toB (op2 neD (op2 ixD (vD 2) (cD (.int 0))) (cD (.str "bars")))) (notT (toB (callD f_is_case_row (consA (vD 0) (consA (op2 ixD (vD 2) (cD (.int 1))) (ret []))))))) (retS (tupD (consL (cD (.str "form")) (ret [])))) (ret .nx))
  (seqS (asgN 4 (compD [5, 6] (enumA (op2 ixD (vD 2) (cD (.int 1)))) (.tp [(.nm 5), (.nm 6)]) (toB (op2 notInD (vD 6) (callD f_cases_above (consA (vD 0) (consA (vD 5) (consA (vD 1) (ret []))))))) (vD 5)))
  (retS (ifD (toB (op2 neD (vD 4) (lstD (ret [])))) (tupD (consL (cD (.str "within")) (consL (op2 ixD (vD 4) (cD (.int 0))) (ret [])))) (cD .none)))))))
noncomputable def f_judge_share : DF := defM 7 d_judge_share
theorem c_judge_share {P : Program} {w : World} {K : PySem.W.Frag} {mg : Str → Option Value} {base : Heap} {f : Addr} {fd : FuncData} (F : FnP K "judge_share" s_judge_share f fd) (hm : mg "judge_share" = some (.ref f)) (g_enumerate : mg "enumerate" = none) (g_isinstance : mg "isinstance" = none) (g_len : mg "len" = none) (g_str : mg "str" = none) (g_tuple : mg "tuple" = none) (C_cases_above : CalG P w K mg base "cases_above" 3 2 f_cases_above) (C_is_case_row : CalG P w K mg base "is_case_row" 2 2 f_is_case_row) (C_is_cost : CalG P w K mg base "is_cost" 1 1 f_is_cost) :
    CalG P w K mg base "judge_share" 3 3 f_judge_share :=
  def_inG F sc_judge_share (by decide) hm (fun _ _ _ _ _ _ us hl => match us, hl with | [_, _, _], _ => rfl) fun c cdv A outer s H E hr =>
  (dss_cons (ds_if (DW.dt (dw_or (dt_not (dt_val (de_isi (de_var 2) rfl g_isinstance b_isinstance rfl g_tuple b_tuple))) (dw_or (dt_cmp (opd_ne (hu64 hr.r)) (de_callB callr_len rfl g_len b_len (dl_cons (de_var 2) dl_nil)) de_int) (dw_or1 (dt_not (dt_val (de_isi (de_ix (de_var 2) de_int) rfl g_isinstance b_isinstance rfl g_str b_str))))))) (dss_one (ds_ret (de_tup (dl_cons de_str dl_nil)))) dss_nil)
  (dss_cons (ds_if (DW.dt (dw_and (dt_cmp (opd_eq (hu64 hr.r)) (de_ix (de_var 2) de_int) de_str) (dw_and (dt_val (de_cG C_is_cost hr (by decide) rfl (da_cons (de_ix (de_var 2) de_int) da_nil) (len_cons (fun _ _ _ h => len_nil h)))) (dw_and1 (dt_cmp opd_lt (de_ix (de_var 2) de_int) (de_callB callr_len rfl g_len b_len (dl_cons (de_var 0) dl_nil))))))) (dss_cons (ds_asg 3 (de_cG C_cases_above hr (by decide) rfl (da_cons (de_var 0) (da_cons (de_ix (de_var 2) de_int) (da_cons (de_var 1) da_nil))) (len_cons (len_cons (len_cons (fun _ _ _ h => len_nil h))))) sc_judge_share.nd)
  (dss_one (ds_ret (de_if (dt_cmp (opd_ne (hu64 hr.r)) (de_var 3) (de_lst dl_nil)) (de_tup (dl_cons de_str (dl_cons (de_ix (de_var 3) de_int) dl_nil))) de_none)))) dss_nil)
  (dss_cons (ds_if (DW.dt (dw_or (dt_cmp (opd_ne (hu64 hr.r)) (de_ix (de_var 2) de_int) de_str) (dw_or1 (dt_not (dt_val (de_cG C_is_case_row hr (by decide) rfl (da_cons (de_var 0) (da_cons (de_ix (de_var 2) de_int) da_nil)) (len_cons (len_cons (fun _ _ _ h => len_nil h))))))))) (dss_one (ds_ret (de_tup (dl_cons de_str dl_nil)))) dss_nil)
  (dss_cons (ds_setComp 4 rfl sc_judge_share.nd (sw_true rfl rfl rfl (by decide +kernel)) (di_enumA rfl g_enumerate (de_ix (de_var 2) de_int)) (own := [("k", 5), ("i", 6)]) (blkOk_by (by kernel_rfl)) (by decide) (fun _ _ _ _ _ => (dg_tp rfl (dgs_cons (dg_nm 5 sc_judge_share.nd) (dgs_cons (dg_nm 6 sc_judge_share.nd) dgs_nil)))) (fun _ _ _ _ _ => (dts_one fun _ => (dt_cmp (opd_notin (hu66 hr.r)) (de_var 6) (de_cG C_cases_above hr (by decide) rfl (da_cons (de_var 0) (da_cons (de_var 5) (da_cons (de_var 1) da_nil))) (len_cons (len_cons (len_cons (fun _ _ _ h => len_nil h)))))))) (fun _ _ _ _ _ _ => (de_var 5)))
  (dss_one (ds_ret (de_if (dt_cmp (opd_ne (hu64 hr.r)) (de_var 4) (de_lst dl_nil)) (de_tup (dl_cons de_str (dl_cons (de_ix (de_var 4) de_int) dl_nil))) de_none)))))))
abbrev s__law_of : Stmt := topS 27
abbrev N__law_of : List Str := ["source", "some"]
theorem sc__law_of : FnScope N__law_of ["source", "some"] (defScope s__law_of) := ⟨rfl, rfl, rfl, by decide +kernel, rfl, by decide +kernel, by decide +kernel⟩
noncomputable def d__law_of : MS :=
  (retS (op2 ixD (vD 1) (callD f__law_pick (srcA 0 (consA (callN lenD (consL (vD 1) (ret []))) (ret []))))))
noncomputable def f__law_of : DF := defM 2 d__law_of
theorem c__law_of {P : Program} {w : World} {K : PySem.W.Frag} {mg : Str → Option Value} {base : Heap} {f : Addr} {fd : FuncData} (F : FnP K "_law_of" s__law_of f fd) (hm : mg "_law_of" = some (.ref f)) (g_len : mg "len" = none) (C__law_pick : CalG P w K mg base "_law_pick" 2 1 f__law_pick) :
    CalG P w K mg base "_law_of" 2 2 f__law_of :=
  def_inG F sc__law_of (by decide) hm (fun _ _ _ _ _ _ us hl => match us, hl with | [_, _], _ => rfl) fun c cdv A outer s H E hr =>
  (dss_one (ds_ret (de_ix (de_var 1) (de_cG C__law_pick hr (by decide) rfl (da_src 0 (da_cons (de_callB callr_len rfl g_len b_len (dl_cons (de_var 1) dl_nil)) da_nil)) (len_src (len_cons (fun _ _ _ h => len_nil h)))))))
abbrev s__law_cut : Stmt := topS 28
abbrev N__law_cut : List Str := ["p", "q", "a", "b"]
theorem sc__law_cut : FnScope N__law_cut ["p", "q"] (defScope s__law_cut) := ⟨rfl, rfl, rfl, by decide +kernel, rfl, by decide +kernel, by decide +kernel⟩
noncomputable def d__law_cut : MS :=
  (seqS (par2 2 3 (consL (callN absD (consL (vD 0) (ret []))) (consL (vD 1) (ret []))))
  (seqS (whileS (toB (op2 gtI (vD 3) (cD (.int 0)))) (par2 2 3 (consL (vD 3) (consL (op2 modI (callN intD (consL (vD 2) (ret []))) (vD 3)) (ret [])))))
  (retS (tupD (consL (op2 divI (vD 0) (vD 2)) (consL (op2 divI (vD 1) (vD 2)) (ret [])))))))
noncomputable def f__law_cut : DF := defM 4 d__law_cut
theorem c__law_cut {P : Program} {w : World} {K : PySem.W.Frag} {mg : Str → Option Value} {base : Heap} {f : Addr} {fd : FuncData} (F : FnP K "_law_cut" s__law_cut f fd) (hm : mg "_law_cut" = some (.ref f)) (g_abs : mg "abs" = none) (g_int : mg "int" = none) :
    CalG P w K mg base "_law_cut" 2 1 f__law_cut :=
  def_inG F sc__law_cut (by decide) hm (fun _ _ _ _ _ _ us hl => match us, hl with | [_, _], _ => rfl) fun c cdv A outer s H E hr =>
  (dss_cons (ds_par rfl sc__law_cut.nd (dl_cons (de_callB callr_abs rfl g_abs b_abs (dl_cons (de_var 0) dl_nil)) (dl_cons (de_var 1) dl_nil)) rfl (by decide) (i := 2) (j := 3))
  (dss_cons (ds_while PassesOwn.never (dt_cmp opd_gt (de_var 3) de_int) (dss_one (ds_par rfl sc__law_cut.nd (dl_cons (de_var 3) (dl_cons (de_op opd_mod (de_callTy callr_int rfl g_int b_int (dl_cons (de_var 2) dl_nil)) (de_var 3)) dl_nil)) rfl (by decide) (i := 2) (j := 3))))
  (dss_one (ds_ret (de_tup (dl_cons (de_op opd_div (de_var 0) (de_var 2)) (dl_cons (de_op opd_div (de_var 1) (de_var 2)) dl_nil)))))))
abbrev s__law_before : Stmt := topS 29
abbrev N__law_before : List Str := ["x", "y"]
theorem sc__law_before : FnScope N__law_before ["x", "y"] (defScope s__law_before) := ⟨rfl, rfl, rfl, by decide +kernel, rfl, by decide +kernel, by decide +kernel⟩
noncomputable def d__law_before : MS :=
  (retS (op2 ltI (op2 mulS (op2 ixD (vD 0) (cD (.int 0))) (op2 ixD (vD 1) (cD (.int 1)))) (op2 mulS (op2 ixD (vD 1) (cD (.int 0))) (op2 ixD (vD 0) (cD (.int 1))))))
noncomputable def f__law_before : DF := defM 2 d__law_before
theorem c__law_before {P : Program} {w : World} {K : PySem.W.Frag} {mg : Str → Option Value} {base : Heap} {f : Addr} {fd : FuncData} (F : FnP K "_law_before" s__law_before f fd) (hm : mg "_law_before" = some (.ref f)) :
    CalG P w K mg base "_law_before" 2 1 f__law_before :=
  def_inG F sc__law_before (by decide) hm (fun _ _ _ _ _ _ us hl => match us, hl with | [_, _], _ => rfl) fun c cdv A outer s H E hr =>
  (dss_one (ds_ret (de_cmp opd_lt (de_op opd_mulS (de_ix (de_var 0) de_int) (de_ix (de_var 1) de_int)) (de_op opd_mulS (de_ix (de_var 1) de_int) (de_ix (de_var 0) de_int)))))
abbrev s__law_greater : Stmt := topS 30
abbrev N__law_greater : List Str := ["x", "y"]
theorem sc__law_greater : FnScope N__law_greater ["x", "y"] (defScope s__law_greater) := ⟨rfl, rfl, rfl, by decide +kernel, rfl, by decide +kernel, by decide +kernel⟩
noncomputable def d__law_greater : MS :=
  (retS (ifD (toB (callD f__law_before (consA (vD 0) (consA (vD 1) (ret []))))) (vD 1) (vD 0)))
noncomputable def f__law_greater : DF := defM 2 d__law_greater
theorem c__law_greater {P : Program} {w : World} {K : PySem.W.Frag} {mg : Str → Option Value} {base : Heap} {f : Addr} {fd : FuncData} (F : FnP K "_law_greater" s__law_greater f fd) (hm : mg "_law_greater" = some (.ref f)) (C__law_before : CalG P w K mg base "_law_before" 2 1 f__law_before) :
    CalG P w K mg base "_law_greater" 2 2 f__law_greater :=
  def_inG F sc__law_greater (by decide) hm (fun _ _ _ _ _ _ us hl => match us, hl with | [_, _], _ => rfl) fun c cdv A outer s H E hr =>
  (dss_one (ds_ret (de_if (dt_val (de_cG C__law_before hr (by decide) rfl (da_cons (de_var 0) (da_cons (de_var 1) da_nil)) (len_cons (len_cons (fun _ _ _ h => len_nil h))))) (de_var 1) (de_var 0))))
abbrev s__law_cost : Stmt := topS 31
abbrev N__law_cost : List Str := ["b", "s", "days"]
theorem sc__law_cost : FnScope N__law_cost ["b", "s", "days"] (defScope s__law_cost) := ⟨rfl, rfl, rfl, by decide +kernel, rfl, by decide +kernel, by decide +kernel⟩
noncomputable def d__law_cost : MS :=
  (retS (ifD (orT (toB (op2 isD (vD 1) (cD .none))) (toB (op2 ltI (vD 2) (vD 1)))) (vD 2) (op2 addA (op2 subI (vD 1) (cD (.int 1))) (vD 0))))
noncomputable def f__law_cost : DF := defM 3 d__law_cost
theorem c__law_cost {P : Program} {w : World} {K : PySem.W.Frag} {mg : Str → Option Value} {base : Heap} {f : Addr} {fd : FuncData} (F : FnP K "_law_cost" s__law_cost f fd) (hm : mg "_law_cost" = some (.ref f)) :
    CalG P w K mg base "_law_cost" 3 1 f__law_cost :=
  def_inG F sc__law_cost (by decide) hm (fun _ _ _ _ _ _ us hl => match us, hl with | [_, _, _], _ => rfl) fun c cdv A outer s H E hr =>
  (dss_one (ds_ret (de_if (DW.dt (dw_or (dt_cmp opd_is (de_var 1) de_none) (dw_or1 (dt_cmp opd_lt (de_var 2) (de_var 1))))) (de_var 2) (de_op opd_addA (de_op opd_sub (de_var 1) de_int) (de_var 0)))))
abbrev s__law_share : Stmt := topS 32
abbrev N__law_share : List Str := ["b", "s", "low", "high", "best", "d"]
theorem sc__law_share : FnScope N__law_share ["b", "s", "low", "high"] (defScope s__law_share) := ⟨rfl, rfl, rfl, by decide +kernel, rfl, by decide +kernel, by decide +kernel⟩
noncomputable def d__law_share : MS :=
  (seqS (asgS 4 (tupD (consL (cD (.int 1)) (consL (cD (.int 1)) (ret [])))))
  (seqS (forS (seqI (ifD (toB (op2 isD (vD 1) (cD .none))) (lstD (consL (vD 3) (ret []))) (lstD (consL (callN min2D (consL (vD 3) (consL (op2 subI (vD 1) (cD (.int 1))) (ret [])))) (consL (callN max2D (consL (vD 2) (consL (vD 1) (ret [])))) (ret [])))))) (.nm 5) (ifS (toB (chn leI leI (vD 2) (vD 5) (vD 3))) (asgS 4 (callD f__law_greater (consA (vD 4) (consA (callD f__law_cut (consA (callD f__law_cost (consA (vD 0) (consA (vD 1) (consA (vD 5) (ret []))))) (consA (callN min2D (consL (vD 5) (consL (vD 0) (ret [])))) (ret [])))) (ret []))))) (ret .nx)))
  (retS (vD 4))))
noncomputable def f__law_share : DF := defM 6 d__law_share
theorem c__law_share {P : Program} {w : World} {K : PySem.W.Frag} {mg : Str → Option Value} {base : Heap} {f : Addr} {fd : FuncData} (F : FnP K "_law_share" s__law_share f fd) (hm : mg "_law_share" = some (.ref f)) (g_max : mg "max" = none) (g_min : mg "min" = none) (C__law_cost : CalG P w K mg base "_law_cost" 3 1 f__law_cost) (C__law_cut : CalG P w K mg base "_law_cut" 2 1 f__law_cut) (C__law_greater : CalG P w K mg base "_law_greater" 2 2 f__law_greater) :
    CalG P w K mg base "_law_share" 4 3 f__law_share :=
  def_inG F sc__law_share (by decide) hm (fun _ _ _ _ _ _ us hl => match us, hl with | [_, _, _, _], _ => rfl) fun c cdv A outer s H E hr =>
  (dss_cons (ds_asg 4 (de_tup (dl_cons de_int (dl_cons de_int dl_nil))) sc__law_share.nd)
  (dss_cons (ds_for PassesOwn.never rfl (di_seq (de_if (dt_cmp opd_is (de_var 1) de_none) (de_lst (dl_cons (de_var 3) dl_nil)) (de_lst (dl_cons (de_callB (callr_min2 rfl) rfl g_min b_min (dl_cons (de_var 3) (dl_cons (de_op opd_sub (de_var 1) de_int) dl_nil))) (dl_cons (de_callB (callr_max2 rfl) rfl g_max b_max (dl_cons (de_var 2) (dl_cons (de_var 1) dl_nil))) dl_nil))))) (dg_nm 5 sc__law_share.nd) (dss_one (ds_if (dt_chain opd_le opd_le (de_var 2) (de_var 5) (de_var 3)) (dss_one (ds_asg 4 (de_cG C__law_greater hr (by decide) rfl (da_cons (de_var 4) (da_cons (de_cG C__law_cut hr (by decide) rfl (da_cons (de_cG C__law_cost hr (by decide) rfl (da_cons (de_var 0) (da_cons (de_var 1) (da_cons (de_var 5) da_nil))) (len_cons (len_cons (len_cons (fun _ _ _ h => len_nil h))))) (da_cons (de_callB (callr_min2 rfl) rfl g_min b_min (dl_cons (de_var 5) (dl_cons (de_var 0) dl_nil))) da_nil)) (len_cons (len_cons (fun _ _ _ h => len_nil h)))) da_nil)) (len_cons (len_cons (fun _ _ _ h => len_nil h)))) sc__law_share.nd)) dss_nil)))
  (dss_one (ds_ret (de_var 4)))))
abbrev s__law_told : Stmt := topS 33
abbrev N__law_told : List Str := ["b", "low", "high", "best", "told", "s", "share"]
theorem sc__law_told : FnScope N__law_told ["b", "low", "high"] (defScope s__law_told) := ⟨rfl, rfl, rfl, by decide +kernel, rfl, by decide +kernel, by decide +kernel⟩
noncomputable def d__law_told : MS :=
  (seqS (unpS (.tp [(.nm 3), (.nm 4)]) (tupD (consL (cD .none) (consL (cD .none) (ret [])))))
  (seqS (forS (seqI (op1 sdD (lstD (consL (tupD (consL (cD (.int 1)) (consL (cD (.int 0)) (ret [])))) (consL (tupD (consL (callN min2D (consL (vD 0) (consL (vD 2) (ret [])))) (consL (cD (.int 0)) (ret [])))) (consL (tupD (consL (op2 addA (vD 2) (cD (.int 1))) (consL (cD (.int 0)) (ret [])))) (ret []))))))) (.nm 5) (seqS (asgS 6 (callD f__law_share (consA (vD 0) (consA (vD 5) (consA (vD 1) (consA (vD 2) (ret [])))))))
  (ifS (orT (toB (op2 isD (vD 3) (cD .none))) (toB (callD f__law_before (consA (vD 6) (consA (vD 3) (ret [])))))) (par2 3 4 (consL (vD 6) (consL (vD 5) (ret [])))) (ret .nx))))
  (retS (tupD (consL (vD 3) (consL (vD 4) (ret [])))))))
noncomputable def f__law_told : DF := defM 7 d__law_told
theorem c__law_told {P : Program} {w : World} {K : PySem.W.Frag} {mg : Str → Option Value} {base : Heap} {f : Addr} {fd : FuncData} (F : FnP K "_law_told" s__law_told f fd) (hm : mg "_law_told" = some (.ref f)) (g_dict : mg "dict" = none) (g_min : mg "min" = none) (g_sorted : mg "sorted" = none) (C__law_before : CalG P w K mg base "_law_before" 2 1 f__law_before) (C__law_share : CalG P w K mg base "_law_share" 4 3 f__law_share) :
    CalG P w K mg base "_law_told" 3 4 f__law_told :=
  def_inG F sc__law_told (by decide) hm (fun _ _ _ _ _ _ us hl => match us, hl with | [_, _, _], _ => rfl) fun c cdv A outer s H E hr =>
  (dss_cons (ds_unp (de_tup (dl_cons de_none (dl_cons de_none dl_nil))) (dg_tp rfl (dgs_cons (dg_nm 3 sc__law_told.nd) (dgs_cons (dg_nm 4 sc__law_told.nd) dgs_nil))))
  (dss_cons (ds_for PassesOwn.never rfl (di_seq (de_sortDict rfl rfl g_sorted rfl g_dict (de_lst (dl_cons (de_tup (dl_cons de_int (dl_cons de_int dl_nil))) (dl_cons (de_tup (dl_cons (de_callB (callr_min2 rfl) rfl g_min b_min (dl_cons (de_var 0) (dl_cons (de_var 2) dl_nil))) (dl_cons de_int dl_nil))) (dl_cons (de_tup (dl_cons (de_op opd_addA (de_var 2) de_int) (dl_cons de_int dl_nil))) dl_nil)))))) (dg_nm 5 sc__law_told.nd) (dss_cons (ds_asg 6 (de_cG C__law_share hr (by decide) rfl (da_cons (de_var 0) (da_cons (de_var 5) (da_cons (de_var 1) (da_cons (de_var 2) da_nil)))) (len_cons (len_cons (len_cons (len_cons (fun _ _ _ h => len_nil h)))))) sc__law_told.nd)
  (dss_one (ds_if (DW.dt (dw_or (dt_cmp opd_is (de_var 3) de_none) (dw_or1 (dt_val (de_cG C__law_before hr (by decide) rfl (da_cons (de_var 6) (da_cons (de_var 3) da_nil)) (len_cons (len_cons (fun _ _ _ h => len_nil h)))))))) (dss_one (ds_par rfl sc__law_told.nd (dl_cons (de_var 6) (dl_cons (de_var 5) dl_nil)) rfl (by decide) (i := 3) (j := 4))) dss_nil))))
  (dss_one (ds_ret (de_tup (dl_cons (de_var 3) (dl_cons (de_var 4) dl_nil)))))))
abbrev s__law_rents_right : Stmt := topS 34
abbrev N__law_rents_right : List Str := ["source", "size", "b", "low", "high", "best", "told", "shares", "s", "share", "due", "d", "days"]
theorem sc__law_rents_right : FnScope N__law_rents_right ["source"] (defScope s__law_rents_right) := ⟨rfl, rfl, rfl, by decide +kernel, rfl, by decide +kernel, by decide +kernel⟩
noncomputable def d__law_rents_right : MS :=
  (seqS (asgS 1 (callD f__law_of (srcA 0 (consA (lstD (consL (cD (.int 12)) (consL (cD (.int 12)) (consL (cD (.int 1000)) (consL (op2 powI (cD (.int 10)) (cD (.int 6))) (ret [])))))) (ret [])))))
  (seqS (unpS (.tp [(.nm 2), (.nm 3)]) (tupD (consL (op2 addA (cD (.int 1)) (callD f__law_pick (srcA 0 (consA (vD 1) (ret []))))) (consL (op2 addA (cD (.int 1)) (callD f__law_pick (srcA 0 (consA (vD 1) (ret []))))) (ret [])))))
  (seqS (asgS 4 (op2 addA (vD 3) (callD f__law_pick (srcA 0 (consA (op2 addA (op2 subI (vD 1) (vD 3)) (cD (.int 1))) (ret []))))))
  (seqS (unpS (.tp [(.nm 5), (.nm 6)]) (callD f__law_told (consA (vD 2) (consA (vD 3) (consA (vD 4) (ret []))))))
  (seqS (ifS (toB (op2 eqD (vD 1) (cD (.int 12)))) (seqS (asgN 7 (compD [8] (rangeI2 (consL (cD (.int 1)) (consL (op2 addA (vD 4) (cD (.int 2))) (ret [])))) (.nm 8) (ret true) (callD f__law_share (consA (vD 2) (consA (vD 8) (consA (vD 3) (consA (vD 4) (ret []))))))))
  (seqS (forS (zipRV (rgM2 (cD (.int 1)) (op2 addA (vD 4) (cD (.int 2)))) 7) (.tp [(.nm 8), (.nm 9)]) (seqS (asgS 10 (tupD (consL (cD (.int 1)) (consL (cD (.int 1)) (ret [])))))
  (seqS (forS (rangeI2 (consL (vD 3) (consL (op2 addA (vD 4) (cD (.int 1))) (ret [])))) (.nm 11) (asgS 10 (callD f__law_greater (consA (vD 10) (consA (callD f__law_cut (consA (callD f__law_cost (consA (vD 2) (consA (vD 8) (consA (vD 11) (ret []))))) (consA (callN min2D (consL (vD 11) (consL (vD 2) (ret [])))) (ret [])))) (ret []))))))
  (ifS (orT (toB (op2 neD (vD 9) (vD 10))) (toB (callD f__law_before (consA (vD 9) (consA (vD 5) (ret [])))))) (retS (cD (.bool false))) (ret .nx)))))
  (ifS (toB (op2 neD (op2 addA (op2 ixOfD (vD 7) (vD 5)) (cD (.int 1))) (vD 6))) (retS (cD (.bool false))) (ret .nx)))) (ret .nx))
  (seqS (ifS (toB (op2 neD (callN reprD (consL (lstD (consL (callD f_least_known_share (consA (vD 2) (consA (vD 3) (consA (vD 4) (ret []))))) (consL (callD f_told_known_way (consA (vD 2) (consA (vD 3) (consA (vD 4) (ret []))))) (ret [])))) (ret []))) (callN reprD (consL (lstD (consL (vD 5) (consL (vD 6) (ret [])))) (ret []))))) (retS (cD (.bool false))) (ret .nx))
  (seqS (forS (seqI (tupD (consL (cD .none) (consL (cD (.int 1)) (consL (vD 2) (consL (op2 addA (cD (.int 1)) (callD f__law_pick (srcA 0 (consA (vD 1) (ret []))))) (consL (vD 4) (consL (callN min2D (consL (op2 addA (vD 4) (cD (.int 1))) (consL (op2 powI (cD (.int 10)) (cD (.int 6))) (ret [])))) (consL (vD 3) (ret [])))))))))) (.nm 8) (seqS (ifS (toB (op2 neD (callN reprD (consL (callD f_known_share (consA (vD 2) (consA (vD 8) (consA (vD 3) (consA (vD 4) (ret [])))))) (ret []))) (callN reprD (consL (callD f__law_share (consA (vD 2) (consA (vD 8) (consA (vD 3) (consA (vD 4) (ret [])))))) (ret []))))) (retS (cD (.bool false))) (ret .nx))
  (seqS (asgS 12 (callD f__law_of (srcA 0 (consA (lstD (consL (vD 3) (consL (vD 4) (consL (vD 2) (consL (callD f__law_pick (srcA 0 (consA (op2 addA (vD 1) (cD (.int 1))) (ret [])))) (ret [])))))) (ret [])))))
  (seqS (asgS 10 (ifD (toB (op2 isD (vD 8) (cD .none))) (cD .none) (callD f__law_cut (consA (op2 addA (op2 subI (vD 8) (cD (.int 1))) (vD 2)) (consA (callN min2D (consL (vD 8) (consL (vD 2) (ret [])))) (ret []))))))
  (ifS (orT (toB (op2 neD (callD f_rent_cost (consA (vD 2) (consA (vD 8) (consA (vD 12) (ret []))))) (callD f__law_cost (consA (vD 2) (consA (vD 8) (consA (vD 12) (ret []))))))) (toB (op2 neD (callN reprD (consL (callD f_rent_share (consA (vD 2) (consA (vD 8) (ret [])))) (ret []))) (callN reprD (consL (vD 10) (ret [])))))) (retS (cD (.bool false))) (ret .nx))))))
  (retS (op2 eqD (callN reprD (consL (callD f_least_rent_share (consA (vD 2) (ret []))) (ret []))) (callN reprD (consL (callD f__law_cut (consA (op2 subI (op2 mulS (cD (.int 2)) (vD 2)) (cD (.int 1))) (consA (vD 2) (ret [])))) (ret []))))))))))))
noncomputable def f__law_rents_right : DF := defM 13 d__law_rents_right
theorem c__law_rents_right {P : Program} {w : World} {K : PySem.W.Frag} {mg : Str → Option Value} {base : Heap} {f : Addr} {fd : FuncData} (F : FnP K "_law_rents_right" s__law_rents_right f fd) (hm : mg "_law_rents_right" = some (.ref f)) (g_min : mg "min" = none) (g_range : mg "range" = none) (g_repr : mg "repr" = none) (g_zip : mg "zip" = none) (C__law_before : CalG P w K mg base "_law_before" 2 1 f__law_before) (C__law_cost : CalG P w K mg base "_law_cost" 3 1 f__law_cost) (C__law_cut : CalG P w K mg base "_law_cut" 2 1 f__law_cut) (C__law_greater : CalG P w K mg base "_law_greater" 2 2 f__law_greater) (C__law_of : CalG P w K mg base "_law_of" 2 2 f__law_of) (C__law_pick : CalG P w K mg base "_law_pick" 2 1 f__law_pick) (C__law_share : CalG P w K mg base "_law_share" 4 3 f__law_share) (C__law_told : CalG P w K mg base "_law_told" 3 4 f__law_told) (C_known_share : CalG P w K mg base "known_share" 4 3 f_known_share) (C_least_known_share : CalG P w K mg base "least_known_share" 3 5 f_least_known_share) (C_least_rent_share : CalG P w K mg base "least_rent_share" 1 3 f_least_rent_share) (C_rent_cost : CalG P w K mg base "rent_cost" 3 1 f_rent_cost) (C_rent_share : CalG P w K mg base "rent_share" 2 2 f_rent_share) (C_told_known_way : CalG P w K mg base "told_known_way" 3 4 f_told_known_way) :
    CalG P w K mg base "_law_rents_right" 1 6 f__law_rents_right :=
  def_inG F sc__law_rents_right (by decide) hm (fun _ _ _ _ _ _ us hl => match us, hl with | [_], _ => rfl) fun c cdv A outer s H E hr =>
  (dss_cons (ds_asg 1 (de_cG C__law_of hr (by decide) rfl (da_src 0 (da_cons (de_lst (dl_cons de_int (dl_cons de_int (dl_cons de_int (dl_cons (de_op opd_pow de_int de_int) dl_nil))))) da_nil)) (len_src (len_cons (fun _ _ _ h => len_nil h)))) sc__law_rents_right.nd)
  (dss_cons (ds_unp (de_tup (dl_cons (de_op opd_addA de_int (de_cG C__law_pick hr (by decide) rfl (da_src 0 (da_cons (de_var 1) da_nil)) (len_src (len_cons (fun _ _ _ h => len_nil h))))) (dl_cons (de_op opd_addA de_int (de_cG C__law_pick hr (by decide) rfl (da_src 0 (da_cons (de_var 1) da_nil)) (len_src (len_cons (fun _ _ _ h => len_nil h))))) dl_nil))) (dg_tp rfl (dgs_cons (dg_nm 2 sc__law_rents_right.nd) (dgs_cons (dg_nm 3 sc__law_rents_right.nd) dgs_nil))))
  (dss_cons (ds_asg 4 (de_op opd_addA (de_var 3) (de_cG C__law_pick hr (by decide) rfl (da_src 0 (da_cons (de_op opd_addA (de_op opd_sub (de_var 1) (de_var 3)) de_int) da_nil)) (len_src (len_cons (fun _ _ _ h => len_nil h))))) sc__law_rents_right.nd)
  (dss_cons (ds_unp (de_cG C__law_told hr (by decide) rfl (da_cons (de_var 2) (da_cons (de_var 3) (da_cons (de_var 4) da_nil))) (len_cons (len_cons (len_cons (fun _ _ _ h => len_nil h))))) (dg_tp rfl (dgs_cons (dg_nm 5 sc__law_rents_right.nd) (dgs_cons (dg_nm 6 sc__law_rents_right.nd) dgs_nil))))
  (dss_cons (ds_if (dt_cmp (opd_eq (hu64 hr.r)) (de_var 1) de_int) (dss_cons (ds_setComp 7 rfl sc__law_rents_right.nd (sw_true rfl rfl rfl (by decide +kernel)) (di_range2 rfl g_range (dl_cons de_int (dl_cons (de_op opd_addA (de_var 4) de_int) dl_nil))) (own := [("s", 8)]) (blkOk_by (by kernel_rfl)) (by decide) (fun _ _ _ _ _ => (dg_nm 8 sc__law_rents_right.nd)) (fun _ _ _ _ _ => dts_nil) (fun _ _ _ _ _ _ => (de_cG C__law_share hr (by decide) rfl (da_cons (de_var 2) (da_cons (de_var 8) (da_cons (de_var 3) (da_cons (de_var 4) da_nil)))) (len_cons (len_cons (len_cons (len_cons (fun _ _ _ h => len_nil h))))))))
  (dss_cons (ds_for PassesOwn.never rfl (di_zipR 7 rfl g_zip (dr_2 rfl g_range de_int (de_op opd_addA (de_var 4) de_int))) (dg_tp rfl (dgs_cons (dg_nm 8 sc__law_rents_right.nd) (dgs_cons (dg_nm 9 sc__law_rents_right.nd) dgs_nil))) (dss_cons (ds_asg 10 (de_tup (dl_cons de_int (dl_cons de_int dl_nil))) sc__law_rents_right.nd)
  (dss_cons (ds_for PassesOwn.never rfl (di_range2 rfl g_range (dl_cons (de_var 3) (dl_cons (de_op opd_addA (de_var 4) de_int) dl_nil))) (dg_nm 11 sc__law_rents_right.nd) (dss_one (ds_asg 10 (de_cG C__law_greater hr (by decide) rfl (da_cons (de_var 10) (da_cons (de_cG C__law_cut hr (by decide) rfl (da_cons (de_cG C__law_cost hr (by decide) rfl (da_cons (de_var 2) (da_cons (de_var 8) (da_cons (de_var 11) da_nil))) (len_cons (len_cons (len_cons (fun _ _ _ h => len_nil h))))) (da_cons (de_callB (callr_min2 rfl) rfl g_min b_min (dl_cons (de_var 11) (dl_cons (de_var 2) dl_nil))) da_nil)) (len_cons (len_cons (fun _ _ _ h => len_nil h)))) da_nil)) (len_cons (len_cons (fun _ _ _ h => len_nil h)))) sc__law_rents_right.nd)))
  (dss_one (ds_if (DW.dt (dw_or (dt_cmp (opd_ne (hu64 hr.r)) (de_var 9) (de_var 10)) (dw_or1 (dt_val (de_cG C__law_before hr (by decide) rfl (da_cons (de_var 9) (da_cons (de_var 5) da_nil)) (len_cons (len_cons (fun _ _ _ h => len_nil h)))))))) (dss_one (ds_ret de_bool)) dss_nil)))))
  (dss_one (ds_if (dt_cmp (opd_ne (hu64 hr.r)) (de_op opd_addA (de_index (hu65 hr.r) (de_var 7) (de_var 5)) de_int) (de_var 6)) (dss_one (ds_ret de_bool)) dss_nil)))) dss_nil)
  (dss_cons (ds_if (dt_cmp (opd_ne (hu64 hr.r)) (de_callB (callr_repr hr) rfl g_repr b_repr (dl_cons (de_lst (dl_cons (de_cG C_least_known_share hr (by decide) rfl (da_cons (de_var 2) (da_cons (de_var 3) (da_cons (de_var 4) da_nil))) (len_cons (len_cons (len_cons (fun _ _ _ h => len_nil h))))) (dl_cons (de_cG C_told_known_way hr (by decide) rfl (da_cons (de_var 2) (da_cons (de_var 3) (da_cons (de_var 4) da_nil))) (len_cons (len_cons (len_cons (fun _ _ _ h => len_nil h))))) dl_nil))) dl_nil)) (de_callB (callr_repr hr) rfl g_repr b_repr (dl_cons (de_lst (dl_cons (de_var 5) (dl_cons (de_var 6) dl_nil))) dl_nil))) (dss_one (ds_ret de_bool)) dss_nil)
  (dss_cons (ds_for PassesOwn.never rfl (di_seq (de_tup (dl_cons de_none (dl_cons de_int (dl_cons (de_var 2) (dl_cons (de_op opd_addA de_int (de_cG C__law_pick hr (by decide) rfl (da_src 0 (da_cons (de_var 1) da_nil)) (len_src (len_cons (fun _ _ _ h => len_nil h))))) (dl_cons (de_var 4) (dl_cons (de_callB (callr_min2 rfl) rfl g_min b_min (dl_cons (de_op opd_addA (de_var 4) de_int) (dl_cons (de_op opd_pow de_int de_int) dl_nil))) (dl_cons (de_var 3) dl_nil))))))))) (dg_nm 8 sc__law_rents_right.nd) (dss_cons (ds_if (dt_cmp (opd_ne (hu64 hr.r)) (de_callB (callr_repr hr) rfl g_repr b_repr (dl_cons (de_cG C_known_share hr (by decide) rfl (da_cons (de_var 2) (da_cons (de_var 8) (da_cons (de_var 3) (da_cons (de_var 4) da_nil)))) (len_cons (len_cons (len_cons (len_cons (fun _ _ _ h => len_nil h)))))) dl_nil)) (de_callB (callr_repr hr) rfl g_repr b_repr (dl_cons (de_cG C__law_share hr (by decide) rfl (da_cons (de_var 2) (da_cons (de_var 8) (da_cons (de_var 3) (da_cons (de_var 4) da_nil)))) (len_cons (len_cons (len_cons (len_cons (fun _ _ _ h => len_nil h)))))) dl_nil))) (dss_one (ds_ret de_bool)) dss_nil)
  (dss_cons (ds_asg 12 (de_cG C__law_of hr (by decide) rfl (da_src 0 (da_cons (de_lst (dl_cons (de_var 3) (dl_cons (de_var 4) (dl_cons (de_var 2) (dl_cons (de_cG C__law_pick hr (by decide) rfl (da_src 0 (da_cons (de_op opd_addA (de_var 1) de_int) da_nil)) (len_src (len_cons (fun _ _ _ h => len_nil h)))) dl_nil))))) da_nil)) (len_src (len_cons (fun _ _ _ h => len_nil h)))) sc__law_rents_right.nd)
  (dss_cons (ds_asg 10 (de_if (dt_cmp opd_is (de_var 8) de_none) de_none (de_cG C__law_cut hr (by decide) rfl (da_cons (de_op opd_addA (de_op opd_sub (de_var 8) de_int) (de_var 2)) (da_cons (de_callB (callr_min2 rfl) rfl g_min b_min (dl_cons (de_var 8) (dl_cons (de_var 2) dl_nil))) da_nil)) (len_cons (len_cons (fun _ _ _ h => len_nil h))))) sc__law_rents_right.nd)
  (dss_one (ds_if (DW.dt (dw_or (dt_cmp (opd_ne (hu64 hr.r)) (de_cG C_rent_cost hr (by decide) rfl (da_cons (de_var 2) (da_cons (de_var 8) (da_cons (de_var 12) da_nil))) (len_cons (len_cons (len_cons (fun _ _ _ h => len_nil h))))) (de_cG C__law_cost hr (by decide) rfl (da_cons (de_var 2) (da_cons (de_var 8) (da_cons (de_var 12) da_nil))) (len_cons (len_cons (len_cons (fun _ _ _ h => len_nil h)))))) (dw_or1 (dt_cmp (opd_ne (hu64 hr.r)) (de_callB (callr_repr hr) rfl g_repr b_repr (dl_cons (de_cG C_rent_share hr (by decide) rfl (da_cons (de_var 2) (da_cons (de_var 8) da_nil)) (len_cons (len_cons (fun _ _ _ h => len_nil h)))) dl_nil)) (de_callB (callr_repr hr) rfl g_repr b_repr (dl_cons (de_var 10) dl_nil)))))) (dss_one (ds_ret de_bool)) dss_nil))))))
  (dss_one (ds_ret (de_cmp (opd_eq (hu64 hr.r)) (de_callB (callr_repr hr) rfl g_repr b_repr (dl_cons (de_cG C_least_rent_share hr (by decide) rfl (da_cons (de_var 2) da_nil) (len_cons (fun _ _ _ h => len_nil h))) dl_nil)) (de_callB (callr_repr hr) rfl g_repr b_repr (dl_cons (de_cG C__law_cut hr (by decide) rfl (da_cons (de_op opd_sub (de_op opd_mulS de_int (de_var 2)) de_int) (da_cons (de_var 2) da_nil)) (len_cons (len_cons (fun _ _ _ h => len_nil h)))) dl_nil))))))))))))
abbrev s__law_table : Stmt := topS 35
abbrev N__law_table : List Str := ["source", "ways", "cases", "size", "rows", "k", "i"]
theorem sc__law_table : FnScope N__law_table ["source"] (defScope s__law_table) := ⟨rfl, rfl, rfl, by decide +kernel, rfl, by decide +kernel, by decide +kernel⟩
noncomputable def d__law_table : MS :=
  (seqS (par2 1 2 (consL (op2 addA (cD (.int 1)) (callD f__law_pick (srcA 0 (consA (cD (.int 40)) (ret []))))) (consL (op2 addA (cD (.int 1)) (callD f__law_pick (srcA 0 (consA (cD (.int 60)) (ret []))))) (ret []))))
  (seqS (parO 3 4 (callD f__law_of (srcA 0 (consA (lstD (consL (cD (.int 4)) (consL (cD (.int 30)) (consL (op2 powI (cD (.int 10)) (cD (.int 9))) (ret []))))) (ret [])))))
  (seqS (forS (rangeI1 (consL (vD 1) (ret []))) (.nm 5) (appS 4 (callN tupleD (consL (compD [6] (rangeI1 (consL (vD 2) (ret []))) (.nm 6) (ret true) (ifD (toB (op2 gtI (callD f__law_pick (srcA 0 (consA (cD (.int 9)) (ret [])))) (cD (.int 0)))) (op2 addA (cD (.int 1)) (callD f__law_pick (srcA 0 (consA (vD 3) (ret []))))) (callD f__law_pick (srcA 0 (consA (cD (.int 2)) (ret [])))))) (ret [])))))
  (retS (callN tupleD (consL (vD 4) (ret [])))))))
noncomputable def f__law_table : DF := defM 7 d__law_table
theorem c__law_table {P : Program} {w : World} {K : PySem.W.Frag} {mg : Str → Option Value} {base : Heap} {f : Addr} {fd : FuncData} (F : FnP K "_law_table" s__law_table f fd) (hm : mg "_law_table" = some (.ref f)) (g_range : mg "range" = none) (g_tuple : mg "tuple" = none) (C__law_of : CalG P w K mg base "_law_of" 2 2 f__law_of) (C__law_pick : CalG P w K mg base "_law_pick" 2 1 f__law_pick) :
    CalG P w K mg base "_law_table" 1 3 f__law_table :=
  def_inG F sc__law_table (by decide) hm (fun _ _ _ _ _ _ us hl => match us, hl with | [_], _ => rfl) fun c cdv A outer s H E hr =>
  (dss_cons (ds_par rfl sc__law_table.nd (dl_cons (de_op opd_addA de_int (de_cG C__law_pick hr (by decide) rfl (da_src 0 (da_cons de_int da_nil)) (len_src (len_cons (fun _ _ _ h => len_nil h))))) (dl_cons (de_op opd_addA de_int (de_cG C__law_pick hr (by decide) rfl (da_src 0 (da_cons de_int da_nil)) (len_src (len_cons (fun _ _ _ h => len_nil h))))) dl_nil)) rfl (by decide) (i := 1) (j := 2))
  (dss_cons (ds_unpO rfl sc__law_table.nd (de_cG C__law_of hr (by decide) rfl (da_src 0 (da_cons (de_lst (dl_cons de_int (dl_cons de_int (dl_cons (de_op opd_pow de_int de_int) dl_nil)))) da_nil)) (len_src (len_cons (fun _ _ _ h => len_nil h)))) (by decide) (i := 3) (j := 4))
  (dss_cons (ds_for PassesOwn.never rfl (di_range1 rfl g_range (dl_cons (de_var 1) dl_nil)) (dg_nm 5 sc__law_table.nd) (dss_one (ds_append (pe_bm PySem.F.plainAttrs_list PySem.F.slot_list_append PySem.F.type_list_append mt_append (pv 4) (pa_cons (de_callTy callr_tuple rfl g_tuple b_tuple (dl_cons (de_comp rfl sc__law_table.nd (di_range1 rfl g_range (dl_cons (de_var 2) dl_nil)) (own := [("i", 6)]) (blkOk_by (by kernel_rfl)) (by decide) (fun _ _ _ _ _ => (dg_nm 6 sc__law_table.nd)) (fun _ _ _ _ _ => dts_nil) (fun _ _ _ _ _ _ => (de_if (dt_cmp opd_gt (de_cG C__law_pick hr (by decide) rfl (da_src 0 (da_cons de_int da_nil)) (len_src (len_cons (fun _ _ _ h => len_nil h)))) de_int) (de_op opd_addA de_int (de_cG C__law_pick hr (by decide) rfl (da_src 0 (da_cons (de_var 3) da_nil)) (len_src (len_cons (fun _ _ _ h => len_nil h))))) (de_cG C__law_pick hr (by decide) rfl (da_src 0 (da_cons de_int da_nil)) (len_src (len_cons (fun _ _ _ h => len_nil h))))))) dl_nil)) pa_nil)))))
  (dss_one (ds_ret (de_callTy callr_tuple rfl g_tuple b_tuple (dl_cons (de_var 4) dl_nil)))))))
abbrev s__law_way : Stmt := topS 36
abbrev N__law_way : List Str := ["table", "leasts", "k", "best", "cost", "least"]
theorem sc__law_way : FnScope N__law_way ["table", "leasts", "k"] (defScope s__law_way) := ⟨rfl, rfl, rfl, by decide +kernel, rfl, by decide +kernel, by decide +kernel⟩
noncomputable def d__law_way : MS :=
  (seqS (asgS 3 (tupD (consL (cD (.int 1)) (consL (cD (.int 1)) (ret [])))))
  (seqS (forS (zipI (consL (op2 ixD (vD 0) (vD 2)) (consL (vD 1) (ret [])))) (.tp [(.nm 4), (.nm 5)]) (seqS (ifS (andT (toB (op2 eqD (vD 5) (cD (.int 0)))) (toB (op2 gtI (vD 4) (cD (.int 0))))) (retS (cD .none)) (ret .nx))
  (asgS 3 (ifD (toB (op2 gtI (vD 5) (cD (.int 0)))) (callD f__law_greater (consA (vD 3) (consA (callD f__law_cut (consA (vD 4) (consA (vD 5) (ret [])))) (ret [])))) (vD 3)))))
  (retS (vD 3))))
noncomputable def f__law_way : DF := defM 6 d__law_way
theorem c__law_way {P : Program} {w : World} {K : PySem.W.Frag} {mg : Str → Option Value} {base : Heap} {f : Addr} {fd : FuncData} (F : FnP K "_law_way" s__law_way f fd) (hm : mg "_law_way" = some (.ref f)) (g_zip : mg "zip" = none) (C__law_cut : CalG P w K mg base "_law_cut" 2 1 f__law_cut) (C__law_greater : CalG P w K mg base "_law_greater" 2 2 f__law_greater) :
    CalG P w K mg base "_law_way" 3 3 f__law_way :=
  def_inG F sc__law_way (by decide) hm (fun _ _ _ _ _ _ us hl => match us, hl with | [_, _, _], _ => rfl) fun c cdv A outer s H E hr =>
  (dss_cons (ds_asg 3 (de_tup (dl_cons de_int (dl_cons de_int dl_nil))) sc__law_way.nd)
  (dss_cons (ds_for PassesOwn.never rfl (di_zip rfl g_zip (dl_cons (de_ix (de_var 0) (de_var 2)) (dl_cons (de_var 1) dl_nil))) (dg_tp rfl (dgs_cons (dg_nm 4 sc__law_way.nd) (dgs_cons (dg_nm 5 sc__law_way.nd) dgs_nil))) (dss_cons (ds_if (DW.dt (dw_and (dt_cmp (opd_eq (hu64 hr.r)) (de_var 5) de_int) (dw_and1 (dt_cmp opd_gt (de_var 4) de_int)))) (dss_one (ds_ret de_none)) dss_nil)
  (dss_one (ds_asg 3 (de_if (dt_cmp opd_gt (de_var 5) de_int) (de_cG C__law_greater hr (by decide) rfl (da_cons (de_var 3) (da_cons (de_cG C__law_cut hr (by decide) rfl (da_cons (de_var 4) (da_cons (de_var 5) da_nil)) (len_cons (len_cons (fun _ _ _ h => len_nil h)))) da_nil)) (len_cons (len_cons (fun _ _ _ h => len_nil h)))) (de_var 3)) sc__law_way.nd))))
  (dss_one (ds_ret (de_var 3)))))
abbrev s__law_bars : Stmt := topS 37
abbrev N__law_bars : List Str := ["table", "leasts", "c", "k", "some", "i", "cost"]
theorem sc__law_bars : FnScope N__law_bars ["table", "leasts", "c", "k"] (defScope s__law_bars) := ⟨rfl, rfl, rfl, by decide +kernel, rfl, by decide +kernel, by decide +kernel⟩
noncomputable def d__law_bars : MS :=
  (seqS (asgN 4 (compD [5, 6] (enumA (op2 ixD (vD 0) (vD 3))) (.tp [(.nm 5), (.nm 6)]) (toB (op2 gtI (op2 mulS (vD 6) (op2 ixD (vD 2) (cD (.int 1)))) (op2 mulS (op2 ixD (vD 2) (cD (.int 0))) (op2 ixD (vD 1) (vD 5))))) (vD 5)))
  (retS (ifD (toB (op2 neD (vD 4) (lstD (ret [])))) (op2 ixD (vD 4) (cD (.int 0))) (cD .none))))
noncomputable def f__law_bars : DF := defM 7 d__law_bars
theorem c__law_bars {P : Program} {w : World} {K : PySem.W.Frag} {mg : Str → Option Value} {base : Heap} {f : Addr} {fd : FuncData} (F : FnP K "_law_bars" s__law_bars f fd) (hm : mg "_law_bars" = some (.ref f)) (g_enumerate : mg "enumerate" = none) :
    CalG P w K mg base "_law_bars" 4 1 f__law_bars :=
  def_inG F sc__law_bars (by decide) hm (fun _ _ _ _ _ _ us hl => match us, hl with | [_, _, _, _], _ => rfl) fun c cdv A outer s H E hr =>
  (dss_cons (ds_setComp 4 rfl sc__law_bars.nd (sw_true rfl rfl rfl (by decide +kernel)) (di_enumA rfl g_enumerate (de_ix (de_var 0) (de_var 3))) (own := [("i", 5), ("cost", 6)]) (blkOk_by (by kernel_rfl)) (by decide) (fun _ _ _ _ _ => (dg_tp rfl (dgs_cons (dg_nm 5 sc__law_bars.nd) (dgs_cons (dg_nm 6 sc__law_bars.nd) dgs_nil)))) (fun _ _ _ _ _ => (dts_one fun _ => (dt_cmp opd_gt (de_op opd_mulS (de_var 6) (de_ix (de_var 2) de_int)) (de_op opd_mulS (de_ix (de_var 2) de_int) (de_ix (de_var 1) (de_var 5)))))) (fun _ _ _ _ _ _ => (de_var 5)))
  (dss_one (ds_ret (de_if (dt_cmp (opd_ne (hu64 hr.r)) (de_var 4) (de_lst dl_nil)) (de_ix (de_var 4) de_int) de_none))))
abbrev s__law_papers_right : Stmt := topS 38
abbrev N__law_papers_right : List Str := ["source", "table", "leasts", "shares", "some", "best", "share", "told", "c", "bars", "due", "turn", "k", "row", "off", "bad", "kept", "i", "value"]
theorem sc__law_papers_right : FnScope N__law_papers_right ["source"] (defScope s__law_papers_right) := ⟨rfl, rfl, rfl, by decide +kernel, rfl, by decide +kernel, by decide +kernel⟩
noncomputable def d__law_papers_right : MS :=
  (seqS (asgS 1 (callD f__law_table (srcA 0 (ret []))))
  (seqS (asgS 2 (callN tupleD (consL (compD [17] (rangeI1 (consL (callN lenD (consL (op2 ixD (vD 1) (cD (.int 0))) (ret []))) (ret []))) (.nm 17) (ret true) (callN (altN min1L min1T) (consL (compD [13] (seqI (vD 1)) (.nm 13) (ret true) (op2 ixD (vD 13) (vD 17))) (ret [])))) (ret []))))
  (seqS (asgN 3 (compD [12] (rangeI1 (consL (callN lenD (consL (vD 1) (ret []))) (ret []))) (.nm 12) (ret true) (callD f__law_way (consA (vD 1) (consA (vD 2) (consA (vD 12) (ret [])))))))
  (seqS (asgN 4 (compD [6] (seqI (vD 3)) (.nm 6) (toB (op2 notIsD (vD 6) (cD .none))) (vD 6)))
  (seqS (asgS 5 (ifD (toB (op2 neD (vD 4) (lstD (ret [])))) (op2 ixD (vD 4) (cD (.int 0))) (cD .none)))
  (seqS (forS (seqI (vD 4)) (.nm 6) (asgS 5 (ifD (toB (callD f__law_before (consA (vD 6) (consA (vD 5) (ret []))))) (vD 6) (vD 5))))
  (seqS (asgS 7 (lstD (consL (callD f_least_costs (consA (vD 1) (ret []))) (consL (callD f_least_share (consA (vD 1) (ret []))) (consL (callD f_best_way (consA (vD 1) (ret []))) (ret []))))))
  (seqS (ifS (toB (op2 neD (callN reprD (consL (vD 7) (ret []))) (callN reprD (consL (lstD (consL (vD 2) (consL (vD 5) (consL (ifD (toB (op2 notIsD (vD 5) (cD .none))) (op2 ixOfD (vD 3) (vD 5)) (cD .none)) (ret []))))) (ret []))))) (retS (cD (.bool false))) (ret .nx))
  (seqS (ifS (toB (op2 neD (compD [12] (rangeI1 (consL (callN lenD (consL (vD 1) (ret []))) (ret []))) (.nm 12) (toB (op2 neD (callN reprD (consL (callD f_way_share (consA (vD 1) (consA (vD 12) (ret [])))) (ret []))) (callN reprD (consL (op2 ixD (vD 3) (vD 12)) (ret []))))) (vD 12)) (lstD (ret [])))) (retS (cD (.bool false))) (ret .nx))
  (seqS (asgS 8 (callD f__law_of (srcA 0 (consA (op2 addB (vD 4) (lstD (consL (tupD (consL (cD (.int 1)) (consL (cD (.int 1)) (ret [])))) (consL (tupD (consL (cD (.int 2)) (consL (cD (.int 1)) (ret [])))) (consL (callD f__law_cut (consA (op2 addB (cD (.int 3)) (callD f__law_pick (srcA 0 (consA (cD (.int 90)) (ret []))))) (consA (cD (.int 3)) (ret [])))) (ret [])))))) (ret [])))))
  (seqS (asgN 9 (compD [12] (rangeI1 (consL (callN lenD (consL (vD 1) (ret []))) (ret []))) (.nm 12) (ret true) (callD f__law_bars (consA (vD 1) (consA (vD 2) (consA (vD 8) (consA (vD 12) (ret []))))))))
  (seqS (asgS 10 (ifD (toB (op2 inD (cD .none) (vD 9))) (tupD (consL (cD (.str "way")) (consL (op2 ixOfD (vD 9) (cD .none)) (ret [])))) (tupD (consL (cD (.str "bars")) (consL (callN tupleD (consL (vD 9) (ret []))) (ret []))))))
  (seqS (ifS (orT (toB (op2 neD (callN reprD (consL (callD f_share_paper (consA (vD 1) (consA (vD 8) (ret [])))) (ret []))) (callN reprD (consL (vD 10) (ret []))))) (toB (op2 notIsD (callD f_judge_share (consA (vD 1) (consA (vD 8) (consA (vD 10) (ret []))))) (cD .none)))) (retS (cD (.bool false))) (ret .nx))
  (seqS (forS (rangeI1 (consL (cD (.int 4)) (ret []))) (.nm 11) (seqS (asgS 12 (callD f__law_pick (srcA 0 (consA (callN lenD (consL (vD 1) (ret []))) (ret [])))))
  (seqS (ifS (toB (op2 neD (callN reprD (consL (callD f_judge_share (consA (vD 1) (consA (vD 8) (consA (tupD (consL (cD (.str "way")) (consL (vD 12) (ret [])))) (ret []))))) (ret []))) (callN reprD (consL (ifD (toB (op2 isD (op2 ixD (vD 9) (vD 12)) (cD .none))) (cD .none) (tupD (consL (cD (.str "case")) (consL (op2 ixD (vD 9) (vD 12)) (ret []))))) (ret []))))) (retS (cD (.bool false))) (ret .nx))
  (seqS (asgN 13 (compD [17] (seqI (vD 9)) (.nm 17) (ret true) (ifD (orT (toB (op2 isD (vD 17) (cD .none))) (toB (op2 eqD (callD f__law_pick (srcA 0 (consA (cD (.int 9)) (ret [])))) (cD (.int 0))))) (callD f__law_pick (srcA 0 (consA (callN lenD (consL (vD 2) (ret []))) (ret [])))) (vD 17))))
  (seqS (asgN 14 (compD [12, 17] (enumI (consL (vD 13) (ret []))) (.tp [(.nm 12), (.nm 17)]) (toB (op2 leI (op2 mulB (op2 ixD (op2 ixD (vD 1) (vD 12)) (vD 17)) (op2 ixD (vD 8) (cD (.int 1)))) (op2 mulB (op2 ixD (vD 8) (cD (.int 0))) (op2 ixD (vD 2) (vD 17))))) (vD 12)))
  (ifS (toB (op2 neD (callN reprD (consL (callD f_judge_share (consA (vD 1) (consA (vD 8) (consA (tupD (consL (cD (.str "bars")) (consL (callN tupleD (consL (vD 13) (ret []))) (ret [])))) (ret []))))) (ret []))) (callN reprD (consL (ifD (toB (op2 neD (vD 14) (lstD (ret [])))) (tupD (consL (cD (.str "within")) (consL (op2 ixD (vD 14) (cD (.int 0))) (ret [])))) (cD .none)) (ret []))))) (retS (cD (.bool false))) (ret .nx)))))))
  (seqS (asgN 15 (lstD (consL (tupD (consL (cD (.str "way")) (consL (callN lenD (consL (vD 1) (ret []))) (ret [])))) (consL (tupD (consL (cD (.str "way")) (consL (cD (.bool true)) (ret [])))) (consL (tupD (consL (cD (.str "bars")) (consL (op2 mulB (tupD (consL (cD (.int 0)) (ret []))) (op2 addB (callN lenD (consL (vD 1) (ret []))) (cD (.int 1)))) (ret [])))) (consL (tupD (consL (cD (.str "bars")) (consL (op2 mulB (lstD (consL (cD (.int 0)) (ret []))) (callN lenD (consL (vD 1) (ret [])))) (ret [])))) (consL (tupD (consL (cD (.str "way")) (consL (cD (.int 0)) (consL (cD (.int 0)) (ret []))))) (consL (cD .none) (ret [])))))))))
  (seqS (appS 15 (tupD (consL (cD (.str "bars")) (consL (op2 mulB (tupD (consL (callN lenD (consL (vD 2) (ret []))) (ret []))) (callN lenD (consL (vD 1) (ret [])))) (ret [])))))
  (seqS (ifS (toB (op2 neD (compD [18] (seqI (vD 15)) (.nm 18) (toB (op2 neD (callD f_judge_share (consA (vD 1) (consA (vD 8) (consA (vD 18) (ret []))))) (tupD (consL (cD (.str "form")) (ret []))))) (vD 18)) (lstD (ret [])))) (retS (cD (.bool false))) (ret .nx))
  (seqS (asgS 16 (callD f_kept_ways (consA (vD 1) (ret []))))
  (retS (orV (op2 isD (vD 5) (cD .none)) (op2 inD (vD 5) (compD [12] (seqI (vD 16)) (.nm 12) (ret true) (op2 ixD (vD 3) (vD 12))))))))))))))))))))))))
noncomputable def f__law_papers_right : DF := defM 19 d__law_papers_right
theorem c__law_papers_right {P : Program} {w : World} {K : PySem.W.Frag} {mg : Str → Option Value} {base : Heap} {f : Addr} {fd : FuncData} (F : FnP K "_law_papers_right" s__law_papers_right f fd) (hm : mg "_law_papers_right" = some (.ref f)) (g_enumerate : mg "enumerate" = none) (g_len : mg "len" = none) (g_min : mg "min" = none) (g_range : mg "range" = none) (g_repr : mg "repr" = none) (g_tuple : mg "tuple" = none) (C__law_bars : CalG P w K mg base "_law_bars" 4 1 f__law_bars) (C__law_before : CalG P w K mg base "_law_before" 2 1 f__law_before) (C__law_cut : CalG P w K mg base "_law_cut" 2 1 f__law_cut) (C__law_of : CalG P w K mg base "_law_of" 2 2 f__law_of) (C__law_pick : CalG P w K mg base "_law_pick" 2 1 f__law_pick) (C__law_table : CalG P w K mg base "_law_table" 1 3 f__law_table) (C__law_way : CalG P w K mg base "_law_way" 3 3 f__law_way) (C_best_way : CalG P w K mg base "best_way" 1 4 f_best_way) (C_judge_share : CalG P w K mg base "judge_share" 3 3 f_judge_share) (C_kept_ways : CalG P w K mg base "kept_ways" 1 2 f_kept_ways) (C_least_costs : CalG P w K mg base "least_costs" 1 1 f_least_costs) (C_least_share : CalG P w K mg base "least_share" 1 5 f_least_share) (C_share_paper : CalG P w K mg base "share_paper" 2 3 f_share_paper) (C_way_share : CalG P w K mg base "way_share" 2 3 f_way_share) :
    CalG P w K mg base "_law_papers_right" 1 6 f__law_papers_right :=
  def_inG F sc__law_papers_right (by decide) hm (fun _ _ _ _ _ _ us hl => match us, hl with | [_], _ => rfl) fun c cdv A outer s H E hr =>
  (dss_cons (ds_asg 1 (de_cG C__law_table hr (by decide) rfl (da_src 0 da_nil) (len_src (fun _ _ _ h => len_nil h))) sc__law_papers_right.nd)
  (dss_cons (ds_asg 2 (de_callTy callr_tuple rfl g_tuple b_tuple (dl_cons (de_comp rfl sc__law_papers_right.nd (di_range1 rfl g_range (dl_cons (de_callB callr_len rfl g_len b_len (dl_cons (de_ix (de_var 1) de_int) dl_nil)) dl_nil)) (own := [("i", 17)]) (blkOk_by (by kernel_rfl)) (by decide) (fun _ _ _ _ _ => (dg_nm 17 sc__law_papers_right.nd)) (fun _ _ _ _ _ => dts_nil) (fun _ _ _ _ _ _ => (de_callB (callr_min1 rfl) rfl g_min b_min (dl_cons (de_comp rfl sc__law_papers_right.nd (di_seq (de_var 1)) (own := [("row", 13)]) (blkOk_by (by kernel_rfl)) (by decide) (fun _ _ _ _ _ => (dg_nm 13 sc__law_papers_right.nd)) (fun _ _ _ _ _ => dts_nil) (fun _ _ _ _ _ _ => (de_ix (de_var 13) (de_var 17)))) dl_nil)))) dl_nil)) sc__law_papers_right.nd)
  (dss_cons (ds_new 3 (dn_comp rfl sc__law_papers_right.nd (di_range1 rfl g_range (dl_cons (de_callB callr_len rfl g_len b_len (dl_cons (de_var 1) dl_nil)) dl_nil)) (own := [("k", 12)]) (blkOk_by (by kernel_rfl)) (by decide) (fun _ _ _ _ _ => (dg_nm 12 sc__law_papers_right.nd)) (fun _ _ _ _ _ => dts_nil) (fun _ _ _ _ _ _ => (de_cG C__law_way hr (by decide) rfl (da_cons (de_var 1) (da_cons (de_var 2) (da_cons (de_var 12) da_nil))) (len_cons (len_cons (len_cons (fun _ _ _ h => len_nil h))))))) sc__law_papers_right.nd)
  (dss_cons (ds_setComp 4 rfl sc__law_papers_right.nd (sw_true rfl rfl rfl (by decide +kernel)) (di_seq (de_var 3)) (own := [("share", 6)]) (blkOk_by (by kernel_rfl)) (by decide) (fun _ _ _ _ _ => (dg_nm 6 sc__law_papers_right.nd)) (fun _ _ _ _ _ => (dts_one fun _ => (dt_cmp opd_isnot (de_var 6) de_none))) (fun _ _ _ _ _ _ => (de_var 6)))
  (dss_cons (ds_asg 5 (de_if (dt_cmp (opd_ne (hu64 hr.r)) (de_var 4) (de_lst dl_nil)) (de_ix (de_var 4) de_int) de_none) sc__law_papers_right.nd)
  (dss_cons (ds_for PassesOwn.never rfl (di_seq (de_var 4)) (dg_nm 6 sc__law_papers_right.nd) (dss_one (ds_asg 5 (de_if (dt_val (de_cG C__law_before hr (by decide) rfl (da_cons (de_var 6) (da_cons (de_var 5) da_nil)) (len_cons (len_cons (fun _ _ _ h => len_nil h))))) (de_var 6) (de_var 5)) sc__law_papers_right.nd)))
  (dss_cons (ds_asg 7 (de_lst (dl_cons (de_cG C_least_costs hr (by decide) rfl (da_cons (de_var 1) da_nil) (len_cons (fun _ _ _ h => len_nil h))) (dl_cons (de_cG C_least_share hr (by decide) rfl (da_cons (de_var 1) da_nil) (len_cons (fun _ _ _ h => len_nil h))) (dl_cons (de_cG C_best_way hr (by decide) rfl (da_cons (de_var 1) da_nil) (len_cons (fun _ _ _ h => len_nil h))) dl_nil)))) sc__law_papers_right.nd)
  (dss_cons (ds_if (dt_cmp (opd_ne (hu64 hr.r)) (de_callB (callr_repr hr) rfl g_repr b_repr (dl_cons (de_var 7) dl_nil)) (de_callB (callr_repr hr) rfl g_repr b_repr (dl_cons (de_lst (dl_cons (de_var 2) (dl_cons (de_var 5) (dl_cons (de_if (dt_cmp opd_isnot (de_var 5) de_none) (de_index (hu65 hr.r) (de_var 3) (de_var 5)) de_none) dl_nil)))) dl_nil))) (dss_one (ds_ret de_bool)) dss_nil)
  (dss_cons (ds_if (dt_cmp (opd_ne (hu64 hr.r)) (de_comp rfl sc__law_papers_right.nd (di_range1 rfl g_range (dl_cons (de_callB callr_len rfl g_len b_len (dl_cons (de_var 1) dl_nil)) dl_nil)) (own := [("k", 12)]) (blkOk_by (by kernel_rfl)) (by decide) (fun _ _ _ _ _ => (dg_nm 12 sc__law_papers_right.nd)) (fun _ _ _ _ _ => (dts_one fun _ => (dt_cmp (opd_ne (hu64 hr.r)) (de_callB (callr_repr hr) rfl g_repr b_repr (dl_cons (de_cG C_way_share hr (by decide) rfl (da_cons (de_var 1) (da_cons (de_var 12) da_nil)) (len_cons (len_cons (fun _ _ _ h => len_nil h)))) dl_nil)) (de_callB (callr_repr hr) rfl g_repr b_repr (dl_cons (de_ix (de_var 3) (de_var 12)) dl_nil))))) (fun _ _ _ _ _ _ => (de_var 12))) (de_lst dl_nil)) (dss_one (ds_ret de_bool)) dss_nil)
  (dss_cons (ds_asg 8 (de_cG C__law_of hr (by decide) rfl (da_src 0 (da_cons (de_op opd_addB (de_var 4) (de_lst (dl_cons (de_tup (dl_cons de_int (dl_cons de_int dl_nil))) (dl_cons (de_tup (dl_cons de_int (dl_cons de_int dl_nil))) (dl_cons (de_cG C__law_cut hr (by decide) rfl (da_cons (de_op opd_addB de_int (de_cG C__law_pick hr (by decide) rfl (da_src 0 (da_cons de_int da_nil)) (len_src (len_cons (fun _ _ _ h => len_nil h))))) (da_cons de_int da_nil)) (len_cons (len_cons (fun _ _ _ h => len_nil h)))) dl_nil))))) da_nil)) (len_src (len_cons (fun _ _ _ h => len_nil h)))) sc__law_papers_right.nd)
  (dss_cons (ds_setComp 9 rfl sc__law_papers_right.nd (sw_true rfl rfl rfl (by decide +kernel)) (di_range1 rfl g_range (dl_cons (de_callB callr_len rfl g_len b_len (dl_cons (de_var 1) dl_nil)) dl_nil)) (own := [("k", 12)]) (blkOk_by (by kernel_rfl)) (by decide) (fun _ _ _ _ _ => (dg_nm 12 sc__law_papers_right.nd)) (fun _ _ _ _ _ => dts_nil) (fun _ _ _ _ _ _ => (de_cG C__law_bars hr (by decide) rfl (da_cons (de_var 1) (da_cons (de_var 2) (da_cons (de_var 8) (da_cons (de_var 12) da_nil)))) (len_cons (len_cons (len_cons (len_cons (fun _ _ _ h => len_nil h))))))))
  (dss_cons (ds_asg 10 (de_if (dt_cmp (opd_in (hu66 hr.r)) de_none (de_var 9)) (de_tup (dl_cons de_str (dl_cons (de_index (hu65 hr.r) (de_var 9) de_none) dl_nil))) (de_tup (dl_cons de_str (dl_cons (de_callTy callr_tuple rfl g_tuple b_tuple (dl_cons (de_var 9) dl_nil)) dl_nil)))) sc__law_papers_right.nd)
  (dss_cons (ds_if (DW.dt (dw_or (dt_cmp (opd_ne (hu64 hr.r)) (de_callB (callr_repr hr) rfl g_repr b_repr (dl_cons (de_cG C_share_paper hr (by decide) rfl (da_cons (de_var 1) (da_cons (de_var 8) da_nil)) (len_cons (len_cons (fun _ _ _ h => len_nil h)))) dl_nil)) (de_callB (callr_repr hr) rfl g_repr b_repr (dl_cons (de_var 10) dl_nil))) (dw_or1 (dt_cmp opd_isnot (de_cG C_judge_share hr (by decide) rfl (da_cons (de_var 1) (da_cons (de_var 8) (da_cons (de_var 10) da_nil))) (len_cons (len_cons (len_cons (fun _ _ _ h => len_nil h))))) de_none)))) (dss_one (ds_ret de_bool)) dss_nil)
  (dss_cons (ds_for PassesOwn.never rfl (di_range1 rfl g_range (dl_cons de_int dl_nil)) (dg_nm 11 sc__law_papers_right.nd) (dss_cons (ds_asg 12 (de_cG C__law_pick hr (by decide) rfl (da_src 0 (da_cons (de_callB callr_len rfl g_len b_len (dl_cons (de_var 1) dl_nil)) da_nil)) (len_src (len_cons (fun _ _ _ h => len_nil h)))) sc__law_papers_right.nd)
  (dss_cons (ds_if (dt_cmp (opd_ne (hu64 hr.r)) (de_callB (callr_repr hr) rfl g_repr b_repr (dl_cons (de_cG C_judge_share hr (by decide) rfl (da_cons (de_var 1) (da_cons (de_var 8) (da_cons (de_tup (dl_cons de_str (dl_cons (de_var 12) dl_nil))) da_nil))) (len_cons (len_cons (len_cons (fun _ _ _ h => len_nil h))))) dl_nil)) (de_callB (callr_repr hr) rfl g_repr b_repr (dl_cons (de_if (dt_cmp opd_is (de_ix (de_var 9) (de_var 12)) de_none) de_none (de_tup (dl_cons de_str (dl_cons (de_ix (de_var 9) (de_var 12)) dl_nil)))) dl_nil))) (dss_one (ds_ret de_bool)) dss_nil)
  (dss_cons (ds_setComp 13 rfl sc__law_papers_right.nd (sw_true rfl rfl rfl (by decide +kernel)) (di_seq (de_var 9)) (own := [("i", 17)]) (blkOk_by (by kernel_rfl)) (by decide) (fun _ _ _ _ _ => (dg_nm 17 sc__law_papers_right.nd)) (fun _ _ _ _ _ => dts_nil) (fun _ _ _ _ _ _ => (de_if (DW.dt (dw_or (dt_cmp opd_is (de_var 17) de_none) (dw_or1 (dt_cmp (opd_eq (hu64 hr.r)) (de_cG C__law_pick hr (by decide) rfl (da_src 0 (da_cons de_int da_nil)) (len_src (len_cons (fun _ _ _ h => len_nil h)))) de_int)))) (de_cG C__law_pick hr (by decide) rfl (da_src 0 (da_cons (de_callB callr_len rfl g_len b_len (dl_cons (de_var 2) dl_nil)) da_nil)) (len_src (len_cons (fun _ _ _ h => len_nil h)))) (de_var 17))))
  (dss_cons (ds_setComp 14 rfl sc__law_papers_right.nd (sw_true rfl rfl rfl (by decide +kernel)) (di_enum rfl g_enumerate (dl_cons (de_var 13) dl_nil)) (own := [("k", 12), ("i", 17)]) (blkOk_by (by kernel_rfl)) (by decide) (fun _ _ _ _ _ => (dg_tp rfl (dgs_cons (dg_nm 12 sc__law_papers_right.nd) (dgs_cons (dg_nm 17 sc__law_papers_right.nd) dgs_nil)))) (fun _ _ _ _ _ => (dts_one fun _ => (dt_cmp opd_le (de_op opd_mulB (de_ix (de_ix (de_var 1) (de_var 12)) (de_var 17)) (de_ix (de_var 8) de_int)) (de_op opd_mulB (de_ix (de_var 8) de_int) (de_ix (de_var 2) (de_var 17)))))) (fun _ _ _ _ _ _ => (de_var 12)))
  (dss_one (ds_if (dt_cmp (opd_ne (hu64 hr.r)) (de_callB (callr_repr hr) rfl g_repr b_repr (dl_cons (de_cG C_judge_share hr (by decide) rfl (da_cons (de_var 1) (da_cons (de_var 8) (da_cons (de_tup (dl_cons de_str (dl_cons (de_callTy callr_tuple rfl g_tuple b_tuple (dl_cons (de_var 13) dl_nil)) dl_nil))) da_nil))) (len_cons (len_cons (len_cons (fun _ _ _ h => len_nil h))))) dl_nil)) (de_callB (callr_repr hr) rfl g_repr b_repr (dl_cons (de_if (dt_cmp (opd_ne (hu64 hr.r)) (de_var 14) (de_lst dl_nil)) (de_tup (dl_cons de_str (dl_cons (de_ix (de_var 14) de_int) dl_nil))) de_none) dl_nil))) (dss_one (ds_ret de_bool)) dss_nil)))))))
  (dss_cons (ds_new 15 (dn_lst (dl_cons (de_tup (dl_cons de_str (dl_cons (de_callB callr_len rfl g_len b_len (dl_cons (de_var 1) dl_nil)) dl_nil))) (dl_cons (de_tup (dl_cons de_str (dl_cons de_bool dl_nil))) (dl_cons (de_tup (dl_cons de_str (dl_cons (de_op opd_mulB (de_tup (dl_cons de_int dl_nil)) (de_op opd_addB (de_callB callr_len rfl g_len b_len (dl_cons (de_var 1) dl_nil)) de_int)) dl_nil))) (dl_cons (de_tup (dl_cons de_str (dl_cons (de_op opd_mulB (de_lst (dl_cons de_int dl_nil)) (de_callB callr_len rfl g_len b_len (dl_cons (de_var 1) dl_nil))) dl_nil))) (dl_cons (de_tup (dl_cons de_str (dl_cons de_int (dl_cons de_int dl_nil)))) (dl_cons de_none dl_nil))))))) sc__law_papers_right.nd)
  (dss_cons (ds_append (pe_bm PySem.F.plainAttrs_list PySem.F.slot_list_append PySem.F.type_list_append mt_append (pv 15) (pa_cons (de_tup (dl_cons de_str (dl_cons (de_op opd_mulB (de_tup (dl_cons (de_callB callr_len rfl g_len b_len (dl_cons (de_var 2) dl_nil)) dl_nil)) (de_callB callr_len rfl g_len b_len (dl_cons (de_var 1) dl_nil))) dl_nil))) pa_nil)))
  (dss_cons (ds_if (dt_cmp (opd_ne (hu64 hr.r)) (de_comp rfl sc__law_papers_right.nd (di_seq (de_var 15)) (own := [("value", 18)]) (blkOk_by (by kernel_rfl)) (by decide) (fun _ _ _ _ _ => (dg_nm 18 sc__law_papers_right.nd)) (fun _ _ _ _ _ => (dts_one fun _ => (dt_cmp (opd_ne (hu64 hr.r)) (de_cG C_judge_share hr (by decide) rfl (da_cons (de_var 1) (da_cons (de_var 8) (da_cons (de_var 18) da_nil))) (len_cons (len_cons (len_cons (fun _ _ _ h => len_nil h))))) (de_tup (dl_cons de_str dl_nil))))) (fun _ _ _ _ _ _ => (de_var 18))) (de_lst dl_nil)) (dss_one (ds_ret de_bool)) dss_nil)
  (dss_cons (ds_asg 16 (de_cG C_kept_ways hr (by decide) rfl (da_cons (de_var 1) da_nil) (len_cons (fun _ _ _ h => len_nil h))) sc__law_papers_right.nd)
  (dss_one (ds_ret (de_or (de_cmp opd_is (de_var 5) de_none) (de_one (de_cmp (opd_in (hu66 hr.r)) (de_var 5) (de_comp rfl sc__law_papers_right.nd (di_seq (de_var 16)) (own := [("k", 12)]) (blkOk_by (by kernel_rfl)) (by decide) (fun _ _ _ _ _ => (dg_nm 12 sc__law_papers_right.nd)) (fun _ _ _ _ _ => dts_nil) (fun _ _ _ _ _ _ => (de_ix (de_var 3) (de_var 12)))))))))))))))))))))))))))
abbrev s_law : Stmt := topS 39
abbrev N_law : List Str := ["script", "source"]
theorem sc_law : FnScope N_law ["script"] (defScope s_law) := ⟨rfl, rfl, rfl, by decide +kernel, rfl, by decide +kernel, by decide +kernel⟩
noncomputable def d_law : MS :=
  (seqS (ifS (orT (notT (toB (callD f__law_rents_right (srcA 1 (ret []))))) (notT (toB (callD f__law_rents_right (srcA 1 (ret [])))))) (retS (cD (.bool false))) (ret .nx))
  (retS (callD f__law_papers_right (srcA 1 (ret [])))))
def spLaw (K : PySem.W.Frag) : Sp := fun vs H Q _ => ∃ (a : Addr) (ns : List Int), vs = [.ref a] ∧ ns.length ≤ 1000 ∧ SqL K H a (ns.map V.int) ∧ ∀ H', Q (.bl true) H'
def envL : List Slot := .un :: .src :: List.replicate 0 .un
theorem c_law {P : Program} {w : World} {K : PySem.W.Frag} {mg : Str → Option Value} {base : Heap} {f fo : Addr} {fd fdo : FuncData} (F : FnP K "law" s_law f fd) (Fo : FnP K "_law_source" s__law_source fo fdo) (hmo : mg "_law_source" = some (.ref fo)) (Go : FnOk P w K mg base CX0 1 fo fdo ["script"] (spOpenG (openG 11 69069 31 5 1) K)) (C__law_papers_right : CalG P w K mg base "_law_papers_right" 1 6 f__law_papers_right) (C__law_rents_right : CalG P w K mg base "_law_rents_right" 1 6 f__law_rents_right)
    (true_ : ∀ s : Src, ∃ S', d_law ⟨envL, s⟩ = some (.rt (.bool true), S')) : FnG P w K mg base 7 f fd ["script"] (spLaw K) := by
  have bo : Binds K fdo ["script"] [] := Fo.bindsN fun _ _ _ _ _ _ us hl => match us, hl with | [_], _ => rfl
  refine okG F sc_law (fun vs H Q E h => ?_) (fun cdv A outer s H vs Q E hr h => ⟨_, PSs.nox (pss_cons (ps_set (i := 1) sc_law.nd rfl (Or.inl rfl) (pe_callG (E := E0) (FnG.of Go) (hr.mono (by decide)) rfl hmo Fo.kp bo .nil pass0 (pa_cons (pv 0) pa_nil))) (pss_ex fun c =>
  (dss_cons (ds_if (DW.dt (dw_or (dt_not (dt_val (de_cG C__law_rents_right hr (by decide) rfl (da_src 1 da_nil) (len_src (fun _ _ _ h => len_nil h))))) (dw_or1 (dt_not (dt_val (de_cG C__law_rents_right hr (by decide) rfl (da_src 1 da_nil) (len_src (fun _ _ _ h => len_nil h)))))))) (dss_one (ds_ret de_bool)) dss_nil)
  (dss_one (ds_ret (de_cG C__law_papers_right hr (by decide) rfl (da_src 1 da_nil) (len_src (fun _ _ _ h => len_nil h)))))))), ?_⟩)
  · obtain ⟨a, ns, rfl, _⟩ := h
    rfl
  obtain ⟨a, ns, rfl, hl, hS, hQ⟩ := h
  refine ⟨_, rfl, a, ns, rfl, hl, hS, fun H' ps pc hs h1 h2 hat => ?_⟩
  obtain ⟨S', e⟩ := true_ (openG 11 69069 31 5 1 ns)
  refine ⟨⟨H', fun _ => none, ps, pc⟩, fun _ => none, ⟨envL, openG 11 69069 31 5 1 ns⟩, ⟨fun _ _ e => e, fun _ _ e => (nomatch e), fun _ _ e => (nomatch e), fun _ _ e _ _ => e, ?_, ?_, hat, rfl, rfl, rfl, ?_, ?_⟩, _, S', e, fun F' H2 σ' _ _ v hv => ?_⟩
  · show H' ps ≠ none
    rw [hat.d]
    exact fun w => nomatch w
  · show H' pc ≠ none
    rw [hat.l]
    exact fun w => nomatch w
  · intro i x hx
    match i, hx with
    | 0, hx =>
      cases hx
      trivial
    | 1, hx =>
      cases hx
      exact rfl
    | i + 2, hx =>
      have hx' : (List.replicate 0 Slot.un)[i]? = some x := hx
      rw [List.getElem?_replicate] at hx'
      split at hx'
      · cases hx'
        cases hz : (([some (V.ref a)] ++ List.replicate 1 none).set 1 (some (V.ref ps)))[i + 2]? <;> trivial
      · cases hx'
  · intro i j b c _ hi _
    exfalso
    match i, hi with
    | 0, hi => cases hi
    | 1, hi => cases hi
    | i + 2, hi =>
      have hx' : (List.replicate 0 Slot.un)[i]? = some (.own b) := hi
      rw [List.getElem?_replicate] at hx'
      split at hx' <;> cases hx'
  · cases hv
    exact hQ H2
end K48

-- part K48c
set_option Elab.async false
set_option linter.all false
set_option maxRecDepth 100000
set_option maxHeartbeats 2000000
namespace K48
open PySem PySem.Spec PyProof.Rows L2 RZ DL
theorem ev_mul {i j : Int} (h : mulO i j) : mulS (.int i) (.int j) = some (.int (i * j)) := by
  show (if mulO i j then some (PyData.int (i * j)) else none) = _
  rw [if_pos h]
theorem ev_minL {ns : List Int} {m : Int} (h : ns.min? = some m) : altN min1L min1T [lI ns] = some (.int m) := by
  unfold altN min1L
  show (match (intsOf (ns.map PyData.int)).bind minI with | some d => some d | none => min1T [lI ns]) = _
  rw [intsOf_map]
  show (match minI ns with | some d => some d | none => min1T [lI ns]) = _
  unfold minI
  rw [h]
  rfl
theorem ev_maxL {ns : List Int} {m : Int} (h : ns.max? = some m) : altN max1L max1T [lI ns] = some (.int m) := by
  unfold altN max1L
  show (match (intsOf (ns.map PyData.int)).bind maxI with | some d => some d | none => max1T [lI ns]) = _
  rw [intsOf_map]
  show (match maxI ns with | some d => some d | none => max1T [lI ns]) = _
  unfold maxI
  rw [h]
  rfl
theorem ev_maxT {ns : List Int} {m : Int} (h : ns.max? = some m) : altN max1L max1T [tI' ns] = some (.int m) := by
  unfold altN max1L max1T
  show (intsOf (ns.map PyData.int)).bind maxI = _
  rw [intsOf_map]
  show maxI ns = _
  unfold maxI
  rw [h]
  rfl
theorem ev_sum (ns : List Int) : altN sumD sumTD [lI ns] = some (.int ns.sum) := by
  unfold altN sumD
  show (match (intsOf (ns.map PyData.int)).map fun ns => PyData.int ns.sum with | some d => some d | none => sumTD [lI ns]) = _
  rw [intsOf_map]
  rfl
theorem ev_all (bs : List Bool) : allD [.list (bs.map PyData.bool)] = some (.bool (bs.all id)) := by
  show (boolsOf (bs.map PyData.bool)).map _ = _
  rw [boolsOf_map]
  rfl
theorem ev_any (bs : List Bool) : anyD [.list (bs.map PyData.bool)] = some (.bool (bs.any id)) := by
  show (boolsOf (bs.map PyData.bool)).map _ = _
  rw [boolsOf_map]
  rfl
/-! ### the plain functions -/
def cst (th : List (Int × Int)) (d : Int) : List Int := th.map fun p => p.1 + p.2 * d
def mn (xs : List Int) : Int := xs.min?.getD 0
theorem mn_spec {xs : List Int} (h : xs ≠ []) : xs.min? = some (mn xs) ∧ mn xs ∈ xs ∧ ∀ y ∈ xs, mn xs ≤ y := by
  unfold mn
  cases z : xs.min? with
  | none => exact absurd (List.min?_eq_none_iff.mp z) h
  | some m =>
    have := List.min?_eq_some_iff.mp z
    exact ⟨rfl, this.1, this.2⟩
theorem mn_eq {xs : List Int} {m : Int} (h : m ∈ xs) (h2 : ∀ y ∈ xs, m ≤ y) : mn xs = m := by
  have ne : xs ≠ [] := fun e => by rw [e] at h; cases h
  obtain ⟨_, a, b⟩ := mn_spec ne
  have := b m h
  have := h2 _ a
  omega
abbrev thD (th : List (Int × Int)) : D := .tuple (th.map pI)
/-- small things -/
structure Sm (th : List (Int × Int)) : Prop where
  ne : th ≠ []
  len : th.length ≤ 1000
  r : ∀ p ∈ th, p.2.natAbs < 2 ^ 40
theorem cst_ne {th : List (Int × Int)} (h : th ≠ []) (d : Int) : cst th d ≠ [] := by
  unfold cst
  simpa using h
theorem cst_len (th : List (Int × Int)) (d : Int) : (cst th d).length = th.length := by
  unfold cst
  simp
def lh (th : List (Int × Int)) (d : Int) : Int := mn (cst th d)
theorem lh_min {th : List (Int × Int)} (h : Sm th) (d : Int) : (cst th d).min? = some (lh th d) := (mn_spec (cst_ne h.ne d)).1
/-- the first, the last of the least -/
def ts (th : List (Int × Int)) (d : Int) : Nat := ((cst th d).findIdx? fun z => z == lh th d).getD 0
theorem ts_some {th : List (Int × Int)} (h : Sm th) (d : Int) : (cst th d).findIdx? (fun z => z == lh th d) = some (ts th d) := by
  unfold ts
  cases z : (cst th d).findIdx? (fun z => z == lh th d) with
  | none =>
    have h1 := List.findIdx?_eq_none_iff.mp z _ (mn_spec (cst_ne h.ne d)).2.1
    simp [lh] at h1
  | some j => rfl
/-- the places of the least -/
def am (th : List (Int × Int)) (d : Int) : List Nat := (List.range th.length).filter fun k => (cst th d)[k]? == some (lh th d)
theorem enumL_ints (xs : List Int) : enumL (xs.map PyData.int) = (List.range xs.length).map fun (k : Nat) => PyData.tuple [.int k, .int (xs.getD k 0)] := by
  refine List.ext_getElem? fun i => ?_
  by_cases hi : i < xs.length
  · rw [enumL_get (x := .int xs[i]) (by rw [List.getElem?_map, List.getElem?_eq_getElem hi]; rfl), List.getElem?_map, List.getElem?_range hi]
    simp [List.getD_eq_getElem?_getD, hi]
  · rw [List.getElem?_eq_none (by rw [enumL_len, List.length_map]; omega), List.getElem?_eq_none (by simp; omega)]
def es (th : List (Int × Int)) (d : Int) : Nat := ((am th d).map fun (k : Nat) => (k : Int)).max?.getD 0 |>.toNat
theorem am_ne {th : List (Int × Int)} (h : Sm th) (d : Int) : am th d ≠ [] := by
  obtain ⟨_, a, _⟩ := mn_spec (cst_ne h.ne d)
  obtain ⟨k, hk⟩ := List.getElem?_of_mem a
  have hl : k < th.length := by
    have := (List.getElem?_eq_some_iff.mp hk).1
    rw [cst_len] at this
    exact this
  refine List.ne_nil_of_mem (a := k) (List.mem_filter.mpr ⟨List.mem_range.mpr hl, ?_⟩)
  rw [hk]
  simp [lh]
theorem es_max {th : List (Int × Int)} (h : Sm th) (d : Int) : ((am th d).map fun (k : Nat) => (k : Int)).max? = some ((es th d : Nat) : Int) := by
  unfold es
  cases z : ((am th d).map fun (k : Nat) => (k : Int)).max? with
  | none =>
    have := List.max?_eq_none_iff.mp z
    exact absurd (by simpa using this) (am_ne h d)
  | some m =>
    have hm := (List.max?_eq_some_iff.mp z).1
    obtain ⟨k, _, rfl⟩ := List.mem_map.mp hm
    simp
theorem E_am {th : List (Int × Int)} (h : Sm th) (d : Int) : (((List.range (cst th d).length).filter fun k => decide ((cst th d).getD k 0 = lh th d)).map fun (k : Nat) => PyData.int (k : Int)) = (am th d).map fun (k : Nat) => PyData.int (k : Int) := by
  unfold am
  rw [cst_len]
  congr 1
  refine List.filter_congr fun k hk => ?_
  have hl : k < (cst th d).length := by
    rw [cst_len]
    exact List.mem_range.mp hk
  rw [List.getD_eq_getElem?_getD, List.getElem?_eq_getElem hl]
  by_cases hh : (cst th d)[k] = lh th d <;> simp [hh]
/-- the price of the last and the rents of all -/
def cbs (th : List (Int × Int)) (st : List Nat) : Int := (match st.getLast? with | some k => (th.getD k (0, 0)).1 | none => 0) + (st.map fun k => (th.getD k (0, 0)).2).sum
abbrev lN (st : List Nat) : D := .list (st.map fun (k : Nat) => PyData.int (k : Int))
theorem lN_lI (st : List Nat) : lN st = lI (st.map fun (k : Nat) => (k : Int)) := by
  unfold lN lI
  rw [List.map_map]
  rfl
theorem atI_nat {α : Type} (xs : List α) (k : Nat) : L2.atI xs (k : Int) = xs[k]? := by
  unfold L2.atI L2.ixN
  by_cases h : k < xs.length
  · rw [if_pos (by omega), if_pos (by omega)]
    simp
  · rw [if_pos (by omega), if_neg (by omega), List.getElem?_eq_none (by omega)]
    rfl
theorem atI_last {α : Type} (xs : List α) : L2.atI xs (-1) = xs.getLast? := by
  unfold L2.atI L2.ixN
  cases xs with
  | nil => rfl
  | cons x xs =>
    rw [if_neg (by omega), if_pos (by simp; omega)]
    have e : ∀ n : Nat, (-1 + ((n : Int) + 1)).toNat = n := fun n => by omega
    simp [List.getLast?_eq_getElem?]
    rw [e, List.getElem?_eq_getElem (by simp)]
theorem ix_at {α : Type} (f : α → D) (xs : List α) (k : Nat) (z : α) (h : k < xs.length) : ixD (.tuple (xs.map f)) (.int (k : Nat)) = some (f (xs.getD k z)) := by
  show L2.atI (xs.map f) (k : Int) = _
  rw [atI_nat, List.getElem?_map, List.getElem?_eq_getElem h, List.getD_eq_getElem?_getD, List.getElem?_eq_getElem h]
  rfl
theorem ix_atL {α : Type} (f : α → D) (xs : List α) (k : Nat) (z : α) (h : k < xs.length) : ixD (.list (xs.map f)) (.int (k : Nat)) = some (f (xs.getD k z)) := ix_at f xs k z h
theorem ev_range1 {n : MV (List D)} {S S1 : Sta} {j : Int} (h : n S = some ([.int j], S1)) (hb : -(2 ^ 62) ≤ j ∧ j < 2 ^ 62) : rangeI1 n S = some ((List.range j.toNat).map fun (k : Nat) => PyData.int (k : Int), S1) := by
  unfold rangeI1
  rw [bnd_eq h]
  show (if -(2 ^ 62) ≤ j ∧ j < 2 ^ 62 then DL.ret (DL.upTo 0 j) else fun _ => none) S1 = _
  rw [if_pos hb]
  show some (DL.upTo 0 j, S1) = _
  unfold DL.upTo
  simp
theorem ev_range2 {n : MV (List D)} {S S1 : Sta} {i j : Int} (h : n S = some ([.int i, .int j], S1)) (hb : (-(2 ^ 62) ≤ i ∧ i < 2 ^ 62) ∧ -(2 ^ 62) ≤ j ∧ j < 2 ^ 62) : rangeI2 n S = some ((List.range (j - i).toNat).map fun (k : Nat) => PyData.int (i + (k : Int)), S1) := by
  unfold rangeI2
  rw [bnd_eq h]
  show (if (-(2 ^ 62) ≤ i ∧ i < 2 ^ 62) ∧ -(2 ^ 62) ≤ j ∧ j < 2 ^ 62 then DL.ret (DL.upTo i j) else fun _ => none) S1 = _
  rw [if_pos hb]
  rfl
/-- the days 1 .. d -/
abbrev dys (d : Nat) : List Int := (List.range d).map fun (k : Nat) => 1 + (k : Int)
theorem ts_lt {th : List (Int × Int)} (h : Sm th) (d : Int) : ts th d < th.length := by
  have := List.findIdx?_eq_some_iff_getElem.mp (ts_some h d)
  obtain ⟨h1, _⟩ := this
  rw [cst_len] at h1
  exact h1
theorem es_mem {th : List (Int × Int)} (h : Sm th) (d : Int) : es th d ∈ am th d := by
  have hm := (List.max?_eq_some_iff.mp (es_max h d)).1
  obtain ⟨k, hk, e⟩ := List.mem_map.mp hm
  have : k = es th d := by omega
  rw [← this]
  exact hk
theorem es_lt {th : List (Int × Int)} (h : Sm th) (d : Int) : es th d < th.length := List.mem_range.mp (List.mem_filter.mp (es_mem h d)).1
/-- a table of rows of n costs -/
structure Tb (rows : List (List Int)) (n : Nat) : Prop where
  ne : rows ≠ []
  len : rows.length ≤ 1100
  wid : ∀ r ∈ rows, r.length = n
  n1 : 1 ≤ n
  n2 : n ≤ 1000
  nn : ∀ r ∈ rows, ∀ x ∈ r, 0 ≤ x ∧ x < 2 ^ 30
abbrev tbD (rows : List (List Int)) : D := .tuple (rows.map tI')
/-- the entry of a row -/
def en (rows : List (List Int)) (k i : Nat) : Int := (rows.getD k []).getD i 0
def lcs (rows : List (List Int)) (n : Nat) : List Int := (List.range n).map fun i => mn (rows.map fun r => r.getD i 0)
theorem lcs_len (rows : List (List Int)) (n : Nat) : (lcs rows n).length = n := by simp [lcs]
theorem lcs_at {rows : List (List Int)} {n i : Nat} (h : i < n) : (lcs rows n).getD i 0 = mn (rows.map fun r => r.getD i 0) := by
  unfold lcs
  rw [List.getD_eq_getElem?_getD, List.getElem?_map, List.getElem?_range h]
  rfl
theorem row_len {rows : List (List Int)} {n k : Nat} (h : Tb rows n) (hk : k < rows.length) : (rows.getD k []).length = n := by
  rw [List.getD_eq_getElem?_getD, List.getElem?_eq_getElem hk]
  exact h.wid _ (List.getElem_mem hk)
theorem row_mem {rows : List (List Int)} {k : Nat} (hk : k < rows.length) : rows.getD k [] ∈ rows := by
  rw [List.getD_eq_getElem?_getD, List.getElem?_eq_getElem hk]
  exact List.getElem_mem hk
theorem E_least_costs {rows : List (List Int)} {n : Nat} (h : Tb rows n) (s : Src) : f_least_costs [.d (tbD rows)] s = some (tI' (lcs rows n), s) := by
  have hpos : 0 < rows.length := List.length_pos_iff.mpr h.ne
  have h2 := h.n2
  have h3 := h.len
  refine e_def (S' := ⟨[.fz (tbD rows), .un, .un], s⟩) (e_ret (e_callN (e_one (d := lI (lcs rows n)) ?_) rfl))
  refine (e_comp (s := s) (env := [.fz (tbD rows), .un, .un]) (List.range n) (fun (k : Nat) => PyData.int (k : Int)) (fun i => .int (mn (rows.map fun r => r.getD i 0))) ?_ rfl (by simp; omega) rfl fun i hi => ⟨[.fz (tbD rows), .un, .fz (.int (i : Nat))], rfl, rfl, ?_⟩).trans ?_
  · refine (ev_range1 (j := (n : Int)) (e_one (e_callN (e_one (e_op2 rfl rfl (ix_at tI' rows 0 [] hpos))) ?_)) (by omega)).trans ?_
    · show some (PyData.int (((rows.getD 0 []).map PyData.int).length : Int)) = _
      rw [List.length_map, row_len h hpos]
    · simp
      rfl
  · have hi' : i < n := List.mem_range.mp hi
    refine e_callN (e_one (d := lI (rows.map fun r => r.getD i 0)) ?_) (ev_minL (mn_spec (by simpa using h.ne)).1)
    refine (e_comp (s := s) (env := [.fz (tbD rows), .un, .fz (.int (i : Nat))]) rows tI' (fun r => .int (r.getD i 0)) (e_seqI rfl rfl) rfl (by omega) rfl fun r hr => ⟨[.fz (tbD rows), .fz (tI' r), .fz (.int (i : Nat))], rfl, rfl, ?_⟩).trans ?_
    · exact e_op2 rfl rfl (ix_at PyData.int r i 0 (by rw [h.wid r hr]; exact hi'))
    · unfold lI
      rw [List.map_map]
      rfl
  · unfold lI lcs
    rw [List.map_map]
    rfl
theorem zipL_ints (xs ys : List Int) : zipL (xs.map PyData.int) (ys.map PyData.int) = (xs.zip ys).map pI := by
  unfold zipL
  induction xs generalizing ys with
  | nil => rfl
  | cons x xs ih =>
    cases ys with
    | nil => rfl
    | cons y ys =>
      simp only [List.map_cons, List.zipWith_cons_cons, List.zip_cons_cons]
      rw [ih ys]
theorem ev_zip {n : MV (List D)} {S S1 : Sta} {xs ys : List Int} (h : n S = some ([tI' xs, tI' ys], S1)) : zipI n S = some ((xs.zip ys).map pI, S1) := by
  unfold zipI
  rw [bnd_eq h]
  show some (zipL _ _, S1) = _
  rw [zipL_ints]
/-- row k is nowhere better than row o -/
def nb (rows : List (List Int)) (k o : Nat) : Bool := ((rows.getD k []).zip (rows.getD o [])).all fun p => decide (p.2 ≤ p.1)
theorem E_nb {rows : List (List Int)} {n : Nat} (h : Tb rows n) {k o : Nat} (hk : k < rows.length) (ho : o < rows.length) (s : Src) : f_is_no_better [.d (tbD rows), .d (.int (k : Nat)), .d (.int (o : Nat))] s = some (.bool (nb rows k o), s) := by
  have hl : ((rows.getD k []).zip (rows.getD o [])).length ≤ 1000000 := by
    rw [List.length_zip, row_len h hk, row_len h ho]
    have := h.n2
    omega
  refine e_def (S' := ⟨[.fz (tbD rows), .fz (.int (k : Nat)), .fz (.int (o : Nat)), .un, .un], s⟩) (e_ret (e_callN (e_one (d := .list ((((rows.getD k []).zip (rows.getD o [])).map fun p => decide (p.2 ≤ p.1)).map PyData.bool)) ?_) ?_))
  · refine (e_comp (s := s) (env := [.fz (tbD rows), .fz (.int (k : Nat)), .fz (.int (o : Nat)), .un, .un]) ((rows.getD k []).zip (rows.getD o [])) pI (fun p => .bool (decide (p.2 ≤ p.1))) ?_ rfl hl rfl fun p hp => ⟨[.fz (tbD rows), .fz (.int (k : Nat)), .fz (.int (o : Nat)), .fz (.int p.1), .fz (.int p.2)], rfl, rfl, ?_⟩).trans ?_
    · exact ev_zip (e_cons (e_op2 rfl rfl (ix_at tI' rows k [] hk)) (e_one (e_op2 rfl rfl (ix_at tI' rows o [] ho))))
    · exact e_op2 rfl rfl rfl
    · rw [List.map_map]
      rfl
  · rw [ev_all]
    unfold nb
    rw [List.all_map]
    rfl
theorem nb_iff {rows : List (List Int)} {n : Nat} (h : Tb rows n) {k o : Nat} (hk : k < rows.length) (ho : o < rows.length) : nb rows k o = true ↔ ∀ i, i < n → en rows o i ≤ en rows k i := by
  unfold nb en
  have h1 := row_len h hk
  have h2 := row_len h ho
  generalize rows.getD k [] = a at *
  generalize rows.getD o [] = b at *
  rw [List.all_eq_true]
  constructor
  · intro q i hi
    have ha : i < a.length := by omega
    have hb : i < b.length := by omega
    have := q (a[i], b[i]) (by
      rw [List.mem_iff_getElem?]
      exact ⟨i, by rw [List.getElem?_zip_eq_some]; exact ⟨List.getElem?_eq_getElem ha, List.getElem?_eq_getElem hb⟩⟩)
    rw [List.getD_eq_getElem?_getD, List.getD_eq_getElem?_getD, List.getElem?_eq_getElem ha, List.getElem?_eq_getElem hb]
    simpa using this
  · rintro q ⟨x, y⟩ hp
    obtain ⟨i, hi⟩ := List.getElem?_of_mem hp
    rw [List.getElem?_zip_eq_some] at hi
    have hl := (List.getElem?_eq_some_iff.mp hi.1).1
    have := q i (by omega)
    rw [List.getD_eq_getElem?_getD, List.getD_eq_getElem?_getD, hi.1, hi.2] at this
    simpa using this
/-! ### share numbers -/
theorem E_share_number {p q : Int} (hp : 0 ≤ p) (hq : 0 < q) (hq2 : q < 2 ^ 30) (s : Src) : ∃ g : Int, 0 < g ∧ g ∣ p ∧ g ∣ q ∧ f_share_number [.d (.int p), .d (.int q)] s = some (pI (p / g, q / g), s) := by
  -- the loop
  have loop : ∀ (n : Nat) (a b : Int), b.toNat ≤ n → 0 ≤ b → 0 ≤ a → (0 < a ∨ 0 < b) → ∃ g : Int, 0 < g ∧ g ∣ a ∧ g ∣ b ∧
      whileS (toB (op2 gtI (vD 3) (cD (.int 0)))) (par2 2 3 (consL (vD 3) (consL (op2 modI (vD 2) (vD 3)) (DL.ret [])))) ⟨[.fz (.int p), .fz (.int q), .fz (.int a), .fz (.int b)], s⟩ = some (.nx, ⟨[.fz (.int p), .fz (.int q), .fz (.int g), .fz (.int 0)], s⟩) := by
    intro n
    induction n with
    | zero =>
      intro a b hb h0 ha hor
      obtain rfl : b = 0 := by omega
      refine ⟨a, by omega, Int.dvd_refl a, Int.dvd_zero a, whileS_end (e_toB (e_op2 rfl rfl ?_))⟩
      rfl
    | succ n ih =>
      intro a b hb h0 ha hor
      by_cases hz : b = 0
      · subst hz
        refine ⟨a, by omega, Int.dvd_refl a, Int.dvd_zero a, whileS_end (e_toB (e_op2 rfl rfl ?_))⟩
        rfl
      · have hbp : 0 < b := by omega
        have hm := fmod_bd (a := a) hbp
        obtain ⟨g, g1, g2, g3, g4⟩ := ih b (a.fmod b) (by omega) hm.1 (by omega) (.inl hbp)
        have hdv : g ∣ a := by
          have e : a = b * a.fdiv b + a.fmod b := (Int.mul_fdiv_add_fmod a b).symm
          rw [e]
          exact Int.dvd_add (Int.dvd_mul_of_dvd_left g2) g3
        refine ⟨g, g1, hdv, g2, whileS_go (S1 := ⟨[.fz (.int p), .fz (.int q), .fz (.int a), .fz (.int b)], s⟩) (S2 := ⟨[.fz (.int p), .fz (.int q), .fz (.int b), .fz (.int (a.fmod b))], s⟩) (e_toB (e_op2 rfl rfl ?_)) ?_ g4⟩
        · show some (PyData.bool (decide (0 < b))) = _
          rw [decide_eq_true hbp]
        · unfold par2
          rw [bnd_eq (e_cons rfl (e_one (e_op2 rfl rfl (z := .int (a.fmod b)) ?_)))]
          · rfl
          · show (if b ≠ 0 then some (PyData.int (a.fmod b)) else none) = _
            rw [if_pos hz]
  obtain ⟨g, g1, g2, g3, g4⟩ := loop q.toNat p q (Nat.le_refl _) (by omega) hp (.inr hq)
  have hgq : g ≤ q := Int.le_of_dvd hq g3
  have hlog : g.natAbs.log2 < 9000 := by
    have h0 : g.natAbs ≠ 0 := by omega
    have := (Nat.log2_lt (k := 30) h0).mpr (by omega)
    omega
  refine ⟨g, g1, g2, g3, e_def (S' := ⟨[.fz (.int p), .fz (.int q), .fz (.int g), .fz (.int 0)], s⟩) (e_seq (S1 := ⟨[.fz (.int p), .fz (.int q), .fz (.int p), .fz (.int q)], s⟩) ?_ (e_seq g4 (e_ret (e_tup (e_cons (e_op2 rfl rfl (z := .int (p / g)) ?_) (e_one (e_op2 rfl rfl (z := .int (q / g)) ?_))) (show 2 ≤ 1000000 by decide)))))⟩
  · unfold par2
    rw [bnd_eq (e_cons (e_callN (e_one rfl) (d := .int p) ?_) (e_one rfl))]
    · rfl
    · show some (PyData.int (if p < 0 then -p else p)) = _
      rw [if_neg (by omega)]
  · show (if 0 < g ∧ g.natAbs.log2 < 9000 then some (PyData.int (p / g)) else none) = _
    rw [if_pos ⟨g1, hlog⟩]
  · show (if 0 < g ∧ g.natAbs.log2 < 9000 then some (PyData.int (q / g)) else none) = _
    rw [if_pos ⟨g1, hlog⟩]
/-- what is small -/
def sml (i : Int) : Prop := 0 ≤ i ∧ i < 2 ^ 40
theorem sml_mul {i j : Int} (h : sml i) : mulO i j := .inl (by unfold sml at h; omega)
theorem E_greater_share {a b x y : Int} (ha : sml a) (hx : sml x) (s : Src) : f_greater_share [.d (pI (a, b)), .d (pI (x, y))] s = some (if a * y < x * b then pI (x, y) else pI (a, b), s) := by
  have e : f_is_less_share [.d (pI (a, b)), .d (pI (x, y))] s = some (.bool (decide (a * y < x * b)), s) :=
    e_def (S' := ⟨[.fz (pI (a, b)), .fz (pI (x, y))], s⟩) (e_ret (e_op2 (e_op2 (e_op2 rfl rfl rfl) (e_op2 rfl rfl rfl) (ev_mul (sml_mul ha))) (e_op2 (e_op2 rfl rfl rfl) (e_op2 rfl rfl rfl) (ev_mul (sml_mul hx))) rfl))
  have e2 : callD f_is_less_share (consA (vD 0) (consA (vD 1) (DL.ret []))) ⟨[.fz (pI (a, b)), .fz (pI (x, y))], s⟩ = some (.bool (decide (a * y < x * b)), ⟨[.fz (pI (a, b)), .fz (pI (x, y))], s⟩) :=
    e_call (S1 := ⟨[.fz (pI (a, b)), .fz (pI (x, y))], s⟩) (as := [.d (pI (a, b)), .d (pI (x, y))]) rfl e
  by_cases h : a * y < x * b
  · rw [if_pos h]
    rw [decide_eq_true h] at e2
    exact e_def (S' := ⟨[.fz (pI (a, b)), .fz (pI (x, y))], s⟩) (e_ret (e_ifDT (e_toB e2) rfl))
  · rw [if_neg h]
    rw [decide_eq_false h] at e2
    exact e_def (S' := ⟨[.fz (pI (a, b)), .fz (pI (x, y))], s⟩) (e_ret (e_ifDF (e_toB e2) rfl))
theorem en_nn {rows : List (List Int)} {n k i : Nat} (h : Tb rows n) (hk : k < rows.length) (hi : i < n) : 0 ≤ en rows k i ∧ en rows k i < 2 ^ 30 := by
  have hl := row_len h hk
  unfold en
  rw [List.getD_eq_getElem?_getD (l := rows.getD k []), List.getElem?_eq_getElem (by omega)]
  exact h.nn _ (row_mem hk) _ (List.getElem_mem (by omega))
/-- the least of the place i -/
def le' (rows : List (List Int)) (i : Nat) : Int := mn (rows.map fun r => r.getD i 0)
theorem le_spec {rows : List (List Int)} {n i : Nat} (h : Tb rows n) (hi : i < n) : (∃ k, k < rows.length ∧ le' rows i = en rows k i) ∧ ∀ k, k < rows.length → le' rows i ≤ en rows k i := by
  have hne : rows.map (fun r => r.getD i 0) ≠ [] := by simpa using h.ne
  obtain ⟨_, a, b⟩ := mn_spec hne
  constructor
  · obtain ⟨r, hr, e⟩ := List.mem_map.mp a
    obtain ⟨k, hk⟩ := List.getElem?_of_mem hr
    have hl := (List.getElem?_eq_some_iff.mp hk).1
    refine ⟨k, hl, ?_⟩
    unfold le' en
    rw [← e, List.getD_eq_getElem?_getD (l := rows), hk]
    rfl
  · intro k hk
    unfold le' en
    exact b _ (List.mem_map.mpr ⟨_, row_mem hk, rfl⟩)
theorem le_bd {rows : List (List Int)} {n i : Nat} (h : Tb rows n) (hi : i < n) : 0 ≤ le' rows i ∧ le' rows i < 2 ^ 30 := by
  obtain ⟨⟨k, hk, e⟩, _⟩ := le_spec h hi
  rw [e]
  exact en_nn h hk hi
theorem lcs_le {rows : List (List Int)} {n i : Nat} (hi : i < n) : (lcs rows n).getD i 0 = le' rows i := lcs_at hi
theorem zip_at {rows : List (List Int)} {n k : Nat} (h : Tb rows n) (hk : k < rows.length) : (rows.getD k []).zip (lcs rows n) = (List.range n).map fun i => (en rows k i, le' rows i) := by
  have hl := row_len h hk
  refine List.ext_getElem? fun i => ?_
  by_cases hi : i < n
  · rw [List.getElem?_map, List.getElem?_range hi]
    refine List.getElem?_zip_eq_some.mpr ⟨?_, ?_⟩
    · show (rows.getD k [])[i]? = some (en rows k i)
      unfold en
      rw [List.getD_eq_getElem?_getD (l := rows.getD k []), List.getElem?_eq_getElem (by omega)]
      rfl
    · show (lcs rows n)[i]? = some (le' rows i)
      rw [← lcs_le hi, List.getD_eq_getElem?_getD, List.getElem?_eq_getElem (by rw [lcs_len]; exact hi)]
      rfl
  · rw [List.getElem?_eq_none (by rw [List.length_zip, lcs_len]; omega), List.getElem?_eq_none (by simp; omega)]
/-! ### way_share -/
structure WS (rows : List (List Int)) (n k i : Nat) (a b : Int) : Prop where
  b0 : 0 < b
  sa : sml a
  sb : sml b
  ok : ∀ j, j < i → en rows k j * b ≤ le' rows j * a ∧ (le' rows j = 0 → en rows k j = 0)
  two : (∀ j, j < n → en rows k j ≤ 2 * le' rows j) → a ≤ 2 * b
theorem ws_step {rows : List (List Int)} {n k i : Nat} {a b g : Int} (h : Tb rows n) (hk : k < rows.length) (hi : i < n) (w : WS rows n k i a b) (hL : 0 < le' rows i) (g0 : 0 < g) (g1 : g ∣ en rows k i) (g2 : g ∣ le' rows i) :
    if a * (le' rows i / g) < en rows k i / g * b then WS rows n k (i + 1) (en rows k i / g) (le' rows i / g) else WS rows n k (i + 1) a b := by
  obtain ⟨r', hr⟩ := g1
  obtain ⟨l', hl⟩ := g2
  have e1 : en rows k i / g = r' := by rw [hr]; exact Int.mul_ediv_cancel_left _ (by omega)
  have e2 : le' rows i / g = l' := by rw [hl]; exact Int.mul_ediv_cancel_left _ (by omega)
  have bd := en_nn h hk hi
  have bd2 := le_bd h hi
  have hl0 : 0 < l' := by
    rw [hl] at hL
    exact Int.pos_of_mul_pos_right hL (by omega) |> fun x => by first | exact x | omega
  have hr0 : 0 ≤ r' := by
    have : 0 ≤ g * r' := by omega
    by_cases hneg : r' < 0
    · have := Int.mul_neg_of_pos_of_neg g0 hneg
      omega
    · omega
  have hrb : r' ≤ g * r' := by
    have := Int.mul_le_mul_of_nonneg_right (show (1 : Int) ≤ g by omega) hr0
    omega
  have hlb : l' ≤ g * l' := by
    have := Int.mul_le_mul_of_nonneg_right (show (1 : Int) ≤ g by omega) (show 0 ≤ l' by omega)
    omega
  rw [e1, e2]
  split
  · rename_i hlt
    refine ⟨hl0, ⟨hr0, by omega⟩, ⟨by omega, by omega⟩, fun j hj => ?_, fun h2 => ?_⟩
    · by_cases hji : j = i
      · subst hji
        rw [hr, hl]
        refine ⟨Int.le_of_eq ?_, fun e => ?_⟩
        · rw [Int.mul_assoc, Int.mul_assoc, Int.mul_comm r' l']
        · exfalso
          have := Int.mul_pos g0 hl0
          omega
      · obtain ⟨o1, o2⟩ := w.ok j (by omega)
        refine ⟨?_, o2⟩
        have hLj := (le_bd h (show j < n by omega)).1
        -- en_j * l' * b ≤ le_j * r' * b
        have s1 : en rows k j * b * l' ≤ le' rows j * a * l' := Int.mul_le_mul_of_nonneg_right o1 (by omega)
        have s2 : le' rows j * (a * l') ≤ le' rows j * (r' * b) := Int.mul_le_mul_of_nonneg_left (Int.le_of_lt hlt) hLj
        refine Int.le_of_mul_le_mul_right (a := b) ?_ w.b0
        have q1 : en rows k j * l' * b = en rows k j * b * l' := by rw [Int.mul_assoc, Int.mul_comm l' b, Int.mul_assoc]
        have q2 : le' rows j * r' * b = le' rows j * (r' * b) := Int.mul_assoc _ _ _
        have q3 : le' rows j * a * l' = le' rows j * (a * l') := Int.mul_assoc _ _ _
        omega
    · have := h2 i hi
      rw [hr, hl] at this
      have q : 2 * (g * l') = g * (2 * l') := by rw [← Int.mul_assoc, Int.mul_comm 2 g, Int.mul_assoc]
      rw [q] at this
      exact Int.le_of_mul_le_mul_left this g0
  · rename_i hge
    refine ⟨w.b0, w.sa, w.sb, fun j hj => ?_, w.two⟩
    by_cases hji : j = i
    · subst hji
      refine ⟨?_, fun e => by omega⟩
      rw [hr, hl]
      have : r' * b ≤ a * l' := by omega
      have := Int.mul_le_mul_of_nonneg_left this (show 0 ≤ g by omega)
      have q1 : g * r' * b = g * (r' * b) := Int.mul_assoc _ _ _
      have q2 : g * l' * a = g * (a * l') := by rw [Int.mul_assoc, Int.mul_comm l' a]
      omega
    · exact w.ok j (by omega)
theorem E_way_share {rows : List (List Int)} {n : Nat} (h : Tb rows n) {k : Nat} (hk : k < rows.length) (s : Src) : ∃ r, f_way_share [.d (tbD rows), .d (.int (k : Nat))] s = some (r, s) ∧
    ((r = .none ∧ ∃ j, j < n ∧ le' rows j = 0 ∧ 0 < en rows k j) ∨ ∃ a b, r = pI (a, b) ∧ WS rows n k n a b) := by
  have hit : zipI (consL (op2 ixD (vD 0) (vD 1)) (consL (callD f_least_costs (consA (vD 0) (DL.ret []))) (DL.ret []))) ⟨[.fz (tbD rows), .fz (.int (k : Nat)), .fz (pI (1, 1)), .un, .un], s⟩ = some (((rows.getD k []).zip (lcs rows n)).map pI, ⟨[.fz (tbD rows), .fz (.int (k : Nat)), .fz (pI (1, 1)), .un, .un], s⟩) :=
    ev_zip (e_cons (e_op2 rfl rfl (ix_at tI' rows k [] hk)) (e_one (e_call (S1 := ⟨[.fz (tbD rows), .fz (.int (k : Nat)), .fz (pI (1, 1)), .un, .un], s⟩) (as := [.d (tbD rows)]) rfl (E_least_costs h s))))
  rw [zip_at h hk, List.map_map] at hit
  have loop := e_forR (p := .tp [.nm 3, .nm 4]) (b := (seqS (ifS (andT (toB (op2 eqD (vD 4) (cD (.int 0)))) (toB (op2 gtI (vD 3) (cD (.int 0))))) (retS (cD .none)) (DL.ret .nx))
    (ifS (toB (op2 gtI (vD 4) (cD (.int 0)))) (asgS 2 (callD f_greater_share (consA (vD 2) (consA (callD f_share_number (consA (vD 3) (consA (vD 4) (DL.ret [])))) (DL.ret []))))) (DL.ret .nx))))
    (fun i S => i ≤ n ∧ ∃ a b x y, S = ⟨[.fz (tbD rows), .fz (.int (k : Nat)), .fz (pI (a, b)), x, y], s⟩ ∧ WS rows n k i a b) (fun d S => d = .none ∧ S.src = s ∧ ∃ j, j < n ∧ le' rows j = 0 ∧ 0 < en rows k j)
    ((List.range n).map fun i => pI (en rows k i, le' rows i)) 0 ⟨[.fz (tbD rows), .fz (.int (k : Nat)), .fz (pI (1, 1)), .un, .un], s⟩ ⟨Nat.zero_le _, 1, 1, .un, .un, rfl, ⟨by decide, by unfold sml; decide, by unfold sml; decide, fun j hj => absurd hj (Nat.not_lt_zero _), fun _ => by decide⟩⟩ ?_
  · obtain ⟨o, S', e1, e2⟩ := loop
    rcases e2 with ⟨rfl, _, a, b, x, y, rfl, w⟩ | ⟨r, rfl, rfl, e3, e4⟩
    · refine ⟨pI (a, b), e_def (S' := ⟨[.fz (tbD rows), .fz (.int (k : Nat)), .fz (pI (a, b)), x, y], s⟩) (e_seq (S1 := ⟨[.fz (tbD rows), .fz (.int (k : Nat)), .fz (pI (1, 1)), .un, .un], s⟩) (e_asg (S1 := ⟨[.fz (tbD rows), .fz (.int (k : Nat)), .un, .un, .un], s⟩) (e_tup (e_cons rfl (e_one rfl)) (by decide))) (e_seq (e_forS hit e1) (e_ret rfl))), .inr ⟨a, b, rfl, ?_⟩⟩
      simpa using w
    · refine ⟨.none, ?_, .inl ⟨rfl, e4⟩⟩
      rw [← e3]
      have := e_def (n := 5) (b := d_way_share) (as := [.d (tbD rows), .d (.int (k : Nat))]) (s := s) (S' := S') (d := .none) (e_seq (S1 := ⟨[.fz (tbD rows), .fz (.int (k : Nat)), .fz (pI (1, 1)), .un, .un], s⟩) (e_asg (S1 := ⟨[.fz (tbD rows), .fz (.int (k : Nat)), .un, .un, .un], s⟩) (e_tup (e_cons rfl (e_one rfl)) (by decide))) (e_seqR (e_forS hit e1)))
      rw [← e3] at this
      rw [e3] at this ⊢
      exact this
  · rintro i d S hi ⟨_, a, b, x, y, rfl, w⟩
    rw [List.getElem?_map] at hi
    by_cases hin : i < n
    · rw [List.getElem?_range hin] at hi
      have hi' : d = pI (en rows k i, le' rows i) := (Option.some.inj hi).symm
      subst hi'
      have hi0 : 0 + i = i := Nat.zero_add i
      rw [hi0] at w ⊢
      have bd := en_nn h hk hin
      have bd2 := le_bd h hin
      generalize hc : en rows k i = cc at *
      generalize hl : le' rows i = ll at *
      refine ⟨[.fz (tbD rows), .fz (.int (k : Nat)), .fz (pI (a, b)), .fz (.int cc), .fz (.int ll)], ?_⟩
      have t1 : toB (op2 eqD (vD 4) (cD (.int 0))) ⟨[.fz (tbD rows), .fz (.int (k : Nat)), .fz (pI (a, b)), .fz (.int cc), .fz (.int ll)], s⟩ = some (decide (ll = 0), ⟨[.fz (tbD rows), .fz (.int (k : Nat)), .fz (pI (a, b)), .fz (.int cc), .fz (.int ll)], s⟩) := e_toB (e_op2 rfl rfl (eq_int _ _))
      have t2 : toB (op2 gtI (vD 3) (cD (.int 0))) ⟨[.fz (tbD rows), .fz (.int (k : Nat)), .fz (pI (a, b)), .fz (.int cc), .fz (.int ll)], s⟩ = some (decide (0 < cc), ⟨[.fz (tbD rows), .fz (.int (k : Nat)), .fz (pI (a, b)), .fz (.int cc), .fz (.int ll)], s⟩) := e_toB (e_op2 rfl rfl rfl)
      have t3 : toB (op2 gtI (vD 4) (cD (.int 0))) ⟨[.fz (tbD rows), .fz (.int (k : Nat)), .fz (pI (a, b)), .fz (.int cc), .fz (.int ll)], s⟩ = some (decide (0 < ll), ⟨[.fz (tbD rows), .fz (.int (k : Nat)), .fz (pI (a, b)), .fz (.int cc), .fz (.int ll)], s⟩) := e_toB (e_op2 rfl rfl rfl)
      by_cases hL : ll = 0
      · rw [decide_eq_true hL] at t1
        by_cases hC : 0 < cc
        · rw [decide_eq_true hC] at t2
          refine ⟨.rt .none, _, rfl, e_seqR (e_ifT (e_and t1 (fun _ => t2) (fun z => nomatch z)) (e_ret rfl)), .inr ⟨.none, rfl, rfl, rfl, i, hin, ?_, ?_⟩⟩
          · rw [hl]
            exact hL
          · rw [hc]
            exact hC
        · rw [decide_eq_false hC] at t2
          rw [decide_eq_false (by omega)] at t3
          refine ⟨.nx, _, rfl, e_seq (e_ifF (e_and t1 (fun _ => t2) (fun z => nomatch z)) rfl) (e_ifF t3 rfl), .inl ⟨rfl, hin, a, b, _, _, rfl, w.b0, w.sa, w.sb, fun j hj => ?_, w.two⟩⟩
          by_cases hji : j = i
          · subst hji
            rw [hc, hl, hL]
            have : cc = 0 := by omega
            rw [this]
            simp
          · exact w.ok j (by omega)
      · rw [decide_eq_false hL] at t1
        rw [decide_eq_true (by omega)] at t3
        obtain ⟨g, g0, g1, g2, ge⟩ := E_share_number (p := cc) (q := ll) bd.1 (by omega) bd2.2 s
        have st := ws_step (g := g) h hk hin w (by rw [hl]; omega) g0 (by rw [hc]; exact g1) (by rw [hl]; exact g2)
        rw [hc, hl] at st
        have hle : cc / g ≤ cc := Int.ediv_le_self _ bd.1
        have hge0 : 0 ≤ cc / g := Int.ediv_nonneg bd.1 (by omega)
        have gr := E_greater_share (a := a) (b := b) (x := cc / g) (y := ll / g) w.sa ⟨hge0, by omega⟩ s
        have ev : callD f_greater_share (consA (vD 2) (consA (callD f_share_number (consA (vD 3) (consA (vD 4) (DL.ret [])))) (DL.ret []))) ⟨[.fz (tbD rows), .fz (.int (k : Nat)), .fz (pI (a, b)), .fz (.int cc), .fz (.int ll)], s⟩ = some (if a * (ll / g) < cc / g * b then pI (cc / g, ll / g) else pI (a, b), ⟨[.fz (tbD rows), .fz (.int (k : Nat)), .fz (pI (a, b)), .fz (.int cc), .fz (.int ll)], s⟩) :=
          e_call (S1 := ⟨[.fz (tbD rows), .fz (.int (k : Nat)), .fz (pI (a, b)), .fz (.int cc), .fz (.int ll)], s⟩) (as := [.d (pI (a, b)), .d (pI (cc / g, ll / g))]) (e_consA rfl (e_consA (xs := []) (e_call (S1 := ⟨[.fz (tbD rows), .fz (.int (k : Nat)), .fz (pI (a, b)), .fz (.int cc), .fz (.int ll)], s⟩) (as := [.d (.int cc), .d (.int ll)]) rfl ge) rfl)) gr
        refine ⟨.nx, _, rfl, e_seq (e_ifF (e_and t1 (fun z => nomatch z) (fun _ => ⟨rfl, rfl⟩)) rfl) (e_ifT t3 (e_asg ev)), .inl ⟨rfl, hin, ?_⟩⟩
        by_cases hlt : a * (ll / g) < cc / g * b
        · rw [if_pos hlt] at st ⊢
          exact ⟨_, _, _, _, rfl, st⟩
        · rw [if_neg hlt] at st ⊢
          exact ⟨_, _, _, _, rfl, st⟩
    · rw [List.getElem?_eq_none (by simp; omega)] at hi
      cases hi
theorem enumL_map {α : Type} (f : α → D) (xs : List α) (z : α) : enumL (xs.map f) = (List.range xs.length).map fun (k : Nat) => PyData.tuple [.int k, f (xs.getD k z)] := by
  refine List.ext_getElem? fun i => ?_
  by_cases hi : i < xs.length
  · rw [enumL_get (x := f xs[i]) (by rw [List.getElem?_map, List.getElem?_eq_getElem hi]; rfl), List.getElem?_map, List.getElem?_range hi]
    simp [List.getD_eq_getElem?_getD, hi]
  · rw [List.getElem?_eq_none (by rw [enumL_len, List.length_map]; omega), List.getElem?_eq_none (by simp; omega)]
/-- where row k costs more than c0 / c1 of the least -/
def ca (rows : List (List Int)) (n k : Nat) (c0 c1 : Int) : List Nat := (List.range n).filter fun i => decide (le' rows i * c0 < en rows k i * c1)
theorem ca_nil {rows : List (List Int)} {n k : Nat} {c0 c1 : Int} : ca rows n k c0 c1 = [] ↔ ∀ i, i < n → en rows k i * c1 ≤ le' rows i * c0 := by
  unfold ca
  rw [List.filter_eq_nil_iff]
  constructor
  · intro h i hi
    have := h i (List.mem_range.mpr hi)
    simp at this
    exact this
  · intro h i hi
    have := h i (List.mem_range.mp hi)
    simp
    exact this
theorem E_cases_above {rows : List (List Int)} {n : Nat} (h : Tb rows n) {k : Nat} (hk : k < rows.length) {c0 c1 : Int} (h0 : sml c0) (h1 : sml c1) (s : Src) : f_cases_above [.d (tbD rows), .d (.int (k : Nat)), .d (pI (c0, c1))] s = some (lN (ca rows n k c0 c1), s) := by
  have h2 := h.n2
  refine e_def (S' := ⟨[.fz (tbD rows), .fz (.int (k : Nat)), .fz (pI (c0, c1)), .un, .un, .un, .un], s⟩) (e_ret ?_)
  refine (e_compIf (s := s) (env := [.fz (tbD rows), .fz (.int (k : Nat)), .fz (pI (c0, c1)), .un, .un, .un, .un]) (List.range n) (fun (i : Nat) => PyData.tuple [.int i, pI (en rows k i, le' rows i)]) (fun i => decide (le' rows i * c0 < en rows k i * c1)) (fun i => .int (i : Nat)) ?_ rfl (by simp; omega) rfl fun i hi => ⟨[.fz (tbD rows), .fz (.int (k : Nat)), .fz (pI (c0, c1)), .un, .fz (.int (i : Nat)), .fz (.int (en rows k i)), .fz (.int (le' rows i))], rfl, rfl, ?_, fun _ => rfl⟩).trans ?_
  · unfold enumZI
    have ez : zipG (consL (op2 ixD (vD 0) (vD 1)) (consL (callD f_least_costs (consA (vD 0) (DL.ret []))) (DL.ret []))) ⟨[.fz (tbD rows), .fz (.int (k : Nat)), .fz (pI (c0, c1)), .un, .un, .un, .un], s⟩ = some (((rows.getD k []).zip (lcs rows n)).map pI, ⟨[.fz (tbD rows), .fz (.int (k : Nat)), .fz (pI (c0, c1)), .un, .un, .un, .un], s⟩) := by
      unfold zipG
      rw [bnd_eq (e_cons (e_op2 rfl rfl (ix_at tI' rows k [] hk)) (e_one (e_call (S1 := ⟨[.fz (tbD rows), .fz (.int (k : Nat)), .fz (pI (c0, c1)), .un, .un, .un, .un], s⟩) (as := [.d (tbD rows)]) rfl (E_least_costs h s))))]
      show some (zipL ((rows.getD k []).map PyData.int) ((lcs rows n).map PyData.int), _) = _
      rw [zipL_ints]
    show bnd (zipG _) _ ⟨[.fz (tbD rows), .fz (.int (k : Nat)), .fz (pI (c0, c1)), .un, .un, .un, .un], s⟩ = _
    rw [bnd_eq ez]
    show (if 3 < 7 then some (enumL (((rows.getD k []).zip (lcs rows n)).map pI), (⟨[.fz (tbD rows), .fz (.int (k : Nat)), .fz (pI (c0, c1)), .un, .un, .un, .un], s⟩ : Sta)) else none) = _
    rw [if_pos (by decide), enumL_map pI _ (0, 0), zip_at h hk]
    congr 2
    rw [List.length_map, List.length_range]
    refine List.map_congr_left fun i hi => ?_
    have hi' := List.mem_range.mp hi
    rw [List.getD_eq_getElem?_getD, List.getElem?_map, List.getElem?_range hi']
    rfl
  · have hi' := List.mem_range.mp hi
    exact e_toB (e_op2 (e_op2 rfl (e_op2 rfl rfl rfl) (ev_mul (.inr (by unfold sml at h1; omega)))) (e_op2 rfl (e_op2 rfl rfl rfl) (ev_mul (.inr (by unfold sml at h0; omega)))) rfl)
  · rfl
theorem E_share_paper {rows : List (List Int)} {n : Nat} (h : Tb rows n) {c0 c1 : Int} (h0 : sml c0) (h1 : sml c1) (hg : ∃ k, k < rows.length ∧ ca rows n k c0 c1 = []) (s : Src) : ∃ g : Int, f_share_paper [.d (tbD rows), .d (pI (c0, c1))] s = some (.tuple [.str "way", .int g], s) := by
  have h3 := h.len
  have hrows : (compD [4] (rangeI1 (consL (callN lenD (consL (vD 0) (DL.ret []))) (DL.ret []))) (.nm 4) (DL.ret true) (callD f_cases_above (consA (vD 0) (consA (vD 4) (consA (vD 1) (DL.ret [])))))) ⟨[.fz (tbD rows), .fz (pI (c0, c1)), .un, .un, .un, .un], s⟩ = some (.list ((List.range rows.length).map fun k => lN (ca rows n k c0 c1)), ⟨[.fz (tbD rows), .fz (pI (c0, c1)), .un, .un, .un, .un], s⟩) := by
    refine e_comp (s := s) (env := [.fz (tbD rows), .fz (pI (c0, c1)), .un, .un, .un, .un]) (List.range rows.length) (fun (k : Nat) => PyData.int (k : Int)) (fun k => lN (ca rows n k c0 c1)) ?_ rfl (by simp; omega) rfl fun k hk => ⟨[.fz (tbD rows), .fz (pI (c0, c1)), .un, .un, .fz (.int (k : Nat)), .un], rfl, rfl, ?_⟩
    · refine (ev_range1 (j := (rows.length : Int)) (e_one (e_callN (e_one rfl) ?_)) (by omega)).trans ?_
      · show some (PyData.int ((rows.map tI').length : Int)) = _
        rw [List.length_map]
      · simp
    · exact e_call (S1 := ⟨[.fz (tbD rows), .fz (pI (c0, c1)), .un, .un, .fz (.int (k : Nat)), .un], s⟩) (as := [.d (tbD rows), .d (.int (k : Nat)), .d (pI (c0, c1))]) rfl (E_cases_above h (List.mem_range.mp hk) h0 h1 s)
  generalize hR : ((List.range rows.length).map fun k => lN (ca rows n k c0 c1)) = R at hrows
  have hen : enumL R = (List.range rows.length).map fun (k : Nat) => PyData.tuple [.int k, lN (ca rows n k c0 c1)] := by
    rw [← hR, enumL_map (fun k => lN (ca rows n k c0 c1)) _ 0, List.length_range]
    refine List.map_congr_left fun i hi => ?_
    have hi' := List.mem_range.mp hi
    rw [List.getD_eq_getElem?_getD, List.getElem?_range hi']
    rfl
  have hgood : (compD [4, 5] (enumI (consL (vD 2) (DL.ret []))) (.tp [.nm 4, .nm 5]) (toB (op2 eqD (vD 5) (lstD (DL.ret [])))) (vD 4)) ⟨[.fz (tbD rows), .fz (pI (c0, c1)), .own R, .un, .un, .un], s⟩ = some (lN ((List.range rows.length).filter fun k => decide (ca rows n k c0 c1 = [])), ⟨[.fz (tbD rows), .fz (pI (c0, c1)), .fz (.list R), .un, .un, .un], s⟩) := by
    refine (e_compIf (s := s) (env := [.fz (tbD rows), .fz (pI (c0, c1)), .fz (.list R), .un, .un, .un]) (List.range rows.length) (fun (k : Nat) => PyData.tuple [.int k, lN (ca rows n k c0 c1)]) (fun k => decide (ca rows n k c0 c1 = [])) (fun k => .int (k : Nat)) ?_ rfl (by simp; omega) rfl fun k hk => ⟨[.fz (tbD rows), .fz (pI (c0, c1)), .fz (.list R), .un, .fz (.int (k : Nat)), .fz (lN (ca rows n k c0 c1))], rfl, rfl, ?_, fun _ => rfl⟩).trans rfl
    · unfold enumI
      rw [bnd_eq (e_one (show vD 2 ⟨[.fz (tbD rows), .fz (pI (c0, c1)), .own R, .un, .un, .un], s⟩ = some (.list R, ⟨[.fz (tbD rows), .fz (pI (c0, c1)), .fz (.list R), .un, .un, .un], s⟩) from rfl))]
      show some (enumL R, _) = _
      rw [hen]
    · refine e_toB (e_op2 rfl (e_lst rfl (by decide)) ?_)
      rw [lN_lI]
      refine (eq_lI _ []).trans ?_
      simp
  obtain ⟨k0, hk0, hc0⟩ := hg
  generalize hG : (List.range rows.length).filter (fun k => decide (ca rows n k c0 c1 = [])) = G at hgood
  have hGne : G ≠ [] := by
    rw [← hG]
    exact List.ne_nil_of_mem (List.mem_filter.mpr ⟨List.mem_range.mpr hk0, by simp [hc0]⟩)
  match G, hGne with
  | g0 :: G', _ =>
    refine ⟨(g0 : Int), e_def (S' := ⟨[.fz (tbD rows), .fz (pI (c0, c1)), .fz (.list R), .fz (lN (g0 :: G')), .un, .un], s⟩) (e_seq (S1 := ⟨[.fz (tbD rows), .fz (pI (c0, c1)), .own R, .un, .un, .un], s⟩) (e_asgN hrows) (e_seq (S1 := ⟨[.fz (tbD rows), .fz (pI (c0, c1)), .fz (.list R), .own ((g0 :: G').map fun (k : Nat) => PyData.int (k : Int)), .un, .un], s⟩) (e_asgN hgood) (e_ret (e_ifDT (S1 := ⟨[.fz (tbD rows), .fz (pI (c0, c1)), .fz (.list R), .fz (lN (g0 :: G')), .un, .un], s⟩) ?_ (e_tup (e_cons rfl (e_one (e_op2 rfl rfl (ix_atL (fun (k : Nat) => PyData.int (k : Int)) (g0 :: G') 0 0 (by simp))))) (show 2 ≤ 1000000 by decide))))))⟩
    refine e_toB (e_op2 (x := lN (g0 :: G')) rfl (e_lst rfl (by decide)) ?_)
    rw [lN_lI]
    refine (ne_lI _ []).trans ?_
    simp
theorem E_is_cost (i : Int) (hi : 0 ≤ i) (s : Src) : f_is_cost [.d (.int i)] s = some (.bool true, s) := by
  have k1 : isiD "int" (.int i) = some (.bool true) := by
    show (kitB "int" "int").map PyData.bool = _
    rw [show kitB "int" "int" = some true from by decide +kernel]
    rfl
  have k2 : isiD "bool" (.int i) = some (.bool false) := by
    show (kitB "int" "bool").map PyData.bool = _
    rw [show kitB "int" "bool" = some false from by decide +kernel]
    rfl
  refine e_def (S' := ⟨[.fz (.int i)], s⟩) (e_ret ?_)
  unfold andV
  rw [bnd_eq (e_toB (e_op1 rfl k1)), if_pos rfl]
  rw [bnd_eq (S1 := ⟨[.fz (.int i)], s⟩) (x := true) ?_, if_pos rfl]
  · refine e_op2 rfl rfl ?_
    show some (PyData.bool (decide (0 ≤ i))) = _
    rw [decide_eq_true hi]
  · refine e_toB ?_
    unfold notV
    rw [bnd_eq (e_toB (e_op1 rfl k2))]
    rfl
theorem eq_way : eqD (.str "way") (.str "way") = some (.bool true) := by
  unfold eqD
  rw [if_pos ⟨by decide +kernel, by decide +kernel⟩]
  congr 2
theorem ne_way : neD (.str "way") (.str "way") = some (.bool false) := by
  unfold neD
  rw [if_pos ⟨by decide +kernel, by decide +kernel⟩]
  congr 2
theorem E_judge_share {rows : List (List Int)} {n : Nat} (h : Tb rows n) {k : Nat} (hk : k < rows.length) {c0 c1 : Int} (h0 : sml c0) (h1 : sml c1) (hc : ca rows n k c0 c1 = []) (s : Src) : f_judge_share [.d (tbD rows), .d (pI (c0, c1)), .d (.tuple [.str "way", .int (k : Nat)])] s = some (.none, s) := by
  have k1 : isiD "tuple" (.tuple [.str "way", .int (k : Nat)]) = some (.bool true) := by
    show (kitB "tuple" "tuple").map PyData.bool = _
    rw [show kitB "tuple" "tuple" = some true from by decide +kernel]
    rfl
  have k2 : isiD "str" (.str "way") = some (.bool true) := by
    show (kitB "str" "str").map PyData.bool = _
    rw [show kitB "str" "str" = some true from by decide +kernel]
    rfl
  have hca := E_cases_above h hk h0 h1 s
  rw [hc] at hca
  generalize hv : PyData.tuple [.str "way", .int (k : Nat)] = v at *
  have i0 : ixD v (.int 0) = some (.str "way") := by rw [← hv]; rfl
  have i1 : ixD v (.int 1) = some (.int (k : Nat)) := by rw [← hv]; rfl
  have hlenv : lenD [v] = some (.int 2) := by rw [← hv]; rfl
  generalize hE : ([.fz (tbD rows), .fz (pI (c0, c1)), .fz v, .un, .un, .un, .un] : List Slot) = env0
  have v2 : vD 2 ⟨env0, s⟩ = some (v, ⟨env0, s⟩) := by rw [← hE]; rfl
  have v0 : vD 0 ⟨env0, s⟩ = some (tbD rows, ⟨env0, s⟩) := by rw [← hE]; rfl
  have v1 : vD 1 ⟨env0, s⟩ = some (pI (c0, c1), ⟨env0, s⟩) := by rw [← hE]; rfl
  have at0 : op2 ixD (vD 2) (cD (.int 0)) ⟨env0, s⟩ = some (.str "way", ⟨env0, s⟩) := e_op2 v2 rfl i0
  have at1 : op2 ixD (vD 2) (cD (.int 1)) ⟨env0, s⟩ = some (.int (k : Nat), ⟨env0, s⟩) := e_op2 v2 rfl i1
  refine e_def (S' := ⟨env0.set 3 (.fz (.list [])), s⟩) ?_
  show d_judge_share ⟨[.fz (tbD rows), .fz (pI (c0, c1)), .fz v, .un, .un, .un, .un], s⟩ = _
  rw [hE]
  refine e_seq (S1 := ⟨env0, s⟩) (e_ifF (S1 := ⟨env0, s⟩) ?_ rfl) (e_seqR (e_ifT (S1 := ⟨env0, s⟩) ?_ ?_))
  · refine e_or (k := false) (e_not (k := true) (e_toB (e_op1 v2 k1))) (fun _ => e_or (k := false) (e_toB (e_op2 (e_callN (e_one v2) hlenv) rfl (ne_int 2 2))) (fun _ => e_not (k := true) (e_toB (e_op1 at0 k2))) (fun z => nomatch z)) (fun z => nomatch z)
  · refine e_and (k := true) (e_toB (e_op2 at0 rfl eq_way)) (fun _ => e_and (k := true) (e_toB (e_call (S1 := ⟨env0, s⟩) (as := [.d (.int (k : Nat))]) (e_consA (xs := []) at1 rfl) (E_is_cost _ (by omega) s))) (fun _ => e_toB (e_op2 at1 (e_callN (e_one v0) (d := .int (rows.length : Nat)) ?_) ?_)) (fun z => nomatch z)) (fun z => nomatch z)
    · show some (PyData.int ((rows.map tI').length : Int)) = _
      rw [List.length_map]
    · show some (PyData.bool (decide ((k : Int) < (rows.length : Int)))) = _
      rw [decide_eq_true (by omega)]
  · refine e_seq (S1 := ⟨env0.set 3 (.fz (.list [])), s⟩) (e_asg (S1 := ⟨env0, s⟩) (d := .list []) ?_) (e_ret (e_ifDF (S1 := ⟨env0.set 3 (.fz (.list [])), s⟩) ?_ rfl))
    · exact e_call (S1 := ⟨env0, s⟩) (as := [.d (tbD rows), .d (.int (k : Nat)), .d (pI (c0, c1))]) (e_consA v0 (e_consA at1 (e_consA (xs := []) v1 rfl))) hca
    · refine e_toB (e_op2 (x := lI []) ?_ (e_lst rfl (by decide)) (ne_lI [] []))
      rw [← hE]
      rfl
/-! ### renting -/
def sD : Option Int → D
  | none => .none
  | some s => .int s
def rcv (b : Int) (s : Option Int) (d : Int) : Int := match s with
  | none => d
  | some s => if d < s then d else s - 1 + b
theorem E_rent_cost (b : Int) (w : Option Int) (d : Int) (s : Src) : f_rent_cost [.d (.int b), .d (sD w), .d (.int d)] s = some (.int (rcv b w d), s) := by
  cases w with
  | none => exact e_def (S' := ⟨[.fz (.int b), .fz .none, .fz (.int d)], s⟩) (e_ret (e_ifDT (S1 := ⟨[.fz (.int b), .fz .none, .fz (.int d)], s⟩) (e_or (k := true) (e_toB (e_op2 rfl rfl rfl)) (fun z => nomatch z) (fun _ => ⟨rfl, rfl⟩)) rfl))
  | some w =>
    unfold rcv
    by_cases h : d < w
    · simp only [if_pos h]
      refine e_def (S' := ⟨[.fz (.int b), .fz (.int w), .fz (.int d)], s⟩) (e_ret (e_ifDT (S1 := ⟨[.fz (.int b), .fz (.int w), .fz (.int d)], s⟩) (e_or (k := false) (e_toB (e_op2 rfl rfl rfl)) (fun _ => e_toB (e_op2 rfl rfl ?_)) (fun z => nomatch z)) rfl))
      show some (PyData.bool (decide (d < w))) = _
      rw [decide_eq_true h]
    · simp only [if_neg h]
      refine e_def (S' := ⟨[.fz (.int b), .fz (.int w), .fz (.int d)], s⟩) (e_ret (e_ifDF (S1 := ⟨[.fz (.int b), .fz (.int w), .fz (.int d)], s⟩) (e_or (k := false) (e_toB (e_op2 rfl rfl rfl)) (fun _ => e_toB (e_op2 rfl rfl ?_)) (fun z => nomatch z)) (e_op2 (e_op2 rfl rfl rfl) rfl rfl)))
      show some (PyData.bool (decide (d < w))) = _
      rw [decide_eq_false h]
def wys (h : Nat) : List (Option Int) := (dys h).map some ++ [none]
def rtb (b : Int) (h : Nat) : List (List Int) := (wys h).map fun w => (dys h).map (rcv b w)
/-! ### kept_ways -/
theorem down_all (m : Nat) : DL.downTo ((m : Int) - 1) (-1) = (List.range m).map fun (i : Nat) => PyData.int ((m : Int) - 1 - (i : Int)) := by
  have e : ((m : Int) - 1 - -1).toNat = m := by omega
  unfold DL.downTo
  rw [e]
  refine List.map_congr_left fun i _ => ?_
  have e2 : (m : Int) - 1 + (i : Int) * -1 = (m : Int) - 1 - (i : Int) := by omega
  rw [e2]
structure KW (rows : List (List Int)) (n : Nat) (i : Nat) (left : List Nat) : Prop where
  ne : left ≠ []
  lt : ∀ l ∈ left, l < rows.length
  nd : left.Nodup
  low : ∀ k, k + i < rows.length → k ∈ left
  dom : ∀ o, o < rows.length → ∃ l ∈ left, ∀ j, j < n → en rows l j ≤ en rows o j
theorem E_kept_ways {rows : List (List Int)} {n : Nat} (h : Tb rows n) (s : Src) : ∃ left : List Nat, f_kept_ways [.d (tbD rows)] s = some (.tuple (left.map fun (k : Nat) => PyData.int (k : Int)), s) ∧ KW rows n rows.length left := by
  have hpos : 0 < rows.length := List.length_pos_iff.mpr h.ne
  have h3 := h.len
  let m := rows.length
  let iN : List Nat → List D := fun l => l.map fun (k : Nat) => PyData.int (k : Int)
  have hlen : ∀ env : List Slot, env[0]? = some (.fz (tbD rows)) → callN lenD (consL (vD 0) (DL.ret [])) ⟨env, s⟩ = some (.int (rows.length : Nat), ⟨env, s⟩) := fun env he => by
    refine e_callN (e_one (d := tbD rows) ?_) ?_
    · unfold vD
      show (match env[0]? with | some (.fz d) => _ | some (.own ds) => _ | _ => _) = _
      rw [he]
    · show some (PyData.int ((rows.map tI').length : Int)) = _
      rw [List.length_map]
  have first : (rngD .list (rgM1 (callN lenD (consL (vD 0) (DL.ret []))))) ⟨[.fz (tbD rows), .un, .un, .un], s⟩ = some (.list (iN (List.range rows.length)), ⟨[.fz (tbD rows), .un, .un, .un], s⟩) := by
    unfold rngD
    have e1 : rgM1 (callN lenD (consL (vD 0) (DL.ret []))) ⟨[.fz (tbD rows), .un, .un, .un], s⟩ = some ((0, (rows.length : Int)), ⟨[.fz (tbD rows), .un, .un, .un], s⟩) := by
      unfold rgM1
      rw [bnd_eq (hlen _ rfl)]
      rfl
    rw [bnd_eq e1]
    have hb : RgB 0 (rows.length : Int) := ⟨by omega, by omega, by omega⟩
    show (if RgB 0 (rows.length : Int) then _ else _ : MV D) _ = _
    rw [if_pos hb]
    show some (PyData.list (DL.upTo 0 (rows.length : Int)), _) = _
    unfold DL.upTo
    simp [iN]
  have hdown := down_all rows.length
  have hit : (rangeI3 (consL (op2 subI (callN lenD (consL (vD 0) (DL.ret []))) (cD (.int 1))) (consL (op1 negD (cD (.int 1))) (consL (op1 negD (cD (.int 1))) (DL.ret []))))) ⟨[.fz (tbD rows), .own (iN (List.range rows.length)), .un, .un], s⟩ = some ((List.range rows.length).map fun (i : Nat) => PyData.int ((rows.length : Int) - 1 - (i : Int)), ⟨[.fz (tbD rows), .own (iN (List.range rows.length)), .un, .un], s⟩) := by
    unfold rangeI3
    rw [bnd_eq (e_cons (e_op2 (hlen _ rfl) rfl rfl) (e_cons rfl (e_one rfl)))]
    show (if (-1 : Int) = -1 ∧ (-(2 ^ 62) ≤ (rows.length : Int) - 1 ∧ (rows.length : Int) - 1 < 2 ^ 62) ∧ -(2 ^ 62) ≤ (-1 : Int) ∧ (-1 : Int) < 2 ^ 62 then DL.ret (DL.downTo ((rows.length : Int) - 1) (-1)) else fun _ => none) _ = _
    rw [if_pos ⟨rfl, ⟨by omega, by omega⟩, by decide, by decide⟩]
    rw [hdown]
    rfl
  have loop := e_for (p := .nm 2) (b := (ifS (peekT 1 (toB (callN anyD (consL (compD [3] (seqI (vD 1)) (.nm 3) (toB (op2 neD (vD 3) (vD 2))) (callD f_is_no_better (consA (vD 0) (consA (vD 2) (consA (vD 3) (DL.ret [])))))) (DL.ret []))))) (remS 1 (vD 2)) (DL.ret .nx)))
    (fun i S => i ≤ rows.length ∧ ∃ left x, S = ⟨[.fz (tbD rows), .own (iN left), x, .un], s⟩ ∧ KW rows n i left ∧ x.isOwn = false)
    ((List.range rows.length).map fun (i : Nat) => PyData.int ((rows.length : Int) - 1 - (i : Int))) 0 ⟨[.fz (tbD rows), .own (iN (List.range rows.length)), .un, .un], s⟩
    ⟨Nat.zero_le _, List.range rows.length, .un, rfl, ⟨by simp; exact h.ne, fun l hl => List.mem_range.mp hl, List.nodup_range, fun k hk => List.mem_range.mpr (by omega), fun o ho => ⟨o, List.mem_range.mpr ho, fun _ _ => Int.le_refl _⟩⟩, rfl⟩ ?_
  · obtain ⟨S', e1, _, left, x, rfl, kw, _⟩ := loop
    have hz : 0 + ((List.range rows.length).map fun (i : Nat) => PyData.int ((rows.length : Int) - 1 - (i : Int))).length = rows.length := by simp
    rw [hz] at kw
    exact ⟨left, e_def (S' := ⟨[.fz (tbD rows), .fz (.list (iN left)), x, .un], s⟩) (e_seq (e_asgN first) (e_seq (e_forS hit e1) (e_ret (e_callN (e_one rfl) rfl)))), kw⟩
  · rintro i d S hi ⟨_, left, x, rfl, kw, hx⟩
    rw [List.getElem?_map] at hi
    by_cases hin : i < rows.length
    · rw [List.getElem?_range hin] at hi
      have hi' : d = PyData.int ((rows.length : Int) - 1 - (i : Int)) := (Option.some.inj hi).symm
      have hkk : ((rows.length : Int) - 1 - (i : Int)) = ((rows.length - 1 - i : Nat) : Int) := by omega
      rw [hkk] at hi'
      subst hi'
      generalize hk : rows.length - 1 - i = k at *
      have hkl : k < rows.length := by omega
      rw [Nat.zero_add] at kw ⊢
      have kin : k ∈ left := kw.low k (by omega)
      refine ⟨[.fz (tbD rows), .own (iN left), .fz (.int (k : Nat)), .un], ?_⟩
      -- the test
      have hcomp : compD [3] (seqI (vD 1)) (.nm 3) (toB (op2 neD (vD 3) (vD 2))) (callD f_is_no_better (consA (vD 0) (consA (vD 2) (consA (vD 3) (DL.ret []))))) ⟨[.fz (tbD rows), .fz (.list (iN left)), .fz (.int (k : Nat)), .un], s⟩ = some (.list (((left.filter fun o => decide (o ≠ k)).map fun o => nb rows k o).map PyData.bool), ⟨[.fz (tbD rows), .fz (.list (iN left)), .fz (.int (k : Nat)), .un], s⟩) := by
        have hll : left.length ≤ 1000000 := by
          have := kw.nd.length_le_of_subset (l₂ := List.range rows.length) fun l hl => List.mem_range.mpr (kw.lt l hl)
          rw [List.length_range] at this
          omega
        refine (e_compIf (s := s) (env := [.fz (tbD rows), .fz (.list (iN left)), .fz (.int (k : Nat)), .un]) left (fun (o : Nat) => PyData.int (o : Int)) (fun o => decide (o ≠ k)) (fun o => .bool (nb rows k o)) (e_seqI rfl rfl) rfl hll rfl fun o ho => ⟨[.fz (tbD rows), .fz (.list (iN left)), .fz (.int (k : Nat)), .fz (.int (o : Nat))], rfl, rfl, ?_, fun _ => ?_⟩).trans ?_
        · refine e_toB (e_op2 rfl rfl ((DL.ne_int _ _).trans ?_))
          by_cases hok : o = k
          · simp [hok]
          · have : (o : Int) ≠ (k : Int) := by omega
            simp [hok, this]
        · exact e_call (S1 := ⟨[.fz (tbD rows), .fz (.list (iN left)), .fz (.int (k : Nat)), .fz (.int (o : Nat))], s⟩) (as := [.d (tbD rows), .d (.int (k : Nat)), .d (.int (o : Nat))]) rfl (E_nb h hkl (kw.lt o ho) s)
        · rw [List.map_map]
          rfl
      have htest : peekT 1 (toB (callN anyD (consL (compD [3] (seqI (vD 1)) (.nm 3) (toB (op2 neD (vD 3) (vD 2))) (callD f_is_no_better (consA (vD 0) (consA (vD 2) (consA (vD 3) (DL.ret [])))))) (DL.ret [])))) ⟨[.fz (tbD rows), .own (iN left), .fz (.int (k : Nat)), .un], s⟩ = some (((left.filter fun o => decide (o ≠ k)).map fun o => nb rows k o).any id, ⟨[.fz (tbD rows), .own (iN left), .fz (.int (k : Nat)), .un], s⟩) :=
        peekT_eq (ds := iN left) rfl (e_toB (e_callN (e_one hcomp) (ev_any _))) rfl
      cases hany : ((left.filter fun o => decide (o ≠ k)).map fun o => nb rows k o).any id with
      | false =>
        rw [hany] at htest
        refine ⟨_, rfl, e_ifF htest rfl, hin, left, _, rfl, ⟨kw.ne, kw.lt, kw.nd, fun j hj => kw.low j (by omega), kw.dom⟩, rfl⟩
      | true =>
        rw [hany] at htest
        obtain ⟨bb, hb1, hb2⟩ := List.any_eq_true.mp hany
        obtain ⟨o, ho, rfl⟩ := List.mem_map.mp hb1
        have ho1 := (List.mem_filter.mp ho).1
        have ho2 : o ≠ k := by
          have := (List.mem_filter.mp ho).2
          simpa using this
        have hnb := (nb_iff h hkl (kw.lt o ho1)).mp hb2
        -- the place of k
        have hfi : ∃ j, (left.map fun (q : Nat) => (q : Int)).findIdx? (fun a => a == ((k : Nat) : Int)) = some j ∧ j < left.length ∧ left[j]? = some k := by
          cases hz : (left.map fun (q : Nat) => (q : Int)).findIdx? (fun a => a == ((k : Nat) : Int)) with
          | none =>
            have := List.findIdx?_eq_none_iff.mp hz ((k : Nat) : Int) (List.mem_map.mpr ⟨k, kin, rfl⟩)
            simp at this
          | some j =>
            obtain ⟨q1, q2, _⟩ := List.findIdx?_eq_some_iff_getElem.mp hz
            have hl2 : j < left.length := by simpa using q1
            refine ⟨j, rfl, hl2, ?_⟩
            rw [List.getElem?_eq_getElem hl2]
            simp at q2
            have q3 : left[j] = k := by omega
            rw [q3]
        obtain ⟨j, hj1, hj2, hj3⟩ := hfi
        have hmem : ∀ q, q ∈ left.eraseIdx j ↔ q ∈ left ∧ q ≠ k := by
          intro q
          have hnd := kw.nd
          have hjk : left[j] = k := by
            rw [List.getElem?_eq_getElem hj2] at hj3
            exact Option.some.inj hj3
          rw [List.mem_eraseIdx_iff_getElem]
          constructor
          · rintro ⟨i', hi', hne, rfl⟩
            refine ⟨List.getElem_mem _, fun e => hne ?_⟩
            exact (List.getElem_inj hnd).mp (e.trans hjk.symm)
          · rintro ⟨hq, hqk⟩
            obtain ⟨i', hi', rfl⟩ := List.getElem_of_mem hq
            exact ⟨i', hi', fun e => hqk (by subst e; exact hjk), rfl⟩
        have hrem : remS 1 (vD 2) ⟨[.fz (tbD rows), .own (iN left), .fz (.int (k : Nat)), .un], s⟩ = some (.nx, ⟨[.fz (tbD rows), .own (iN (left.eraseIdx j)), .fz (.int (k : Nat)), .un], s⟩) := by
          unfold remS
          show bnd (vD 2) _ _ = _
          rw [bnd_eq (show vD 2 ⟨[.fz (tbD rows), .own (iN left), .fz (.int (k : Nat)), .un], s⟩ = some (.int (k : Nat), ⟨[.fz (tbD rows), .own (iN left), .fz (.int (k : Nat)), .un], s⟩) from rfl)]
          have hints : intsOf (iN left) = some (left.map fun (q : Nat) => (q : Int)) := by
            have : iN left = (left.map fun (q : Nat) => (q : Int)).map PyData.int := by
              rw [List.map_map]
              rfl
            rw [this, intsOf_map]
          show (match intsOf (iN left) with | some ns => (match ns.findIdx? (fun a => a == ((k : Nat) : Int)) with | some j => some (Out.nx, (⟨[.fz (tbD rows), .own ((ns.eraseIdx j).map PyData.int), .fz (.int (k : Nat)), .un], s⟩ : Sta)) | none => none) | none => none) = _
          rw [hints]
          show (match (left.map fun (q : Nat) => (q : Int)).findIdx? (fun a => a == ((k : Nat) : Int)) with | some j => some (Out.nx, (⟨[.fz (tbD rows), .own (((left.map fun (q : Nat) => (q : Int)).eraseIdx j).map PyData.int), .fz (.int (k : Nat)), .un], s⟩ : Sta)) | none => none) = _
          rw [hj1]
          show some (Out.nx, (⟨[.fz (tbD rows), .own (((left.map fun (q : Nat) => (q : Int)).eraseIdx j).map PyData.int), .fz (.int (k : Nat)), .un], s⟩ : Sta)) = _
          rw [map_eraseIx, List.map_map]
          rfl
        refine ⟨_, rfl, e_ifT htest hrem, hin, left.eraseIdx j, _, rfl, ⟨?_, fun l hl => kw.lt l ((hmem l).mp hl).1, kw.nd.eraseIdx j, fun q hq => (hmem q).mpr ⟨kw.low q (by omega), by omega⟩, fun q hq => ?_⟩, rfl⟩
        · exact List.ne_nil_of_mem ((hmem o).mpr ⟨ho1, ho2⟩)
        · obtain ⟨l, hl1, hl2⟩ := kw.dom q hq
          by_cases hlk : l = k
          · subst hlk
            exact ⟨o, (hmem o).mpr ⟨ho1, ho2⟩, fun j' hj' => Int.le_trans (hnb j' hj') (hl2 j' hj')⟩
          · exact ⟨l, (hmem l).mpr ⟨hl1, hlk⟩, hl2⟩
    · rw [List.getElem?_eq_none (by simp; omega)] at hi
      cases hi
end K48

-- part K48d
set_option Elab.async false
set_option linter.all false
set_option maxRecDepth 100000
set_option maxHeartbeats 2000000
namespace K48
open PySem PySem.Spec PyProof.Rows L2 RZ DL
/-! the share p / q in lowest terms -/
def shp (p q : Nat) : Int × Int := (((p / Nat.gcd p q : Nat) : Int), ((q / Nat.gcd p q : Nat) : Int))
theorem loopG {M : MV D} {p q : D} {s : Src} (hM : ∀ a b : Nat, b ≠ 0 → M ⟨[.fz p, .fz q, .fz (.int (a : Int)), .fz (.int (b : Int))], s⟩ = some (.int ((a % b : Nat) : Int), ⟨[.fz p, .fz q, .fz (.int (a : Int)), .fz (.int (b : Int))], s⟩)) : ∀ (n a b : Nat), b ≤ n →
    whileS (toB (op2 gtI (vD 3) (cD (.int 0)))) (par2 2 3 (consL (vD 3) (consL M (DL.ret [])))) ⟨[.fz p, .fz q, .fz (.int (a : Int)), .fz (.int (b : Int))], s⟩ = some (.nx, ⟨[.fz p, .fz q, .fz (.int ((Nat.gcd a b : Nat) : Int)), .fz (.int 0)], s⟩) := by
  intro n
  induction n with
  | zero =>
    intro a b hb
    obtain rfl : b = 0 := by omega
    rw [Nat.gcd_zero_right]
    exact whileS_end (e_toB (e_op2 rfl rfl rfl))
  | succ n ih =>
    intro a b hb
    by_cases hz : b = 0
    · subst hz
      rw [Nat.gcd_zero_right]
      exact whileS_end (e_toB (e_op2 rfl rfl rfl))
    · have hlt : a % b < b := Nat.mod_lt _ (by omega)
      have g := ih b (a % b) (by omega)
      have e : Nat.gcd b (a % b) = Nat.gcd a b := by rw [Nat.gcd_comm b (a % b), ← Nat.gcd_rec, Nat.gcd_comm]
      rw [e] at g
      refine whileS_go (S1 := ⟨[.fz p, .fz q, .fz (.int (a : Int)), .fz (.int (b : Int))], s⟩) (S2 := ⟨[.fz p, .fz q, .fz (.int (b : Int)), .fz (.int ((a % b : Nat) : Int))], s⟩) (e_toB (e_op2 rfl rfl ?_)) ?_ g
      · show some (PyData.bool (decide ((0 : Int) < (b : Int)))) = _
        rw [decide_eq_true (by omega)]
      · unfold par2
        rw [bnd_eq (e_cons rfl (e_one (hM a b hz)))]
        rfl
theorem cut_of {M : MV D} {p q : Nat} {s : Src} (hq : 0 < q) (hq2 : q < 2 ^ 60) (hM : ∀ a b : Nat, b ≠ 0 → M ⟨[.fz (.int (p : Int)), .fz (.int (q : Int)), .fz (.int (a : Int)), .fz (.int (b : Int))], s⟩ = some (.int ((a % b : Nat) : Int), ⟨[.fz (.int (p : Int)), .fz (.int (q : Int)), .fz (.int (a : Int)), .fz (.int (b : Int))], s⟩)) :
    seqS (par2 2 3 (consL (callN absD (consL (vD 0) (DL.ret []))) (consL (vD 1) (DL.ret [])))) (seqS (whileS (toB (op2 gtI (vD 3) (cD (.int 0)))) (par2 2 3 (consL (vD 3) (consL M (DL.ret []))))) (retS (tupD (consL (op2 divI (vD 0) (vD 2)) (consL (op2 divI (vD 1) (vD 2)) (DL.ret []))))))
      ⟨[.fz (.int (p : Int)), .fz (.int (q : Int)), .un, .un], s⟩ = some (.rt (pI (shp p q)), ⟨[.fz (.int (p : Int)), .fz (.int (q : Int)), .fz (.int ((Nat.gcd p q : Nat) : Int)), .fz (.int 0)], s⟩) := by
  have g4 := loopG hM q p q (Nat.le_refl _)
  have gp : 0 < Nat.gcd p q := Nat.gcd_pos_of_pos_right p hq
  have gle : Nat.gcd p q ≤ q := Nat.le_of_dvd hq (Nat.gcd_dvd_right p q)
  have hlog : ((Nat.gcd p q : Nat) : Int).natAbs.log2 < 9000 := by
    have := (Nat.log2_lt (k := 60) (show ((Nat.gcd p q : Nat) : Int).natAbs ≠ 0 by omega)).mpr (by omega)
    omega
  refine e_seq (S1 := ⟨[.fz (.int (p : Int)), .fz (.int (q : Int)), .fz (.int (p : Int)), .fz (.int (q : Int))], s⟩) ?_ (e_seq g4 (e_ret (e_tup (e_cons (e_op2 rfl rfl (z := .int ((p / Nat.gcd p q : Nat) : Int)) ?_) (e_one (e_op2 rfl rfl (z := .int ((q / Nat.gcd p q : Nat) : Int)) ?_))) (show 2 ≤ 1000000 by decide))))
  · unfold par2
    rw [bnd_eq (e_cons (e_callN (e_one rfl) (d := .int (p : Int)) ?_) (e_one rfl))]
    · rfl
    · show some (PyData.int (if (p : Int) < 0 then -(p : Int) else p)) = _
      rw [if_neg (by omega)]
  · show (if (0 : Int) < ((Nat.gcd p q : Nat) : Int) ∧ ((Nat.gcd p q : Nat) : Int).natAbs.log2 < 9000 then some (PyData.int ((p : Int) / ((Nat.gcd p q : Nat) : Int))) else none) = _
    rw [if_pos ⟨by omega, hlog⟩]
    rfl
  · show (if (0 : Int) < ((Nat.gcd p q : Nat) : Int) ∧ ((Nat.gcd p q : Nat) : Int).natAbs.log2 < 9000 then some (PyData.int ((q : Int) / ((Nat.gcd p q : Nat) : Int))) else none) = _
    rw [if_pos ⟨by omega, hlog⟩]
    rfl
theorem mod_nat {a b : Nat} : ((a : Int).fmod (b : Int)) = ((a % b : Nat) : Int) := by
  rw [Int.fmod_eq_emod_of_nonneg _ (by omega)]
  rfl
theorem E_share (p q : Nat) (hq : 0 < q) (hq2 : q < 2 ^ 60) (s : Src) : f_share_number [.d (.int (p : Int)), .d (.int (q : Int))] s = some (pI (shp p q), s) := by
  have h := cut_of (M := op2 modI (vD 2) (vD 3)) (p := p) (s := s) hq hq2 fun a b hb => e_op2 rfl rfl (by
    show (if (b : Int) ≠ 0 then some (PyData.int ((a : Int).fmod b)) else none) = _
    rw [if_pos (by omega), mod_nat])
  exact e_def (n := 4) (b := d_share_number) (as := [.d (.int (p : Int)), .d (.int (q : Int))]) h
theorem E_cut (p q : Nat) (hq : 0 < q) (hq2 : q < 2 ^ 60) (s : Src) : f__law_cut [.d (.int (p : Int)), .d (.int (q : Int))] s = some (pI (shp p q), s) := by
  have h := cut_of (M := op2 modI (callN intD (consL (vD 2) (DL.ret []))) (vD 3)) (p := p) (s := s) hq hq2 fun a b hb => e_op2 (e_callN (e_one rfl) (d := .int (a : Int)) rfl) rfl (by
    show (if (b : Int) ≠ 0 then some (PyData.int ((a : Int).fmod b)) else none) = _
    rw [if_pos (by omega), mod_nat])
  exact e_def (n := 4) (b := d__law_cut) (as := [.d (.int (p : Int)), .d (.int (q : Int))]) h
end K48

-- part K48e
set_option Elab.async false
set_option linter.all false
set_option maxRecDepth 100000
set_option maxHeartbeats 2000000
namespace K48
open PySem PySem.Spec PyProof.Rows L2 RZ DL
/-- the greater of two shares, the first where they are equal -/
def grt (x y : Int × Int) : Int × Int := if x.1 * y.2 < y.1 * x.2 then y else x
theorem E_grt {x y : Int × Int} (hx : sml x.1) (hy : sml y.1) (s : Src) : f_greater_share [.d (pI x), .d (pI y)] s = some (pI (grt x y), s) := by
  have h := E_greater_share (a := x.1) (b := x.2) (x := y.1) (y := y.2) hx hy s
  unfold grt
  by_cases c : x.1 * y.2 < y.1 * x.2
  · rw [if_pos c] at h ⊢
    exact h
  · rw [if_neg c] at h ⊢
    exact h
theorem E_law_before {x y : Int × Int} (hx : sml x.1) (hy : sml y.1) (s : Src) : f__law_before [.d (pI x), .d (pI y)] s = some (.bool (decide (x.1 * y.2 < y.1 * x.2)), s) :=
  e_def (S' := ⟨[.fz (pI x), .fz (pI y)], s⟩) (e_ret (e_op2 (e_op2 (e_op2 rfl rfl rfl) (e_op2 rfl rfl rfl) (ev_mul (sml_mul hx))) (e_op2 (e_op2 rfl rfl rfl) (e_op2 rfl rfl rfl) (ev_mul (sml_mul hy))) rfl))
theorem E_law_grt {x y : Int × Int} (hx : sml x.1) (hy : sml y.1) (s : Src) : f__law_greater [.d (pI x), .d (pI y)] s = some (pI (grt x y), s) := by
  have e2 : callD f__law_before (consA (vD 0) (consA (vD 1) (DL.ret []))) ⟨[.fz (pI x), .fz (pI y)], s⟩ = some (.bool (decide (x.1 * y.2 < y.1 * x.2)), ⟨[.fz (pI x), .fz (pI y)], s⟩) :=
    e_call (S1 := ⟨[.fz (pI x), .fz (pI y)], s⟩) (as := [.d (pI x), .d (pI y)]) rfl (E_law_before hx hy s)
  unfold grt
  by_cases h : x.1 * y.2 < y.1 * x.2
  · rw [if_pos h]
    rw [decide_eq_true h] at e2
    exact e_def (S' := ⟨[.fz (pI x), .fz (pI y)], s⟩) (e_ret (e_ifDT (e_toB e2) rfl))
  · rw [if_neg h]
    rw [decide_eq_false h] at e2
    exact e_def (S' := ⟨[.fz (pI x), .fz (pI y)], s⟩) (e_ret (e_ifDF (e_toB e2) rfl))
theorem shp_sml {p q : Nat} (h : p < 2 ^ 40) : sml (shp p q).1 := by
  have : p / Nat.gcd p q ≤ p := Nat.div_le_self _ _
  show (0 : Int) ≤ ((p / Nat.gcd p q : Nat) : Int) ∧ ((p / Nat.gcd p q : Nat) : Int) < 2 ^ 40
  exact ⟨Int.natCast_nonneg _, by have h3 : p / Nat.gcd p q < 2 ^ 40 := Nat.lt_of_le_of_lt this h; exact_mod_cast h3⟩
end K48

-- part K48f
set_option Elab.async false
set_option linter.all false
set_option maxRecDepth 100000
set_option maxHeartbeats 2000000
namespace K48
open PySem PySem.Spec PyProof.Rows L2 RZ DL
theorem min2_nat (a b : Nat) : min2D [.int (a : Int), .int (b : Int)] = some (.int ((min a b : Nat) : Int)) := by
  show some (PyData.int (if (b : Int) < a then (b : Int) else a)) = _
  by_cases h : b < a
  · rw [if_pos (by omega), Nat.min_eq_right (by omega)]
  · rw [if_neg (by omega), Nat.min_eq_left (by omega)]
theorem max2_nat (a b : Nat) : max2D [.int (a : Int), .int (b : Int)] = some (.int ((max a b : Nat) : Int)) := by
  show some (PyData.int (if (b : Int) > a then (b : Int) else a)) = _
  by_cases h : b > a
  · rw [if_pos (by omega), Nat.max_eq_right (by omega)]
  · rw [if_neg (by omega), Nat.max_eq_left (by omega)]
theorem add1_nat {b k : Nat} (hk : 1 ≤ k) : addA (.int ((k : Int) - 1)) (.int (b : Int)) = some (.int ((k - 1 + b : Nat) : Int)) := by
  show some (PyData.int ((k : Int) - 1 + b)) = _
  congr 2
  omega
theorem E_rent_share (b k : Nat) (hb : 1 ≤ b) (hk : 1 ≤ k) (hb2 : b < 2 ^ 60) (s : Src) : f_rent_share [.d (.int (b : Int)), .d (.int (k : Int))] s = some (pI (shp (k - 1 + b) (min k b)), s) := by
  have hm : 0 < min k b := by omega
  have hm2 : min k b < 2 ^ 60 := by omega
  exact e_def (n := 2) (b := d_rent_share) (as := [.d (.int (b : Int)), .d (.int (k : Int))]) (S' := ⟨[.fz (.int (b : Int)), .fz (.int (k : Int))], s⟩) (e_ret (e_ifDT (e_toB (e_op2 rfl rfl rfl)) (e_call (S1 := ⟨[.fz (.int (b : Int)), .fz (.int (k : Int))], s⟩) (as := [.d (.int ((k - 1 + b : Nat) : Int)), .d (.int ((min k b : Nat) : Int))]) (e_consA (e_op2 (e_op2 rfl rfl rfl) rfl (add1_nat hk)) (e_consA (e_callN (e_cons rfl (e_one rfl)) (min2_nat k b)) rfl)) (E_share _ _ hm hm2 s))))
theorem E_rent_none (b : Int) (s : Src) : f_rent_share [.d (.int b), .d .none] s = some (.none, s) :=
  e_def (n := 2) (b := d_rent_share) (as := [.d (.int b), .d .none]) (S' := ⟨[.fz (.int b), .fz .none], s⟩) (e_ret (e_ifDF (e_toB (e_op2 rfl rfl rfl)) rfl))
end K48

-- part K48g
set_option Elab.async false
set_option linter.all false
set_option maxRecDepth 100000
set_option maxHeartbeats 2000000
namespace K48
open PySem PySem.Spec PyProof.Rows L2 RZ DL
/-- the share where none or too late a day is told -/
def knN (b high : Nat) : Int × Int := grt (1, 1) (shp high b)
def knK (b k low high : Nat) : Int × Int :=
  let f := grt (1, 1) (shp (k - 1 + b) (min b (max low k)))
  if low ≤ k - 1 then grt f (shp (k - 1) b) else f
theorem one_sml : sml ((1, 1) : Int × Int).1 := ⟨by decide, by decide⟩
theorem E_known_none (b low high : Nat) (hb : 1 ≤ b) (hb2 : b < 2 ^ 30) (hh : high < 2 ^ 30) (s : Src) : f_known_share [.d (.int (b : Int)), .d .none, .d (.int (low : Int)), .d (.int (high : Int))] s = some (pI (knN b high), s) := by
  have e1 : callD f_share_number (consA (vD 3) (consA (vD 0) (DL.ret []))) ⟨[.fz (.int (b : Int)), .fz .none, .fz (.int (low : Int)), .fz (.int (high : Int)), .un], s⟩ = some (pI (shp high b), ⟨[.fz (.int (b : Int)), .fz .none, .fz (.int (low : Int)), .fz (.int (high : Int)), .un], s⟩) :=
    e_call (S1 := ⟨[.fz (.int (b : Int)), .fz .none, .fz (.int (low : Int)), .fz (.int (high : Int)), .un], s⟩) (as := [.d (.int (high : Int)), .d (.int (b : Int))]) rfl (E_share high b (by omega) (by omega) s)
  have e2 := e_call (f := f_greater_share) (S1 := ⟨[.fz (.int (b : Int)), .fz .none, .fz (.int (low : Int)), .fz (.int (high : Int)), .un], s⟩) (as := [.d (pI (1, 1)), .d (pI (shp high b))]) (e_consA (m := tupD (consL (cD (.int 1)) (consL (cD (.int 1)) (DL.ret [])))) (e_tup (e_cons rfl (e_one rfl)) (show 2 ≤ 1000000 by decide)) (e_consA (n := DL.ret []) e1 rfl)) (E_grt one_sml (shp_sml (by omega)) s)
  exact e_def (n := 5) (b := d_known_share) (as := [.d (.int (b : Int)), .d .none, .d (.int (low : Int)), .d (.int (high : Int))]) (e_seqR (e_ifT (e_or (k := true) (l := true) (e_toB (e_op2 rfl rfl rfl)) (fun w => by cases w) (fun _ => ⟨rfl, rfl⟩)) (e_ret e2)))
end K48

-- part K48h
set_option Elab.async false
set_option linter.all false
set_option maxRecDepth 100000
set_option maxHeartbeats 2000000
namespace K48
open PySem PySem.Spec PyProof.Rows L2 RZ DL
theorem grt_sml {x y : Int × Int} (hx : sml x.1) (hy : sml y.1) : sml (grt x y).1 := by
  unfold grt
  by_cases c : x.1 * y.2 < y.1 * x.2
  · rw [if_pos c]
    exact hy
  · rw [if_neg c]
    exact hx
theorem E_known_late (b k low high : Nat) (hb : 1 ≤ b) (hb2 : b < 2 ^ 30) (hh : high < 2 ^ 30) (hk : high < k) (s : Src) : f_known_share [.d (.int (b : Int)), .d (.int (k : Int)), .d (.int (low : Int)), .d (.int (high : Int))] s = some (pI (knN b high), s) := by
  have e1 : callD f_share_number (consA (vD 3) (consA (vD 0) (DL.ret []))) ⟨[.fz (.int (b : Int)), .fz (.int (k : Int)), .fz (.int (low : Int)), .fz (.int (high : Int)), .un], s⟩ = some (pI (shp high b), ⟨[.fz (.int (b : Int)), .fz (.int (k : Int)), .fz (.int (low : Int)), .fz (.int (high : Int)), .un], s⟩) :=
    e_call (S1 := ⟨[.fz (.int (b : Int)), .fz (.int (k : Int)), .fz (.int (low : Int)), .fz (.int (high : Int)), .un], s⟩) (as := [.d (.int (high : Int)), .d (.int (b : Int))]) rfl (E_share high b (by omega) (by omega) s)
  have e2 := e_call (f := f_greater_share) (S1 := ⟨[.fz (.int (b : Int)), .fz (.int (k : Int)), .fz (.int (low : Int)), .fz (.int (high : Int)), .un], s⟩) (as := [.d (pI (1, 1)), .d (pI (shp high b))]) (e_consA (m := tupD (consL (cD (.int 1)) (consL (cD (.int 1)) (DL.ret [])))) (e_tup (e_cons rfl (e_one rfl)) (show 2 ≤ 1000000 by decide)) (e_consA (n := DL.ret []) e1 rfl)) (E_grt one_sml (shp_sml (by omega)) s)
  have e0 : op2 gtI (vD 1) (vD 3) ⟨[.fz (.int (b : Int)), .fz (.int (k : Int)), .fz (.int (low : Int)), .fz (.int (high : Int)), .un], s⟩ = some (.bool true, ⟨[.fz (.int (b : Int)), .fz (.int (k : Int)), .fz (.int (low : Int)), .fz (.int (high : Int)), .un], s⟩) := e_op2 rfl rfl (by
    show some (PyData.bool (decide ((high : Int) < (k : Int)))) = _
    rw [decide_eq_true (by omega)])
  exact e_def (n := 5) (b := d_known_share) (as := [.d (.int (b : Int)), .d (.int (k : Int)), .d (.int (low : Int)), .d (.int (high : Int))]) (e_seqR (e_ifT (e_or (k := false) (l := true) (e_toB (e_op2 rfl rfl rfl)) (fun _ => e_toB e0) (fun w => by cases w)) (e_ret e2)))
end K48

-- part K48i
set_option Elab.async false
set_option linter.all false
set_option maxRecDepth 100000
set_option maxHeartbeats 2000000
namespace K48
open PySem PySem.Spec PyProof.Rows L2 RZ DL
abbrev kst (b k low high : Nat) (x : Slot) (s : Src) : Sta := ⟨[.fz (.int (b : Int)), .fz (.int (k : Int)), .fz (.int (low : Int)), .fz (.int (high : Int)), x], s⟩
theorem E_known_some (b k low high : Nat) (hb : 1 ≤ b) (hb2 : b < 2 ^ 30) (hk1 : 1 ≤ k) (hh : high < 2 ^ 30) (hk : k ≤ high) (s : Src) : f_known_share [.d (.int (b : Int)), .d (.int (k : Int)), .d (.int (low : Int)), .d (.int (high : Int))] s = some (pI (knK b k low high), s) := by
  have f0 : ∀ x, op2 gtI (vD 1) (vD 3) (kst b k low high x s) = some (.bool false, kst b k low high x s) := fun x => e_op2 rfl rfl (by
    show some (PyData.bool (decide ((high : Int) < (k : Int)))) = _
    rw [decide_eq_false (by omega)])
  have e1 := e_call (f := f_share_number) (l := consA (op2 addA (op2 subI (vD 1) (cD (.int 1))) (vD 0)) (consA (callN min2D (consL (vD 0) (consL (callN max2D (consL (vD 2) (consL (vD 1) (DL.ret [])))) (DL.ret [])))) (DL.ret []))) (S1 := kst b k low high .un s) (S := kst b k low high .un s)
    (as := [.d (.int ((k - 1 + b : Nat) : Int)), .d (.int ((min b (max low k) : Nat) : Int))]) (e_consA (e_op2 (e_op2 rfl rfl rfl) rfl (add1_nat hk1)) (e_consA (e_callN (e_cons rfl (e_one (e_callN (e_cons rfl (e_one rfl)) (max2_nat low k)))) (min2_nat b (max low k))) rfl)) (E_share _ _ (by omega) (by omega) s)
  have s1 : sml (shp (k - 1 + b) (min b (max low k))).1 := shp_sml (by omega)
  have e2 := e_call (f := f_greater_share) (S1 := kst b k low high .un s) (as := [.d (pI (1, 1)), .d (pI (shp (k - 1 + b) (min b (max low k))))]) (e_consA (m := tupD (consL (cD (.int 1)) (consL (cD (.int 1)) (DL.ret [])))) (e_tup (e_cons rfl (e_one rfl)) (show 2 ≤ 1000000 by decide)) (e_consA (n := DL.ret []) e1 rfl)) (E_grt one_sml s1 s)
  have s2 := grt_sml one_sml s1
  refine e_def (n := 5) (b := d_known_share) (as := [.d (.int (b : Int)), .d (.int (k : Int)), .d (.int (low : Int)), .d (.int (high : Int))]) (S' := kst b k low high (.fz (pI (grt (1, 1) (shp (k - 1 + b) (min b (max low k)))))) s) (e_seq (e_ifF (e_or (k := false) (l := false) (e_toB (e_op2 rfl rfl rfl)) (fun _ => e_toB (f0 .un)) (fun w => by cases w)) rfl) (e_seq (e_asg e2) (e_ret ?_)))
  have g0 : op2 geI (op2 subI (vD 1) (cD (.int 1))) (vD 2) (kst b k low high (.fz (pI (grt (1, 1) (shp (k - 1 + b) (min b (max low k)))))) s) = some (.bool (decide (low ≤ k - 1)), kst b k low high (.fz (pI (grt (1, 1) (shp (k - 1 + b) (min b (max low k)))))) s) := e_op2 (e_op2 rfl rfl rfl) rfl (by
    show some (PyData.bool (decide ((low : Int) ≤ (k : Int) - 1))) = _
    by_cases c : low ≤ k - 1
    · rw [decide_eq_true c, decide_eq_true (by omega)]
    · rw [decide_eq_false c, decide_eq_false (by omega)])
  unfold knK
  by_cases c : low ≤ k - 1
  · rw [decide_eq_true c] at g0
    simp only [if_pos c]
    have e3 := e_call (f := f_share_number) (l := consA (op2 subI (vD 1) (cD (.int 1))) (consA (vD 0) (DL.ret []))) (S1 := kst b k low high (.fz (pI (grt (1, 1) (shp (k - 1 + b) (min b (max low k)))))) s) (S := kst b k low high (.fz (pI (grt (1, 1) (shp (k - 1 + b) (min b (max low k)))))) s) (as := [.d (.int ((k - 1 : Nat) : Int)), .d (.int (b : Int))]) (e_consA (e_op2 rfl rfl (by
      show some (PyData.int ((k : Int) - 1)) = _
      congr 2
      omega)) (e_consA rfl rfl)) (E_share _ _ (by omega) (by omega) s)
    exact e_ifDT (e_toB g0) (e_call (f := f_greater_share) (as := [.d (pI (grt (1, 1) (shp (k - 1 + b) (min b (max low k))))), .d (pI (shp (k - 1) b))]) (e_consA rfl (e_consA (n := DL.ret []) e3 rfl)) (E_grt s2 (shp_sml (by omega)) s))
  · rw [decide_eq_false c] at g0
    simp only [if_neg c]
    exact e_ifDF (e_toB g0) rfl
end K48

-- part K48j
set_option Elab.async false
set_option linter.all false
set_option maxRecDepth 100000
set_option maxHeartbeats 2000000
namespace K48
open PySem PySem.Spec PyProof.Rows L2 RZ DL
theorem E_least_rent_share (b : Nat) (hb : 1 ≤ b) (hb2 : b < 2 ^ 60) (s : Src) : f_least_rent_share [.d (.int (b : Int))] s = some (pI (shp (2 * b - 1) b), s) := by
  have h := E_rent_share b b hb hb hb2 s
  rw [Nat.min_self, show b - 1 + b = 2 * b - 1 by omega] at h
  exact e_def (n := 1) (b := d_least_rent_share) (as := [.d (.int (b : Int))]) (S' := ⟨[.fz (.int (b : Int))], s⟩) (e_ret (e_call (S1 := ⟨[.fz (.int (b : Int))], s⟩) (as := [.d (.int (b : Int)), .d (.int (b : Int))]) rfl h))
end K48

-- part DW
set_option Elab.async false
set_option linter.all false
set_option maxRecDepth 100000
set_option maxHeartbeats 1000000
/-! DW: weakest preconditions of the functions of DL: what is to be shown is printed by simp. Dm keeps simp out of what comes later. -/
namespace DL
open PySem PySem.Spec PyProof.Rows L2 RZ
structure Dm {α : Sort u} (Q : α) : Type where
def WP {α : Type} (m : MV α) (S : Sta) (Q : α → Sta → Prop) (_ : Dm Q := ⟨⟩) : Prop := ∃ x S', m S = some (x, S') ∧ Q x S'
def OP {α : Type} (o : Option α) (Q : α → Prop) (_ : Dm Q := ⟨⟩) : Prop := ∃ x, o = some x ∧ Q x
def CA (f : DF) (as : List Arg) (s : Src) (Q : D → Src → Prop) (_ : Dm Q := ⟨⟩) : Prop := ∃ d s', f as s = some (d, s') ∧ Q d s'
def TB (d : D) (Q : Bool → Prop) (_ : Dm Q := ⟨⟩) : Prop := ∃ b, d = .bool b ∧ Q b
def LSd (d : D) (Q : List D → Prop) (_ : Dm Q := ⟨⟩) : Prop := ∃ b, d = .list b ∧ Q b
def IQ (d : D) (Q : Int → Prop) (_ : Dm Q := ⟨⟩) : Prop := ∃ i, d = .int i ∧ Q i
def L2Q (xs : List D) (Q : D → D → Prop) (_ : Dm Q := ⟨⟩) : Prop := ∃ x y, xs = [x, y] ∧ Q x y
def SQ (o : Out) (A : Prop) (B : Out → Prop) (_ : Dm A := ⟨⟩) (_ : Dm B := ⟨⟩) : Prop := match o with
  | .nx => A
  | o => B o
def RT (o : Out) (Q : D → Prop) (_ : Dm Q := ⟨⟩) : Prop := match o with
  | .rt d => Q d
  | .nx => Q .none
  | _ => False
def LO (o : Out) (A B : Prop) (C : D → Prop) (_ : Dm A := ⟨⟩) (_ : Dm B := ⟨⟩) (_ : Dm C := ⟨⟩) : Prop := match o with
  | .nx => A
  | .ct => A
  | .bk => B
  | .rt d => C d
def VQ (x : Option Slot) (i : Nat) (S : Sta) (Q : D → Sta → Prop) (_ : Dm Q := ⟨⟩) : Prop := match x with
  | some (.fz d) => Q d S
  | some (.own ds) => Q (.list ds) ⟨S.env.set i (.fz (.list ds)), S.src⟩
  | _ => False
def OQ (x : Option Slot) (Q : List D → Prop) (_ : Dm Q := ⟨⟩) : Prop := match x with
  | some (.own ds) => Q ds
  | _ => False
def SrQ (x : Option Slot) (Q : Prop) (_ : Dm Q := ⟨⟩) : Prop := match x with
  | some .src => Q
  | _ => False
theorem fls {B : Prop} (h : ¬ B) : False = B := propext ⟨False.elim, h⟩
section
variable {α β : Type} {S : Sta} {Q Q' : α → Sta → Prop} {P : D → Sta → Prop} {K : D → Prop} {R : Out → Sta → Prop} {PB : Bool → Sta → Prop} {PL : List D → Sta → Prop}
theorem WP_q {m : MV α} (h : ∀ x S1, Q x S1 = Q' x S1) : WP m S Q = WP m S Q' := by
  have : Q = Q' := funext fun x => funext fun S1 => h x S1
  subst this
  rfl
theorem OP_q {o : Option α} {Q Q' : α → Prop} (h : ∀ x, Q x = Q' x) : OP o Q = OP o Q' := by
  have : Q = Q' := funext fun x => h x
  subst this
  rfl
theorem TB_q {d : D} {Q Q' : Bool → Prop} (h : ∀ x, Q x = Q' x) : TB d Q = TB d Q' := by
  have : Q = Q' := funext fun x => h x
  subst this
  rfl
theorem tb_b (b : Bool) (Q : Bool → Prop) : TB (.bool b) Q = Q b := propext ⟨fun ⟨_, e, q⟩ => by cases e; exact q, fun q => ⟨b, rfl, q⟩⟩
theorem ls_l (b : List D) (Q : List D → Prop) : LSd (.list b) Q = Q b := propext ⟨fun ⟨_, e, q⟩ => by cases e; exact q, fun q => ⟨b, rfl, q⟩⟩
theorem iq_i (i : Int) (Q : Int → Prop) : IQ (.int i) Q = Q i := propext ⟨fun ⟨_, e, q⟩ => by cases e; exact q, fun q => ⟨i, rfl, q⟩⟩
theorem l2_2 (x y : D) (Q : D → D → Prop) : L2Q [x, y] Q = Q x y := propext ⟨fun ⟨_, _, e, q⟩ => by cases e; exact q, fun q => ⟨x, y, rfl, q⟩⟩
theorem op_some (x : α) (Q : α → Prop) : OP (some x) Q = Q x := propext ⟨fun ⟨_, e, q⟩ => by cases e; exact q, fun q => ⟨x, rfl, q⟩⟩
theorem op_no (Q : α → Prop) : OP none Q = False := propext ⟨fun ⟨_, e, q⟩ => (by cases e), fun q => False.elim q⟩
theorem op_map (o : Option α) (g : α → β) (Q : β → Prop) : OP (o.map g) Q = OP o (fun x => Q (g x)) := propext ⟨fun ⟨y, e, q⟩ => by
  cases o with
  | none => cases e
  | some x => cases e; exact ⟨x, rfl, q⟩, fun ⟨x, e, q⟩ => by subst e; exact ⟨g x, rfl, q⟩⟩
theorem op_bind (o : Option α) (g : α → Option β) (Q : β → Prop) : OP (o.bind g) Q = OP o (fun x => OP (g x) Q) := propext ⟨fun ⟨y, e, q⟩ => by
  cases o with
  | none => cases e
  | some x => exact ⟨x, rfl, y, e, q⟩, fun ⟨x, e, y, e2, q⟩ => by subst e; exact ⟨y, e2, q⟩⟩
theorem op_ite {p : Prop} [Decidable p] (x : α) (Q : α → Prop) : OP (if p then some x else none) Q = (p ∧ Q x) := by
  by_cases h : p
  · rw [if_pos h, op_some]
    exact propext ⟨fun q => ⟨h, q⟩, fun q => q.2⟩
  · rw [if_neg h, op_no]
    exact propext ⟨fun q => False.elim q, fun q => h q.1⟩
theorem sq_nx (A : Prop) (B : Out → Prop) : SQ .nx A B = A := rfl
theorem sq_rt (d : D) (A : Prop) (B : Out → Prop) : SQ (.rt d) A B = B (.rt d) := rfl
theorem sq_bk (A : Prop) (B : Out → Prop) : SQ .bk A B = B .bk := rfl
theorem sq_ct (A : Prop) (B : Out → Prop) : SQ .ct A B = B .ct := rfl
theorem rt_rt (d : D) : RT (.rt d) K = K d := rfl
theorem rt_nx : RT .nx K = K .none := rfl
theorem lo_nx (A B : Prop) (C : D → Prop) : LO .nx A B C = A := rfl
theorem lo_ct (A B : Prop) (C : D → Prop) : LO .ct A B C = A := rfl
theorem lo_bk (A B : Prop) (C : D → Prop) : LO .bk A B C = B := rfl
theorem lo_rt (d : D) (A B : Prop) (C : D → Prop) : LO (.rt d) A B C = C d := rfl
theorem vq_fz (d : D) (i : Nat) : VQ (some (.fz d)) i S P = P d S := rfl
theorem vq_own (ds : List D) (i : Nat) : VQ (some (.own ds)) i S P = P (.list ds) ⟨S.env.set i (.fz (.list ds)), S.src⟩ := rfl
theorem oq_own (ds : List D) (Q : List D → Prop) : OQ (some (.own ds)) Q = Q ds := rfl
theorem sr_src (Q : Prop) : SrQ (some .src) Q = Q := rfl
theorem wp_bnd (m : MV α) (k : α → MV β) (Q : β → Sta → Prop) : WP (bnd m k) S Q = WP m S fun x S1 => WP (k x) S1 Q := propext ⟨fun ⟨y, S', h, q⟩ => by
    obtain ⟨x, S1, h1, h2⟩ := bnd_some h
    exact ⟨x, S1, h1, y, S', h2, q⟩, fun ⟨x, S1, h1, y, S', h2, q⟩ => ⟨y, S', (bnd_eq h1).trans h2, q⟩⟩
theorem wp_ret (x : α) : WP (ret x) S Q = Q x S := propext ⟨fun ⟨y, S', h, q⟩ => by cases h; exact q, fun q => ⟨x, S, rfl, q⟩⟩
theorem wp_opt (o : Option α) : WP (opt o) S Q = OP o fun x => Q x S := propext ⟨fun ⟨y, S', h, q⟩ => by
    obtain ⟨h1, h2⟩ := opt_some h
    subst h2
    exact ⟨y, h1, q⟩, fun ⟨y, h, q⟩ => ⟨y, S, by rw [h]; rfl, q⟩⟩
theorem wp_no : WP (fun _ => none) S Q = False := propext ⟨fun ⟨y, S', h, q⟩ => (by cases h), fun h => False.elim h⟩
theorem wp_ite {p : Prop} [Decidable p] (m n : MV α) : WP (if p then m else n) S Q = ((p → WP m S Q) ∧ (¬ p → WP n S Q)) := by
  by_cases h : p
  · rw [if_pos h]
    exact propext ⟨fun q => ⟨fun _ => q, fun z => absurd h z⟩, fun q => q.1 h⟩
  · rw [if_neg h]
    exact propext ⟨fun q => ⟨fun z => absurd z h, fun _ => q⟩, fun q => q.2 h⟩
theorem wp_iteB {b : Bool} (m n : MV α) : WP (if b = true then m else n) S Q = ((b = true → WP m S Q) ∧ (b = false → WP n S Q)) := by
  rw [wp_ite]
  cases b <;> simp
theorem wp_cD (d : D) : WP (cD d) S P = P d S := wp_ret d
theorem wp_vD (i : Nat) : WP (vD i) S P = VQ S.env[i]? i S P := by
  cases h : S.env[i]? with
  | none => exact propext ⟨fun ⟨y, S', e, q⟩ => (by unfold vD at e; simp only [h] at e; cases e), fun z => False.elim z⟩
  | some x =>
    cases x with
    | fz d =>
      have e : vD i S = some (d, S) := by unfold vD; simp only [h]
      exact propext ⟨fun ⟨y, S', e2, q⟩ => (by rw [e] at e2; cases e2; exact q), fun q => ⟨_, _, e, q⟩⟩
    | own d =>
      have e : vD i S = some (.list d, { S with env := S.env.set i (.fz (.list d)) }) := by unfold vD; simp only [h]
      exact propext ⟨fun ⟨y, S', e2, q⟩ => (by rw [e] at e2; cases e2; exact q), fun q => ⟨_, _, e, q⟩⟩
    | un => exact propext ⟨fun ⟨y, S', e, q⟩ => (by unfold vD at e; simp only [h] at e; cases e), fun z => False.elim z⟩
    | src => exact propext ⟨fun ⟨y, S', e, q⟩ => (by unfold vD at e; simp only [h] at e; cases e), fun z => False.elim z⟩
theorem wp_op2 (f : D → D → Option D) (m n : MV D) : WP (op2 f m n) S P = WP m S fun x S1 => WP n S1 fun y S2 => OP (f x y) fun z => P z S2 :=
  (wp_bnd _ _ _).trans (WP_q fun _ _ => (wp_bnd _ _ _).trans (WP_q fun _ _ => wp_opt _))
theorem wp_op1 (f : D → Option D) (m : MV D) : WP (op1 f m) S P = WP m S fun x S1 => OP (f x) fun z => P z S1 :=
  (wp_bnd _ _ _).trans (WP_q fun _ _ => wp_opt _)
theorem wp_callN (f : List D → Option D) (m : MV (List D)) : WP (callN f m) S P = WP m S fun x S1 => OP (f x) fun z => P z S1 :=
  (wp_bnd _ _ _).trans (WP_q fun _ _ => wp_opt _)
theorem wp_toB (m : MV D) : WP (toB m) S PB = WP m S fun d S1 => TB d fun b => PB b S1 := by
  refine (wp_bnd _ _ _).trans (WP_q fun d S1 => ?_)
  cases d <;> first | (rw [tb_b]; exact wp_ret _) | (refine (wp_no).trans (fls ?_); rintro ⟨_, e, _⟩; cases e)
theorem wp_andT (m n : MV Bool) : WP (andT m n) S PB = WP m S fun b S1 => (b = true → WP n S1 PB) ∧ (b = false → PB false S1) :=
  (wp_bnd _ _ _).trans (WP_q fun _ _ => (wp_iteB _ _).trans (by rw [wp_ret]))
theorem wp_orT (m n : MV Bool) : WP (orT m n) S PB = WP m S fun b S1 => (b = true → PB true S1) ∧ (b = false → WP n S1 PB) :=
  (wp_bnd _ _ _).trans (WP_q fun _ _ => (wp_iteB _ _).trans (by rw [wp_ret]))
theorem wp_notT (m : MV Bool) : WP (notT m) S PB = WP m S fun b S1 => PB (!b) S1 :=
  (wp_bnd _ _ _).trans (WP_q fun _ _ => wp_ret _)
theorem wp_andV (m n : MV D) : WP (andV m n) S P = WP m S fun d S1 => TB d fun b => (b = true → WP n S1 P) ∧ (b = false → P (.bool false) S1) :=
  (wp_bnd _ _ _).trans ((wp_toB _).trans (WP_q fun _ _ => TB_q fun _ => (wp_iteB _ _).trans (by rw [wp_ret])))
theorem wp_orV (m n : MV D) : WP (orV m n) S P = WP m S fun d S1 => TB d fun b => (b = true → P (.bool true) S1) ∧ (b = false → WP n S1 P) :=
  (wp_bnd _ _ _).trans ((wp_toB _).trans (WP_q fun _ _ => TB_q fun _ => (wp_iteB _ _).trans (by rw [wp_ret])))
theorem wp_notV (m : MV D) : WP (notV m) S P = WP m S fun d S1 => TB d fun b => P (.bool (!b)) S1 :=
  (wp_bnd _ _ _).trans ((wp_toB _).trans (WP_q fun _ _ => TB_q fun _ => wp_ret _))
theorem wp_ifD (t : MV Bool) (m n : MV D) : WP (ifD t m n) S P = WP t S fun b S1 => (b = true → WP m S1 P) ∧ (b = false → WP n S1 P) :=
  (wp_bnd _ _ _).trans (WP_q fun _ _ => (wp_iteB _ _))
theorem wp_chn (f g : D → D → Option D) (m n l : MV D) : WP (chn f g m n l) S P = WP m S fun x S1 => WP n S1 fun y S2 => OP (f x y) fun d => TB d fun b => (b = true → WP l S2 fun z S3 => OP (g y z) fun w => P w S3) ∧ (b = false → P (.bool false) S2) :=
  (wp_bnd _ _ _).trans (WP_q fun _ _ => (wp_bnd _ _ _).trans (WP_q fun _ _ => (wp_bnd _ _ _).trans ((wp_toB _).trans ((wp_opt _).trans (OP_q fun _ => TB_q fun _ => (wp_iteB _ _).trans (by
    rw [wp_ret, wp_bnd]
    rw [WP_q fun _ _ => wp_opt _]))))))
theorem wp_consL (m : MV D) (n : MV (List D)) : WP (consL m n) S PL = WP m S fun x S1 => WP n S1 fun xs S2 => PL (x :: xs) S2 :=
  (wp_bnd _ _ _).trans (WP_q fun _ _ => (wp_bnd _ _ _).trans (WP_q fun _ _ => wp_ret _))
theorem wp_consA (m : MV D) (n : MV (List Arg)) (PA : List Arg → Sta → Prop) : WP (consA m n) S PA = WP m S fun x S1 => WP n S1 fun xs S2 => PA (.d x :: xs) S2 :=
  (wp_bnd _ _ _).trans (WP_q fun _ _ => (wp_bnd _ _ _).trans (WP_q fun _ _ => wp_ret _))
theorem wp_srcA (i : Nat) (n : MV (List Arg)) (PA : List Arg → Sta → Prop) : WP (srcA i n) S PA = SrQ S.env[i]? (WP n S fun xs S2 => PA (.src :: xs) S2) := by
  cases h : S.env[i]? with
  | none => exact propext ⟨fun ⟨a, b, e, q⟩ => (by unfold srcA at e; simp only [h] at e; cases e), fun z => False.elim z⟩
  | some x =>
    cases x with
    | src =>
      have e : (WP (srcA i n) S PA) = WP (bnd n (fun xs => ret (Arg.src :: xs))) S PA := by
        unfold WP srcA
        simp only [h]
      rw [e, sr_src]
      exact (wp_bnd _ _ _).trans (WP_q fun _ _ => wp_ret _)
    | un => exact propext ⟨fun ⟨a, b, e, q⟩ => (by unfold srcA at e; simp only [h] at e; cases e), fun z => False.elim z⟩
    | fz _ => exact propext ⟨fun ⟨a, b, e, q⟩ => (by unfold srcA at e; simp only [h] at e; cases e), fun z => False.elim z⟩
    | own _ => exact propext ⟨fun ⟨a, b, e, q⟩ => (by unfold srcA at e; simp only [h] at e; cases e), fun z => False.elim z⟩
theorem wp_callD (f : DF) (l : MV (List Arg)) : WP (callD f l) S P = WP l S fun as S1 => CA f as S1.src fun d s' => P d ⟨S1.env, s'⟩ := by
  refine (wp_bnd _ _ _).trans (WP_q fun as S1 => ?_)
  refine propext ⟨fun ⟨x, S', h, q⟩ => ?_, fun ⟨d, s', h, q⟩ => ⟨d, _, by simp only [h], q⟩⟩
  cases e : f as S1.src with
  | none => simp only [e] at h; cases h
  | some r =>
    simp only [e] at h
    cases h
    exact ⟨_, _, e, q⟩
theorem wp_sz {c : Prop} [Decidable c] (d : D) : WP (if c then ret d else fun _ => none) S P = (c ∧ P d S) := by
  rw [wp_ite, wp_ret, wp_no]
  exact propext ⟨fun h => by by_cases z : c
                             · exact ⟨z, h.1 z⟩
                             · exact False.elim (h.2 z), fun h => ⟨fun _ => h.2, fun z => z h.1⟩⟩
theorem wp_tupD (n : MV (List D)) : WP (tupD n) S P = WP n S fun xs S1 => xs.length ≤ sizeLine ∧ P (.tuple xs) S1 :=
  (wp_bnd _ _ _).trans (WP_q fun _ _ => wp_sz _)
theorem wp_lstD (n : MV (List D)) : WP (lstD n) S P = WP n S fun xs S1 => xs.length ≤ sizeLine ∧ P (.list xs) S1 :=
  (wp_bnd _ _ _).trans (WP_q fun _ _ => wp_sz _)
theorem wp_someI (m : MV D) (Q : Option Int → Sta → Prop) : WP (someI m) S Q = WP m S fun d S1 => IQ d fun i => Q (some i) S1 := by
  refine (wp_bnd _ _ _).trans (WP_q fun d S1 => ?_)
  cases d <;> first | (rw [iq_i]; exact wp_ret _) | (refine (wp_no).trans (fls ?_); rintro ⟨_, e, _⟩; cases e)
theorem wp_sliceD (m : MV D) (lo hi : MV (Option Int)) : WP (sliceD m lo hi) S P = WP m S fun x S1 => WP lo S1 fun a S2 => WP hi S2 fun b S3 => OP (slD x a b) fun z => P z S3 :=
  (wp_bnd _ _ _).trans (WP_q fun _ _ => (wp_bnd _ _ _).trans (WP_q fun _ _ => (wp_bnd _ _ _).trans (WP_q fun _ _ => wp_opt _)))
theorem wp_rngD (f : List D → D) (m : MV (Int × Int)) : WP (rngD f m) S P = WP m S fun x S1 => RgB x.1 x.2 ∧ P (f (upTo x.1 x.2)) S1 :=
  (wp_bnd _ _ _).trans (WP_q fun _ _ => wp_sz _)
theorem wp_rgM1 (m : MV D) (Q : Int × Int → Sta → Prop) : WP (rgM1 m) S Q = WP m S fun d S1 => IQ d fun i => Q (0, i) S1 := by
  refine (wp_bnd _ _ _).trans (WP_q fun d S1 => ?_)
  cases d <;> first | (rw [iq_i]; exact wp_ret _) | (refine (wp_no).trans (fls ?_); rintro ⟨_, e, _⟩; cases e)
theorem wp_rgM2 (m n : MV D) (Q : Int × Int → Sta → Prop) : WP (rgM2 m n) S Q = WP m S fun d S1 => WP n S1 fun e S2 => IQ d fun i => IQ e fun j => Q (i, j) S2 := by
  refine (wp_bnd _ _ _).trans (WP_q fun d S1 => (wp_bnd _ _ _).trans (WP_q fun e S2 => ?_))
  cases d <;> cases e <;> first | (rw [iq_i, iq_i]; exact wp_ret _) | (refine (wp_no).trans (fls ?_); rintro ⟨_, e, _, e2, _⟩; cases e <;> cases e2)
/-! statements -/
theorem wp_seq (m n : MS) : WP (seqS m n) S R = WP m S fun o S1 => SQ o (WP n S1 R) fun o => R o S1 := by
  refine (wp_bnd _ _ _).trans (WP_q fun o S1 => ?_)
  cases o <;> first | rfl | exact wp_ret _
theorem wp_asg (i : Nat) (m : MV D) : WP (asgS i m) S R = WP m S fun d S1 => R .nx ⟨S1.env.set i (.fz d), S1.src⟩ :=
  (wp_bnd _ _ _).trans (WP_q fun _ _ => propext ⟨fun ⟨x, S', e, q⟩ => by cases e; exact q, fun q => ⟨_, _, rfl, q⟩⟩)
theorem wp_asgN (i : Nat) (m : MV D) : WP (asgN i m) S R = WP m S fun d S1 => LSd d fun ys => R .nx ⟨S1.env.set i (.own ys), S1.src⟩ := by
  refine (wp_bnd _ _ _).trans (WP_q fun d S1 => ?_)
  cases d <;> first | exact (propext ⟨fun ⟨x, S', e, q⟩ => ⟨_, rfl, by cases e; exact q⟩, fun ⟨_, e, q⟩ => ⟨_, _, rfl, by cases e; exact q⟩⟩) | exact (wp_no).trans (fls (by rintro ⟨_, e, _⟩; cases e))
theorem wp_retS (m : MV D) : WP (retS m) S R = WP m S fun d S1 => R (.rt d) S1 :=
  (wp_bnd _ _ _).trans (WP_q fun _ _ => wp_ret _)
theorem wp_dropS (m : MV D) : WP (dropS m) S R = WP m S fun d S1 => R .nx S1 :=
  (wp_bnd _ _ _).trans (WP_q fun _ _ => wp_ret _)
theorem wp_ifS (t : MV Bool) (m n : MS) : WP (ifS t m n) S R = WP t S fun b S1 => (b = true → WP m S1 R) ∧ (b = false → WP n S1 R) :=
  (wp_bnd _ _ _).trans (WP_q fun _ _ => (wp_iteB _ _))
theorem wp_bindS (p : Pat) (d : D) : WP (bindS p d) S R = OP (p.bind d S.env) fun env => R .nx ⟨env, S.src⟩ := by
  unfold bindS WP OP
  refine propext ⟨fun ⟨x, S', h, q⟩ => ?_, fun ⟨e, h, q⟩ => ⟨_, _, by simp only [h], q⟩⟩
  cases e : p.bind d S.env with
  | none => simp only [e] at h; cases h
  | some r =>
    simp only [e] at h
    cases h
    exact ⟨_, rfl, q⟩
theorem wp_unpS (p : Pat) (m : MV D) : WP (unpS p m) S R = WP m S fun d S1 => OP (p.bind d S1.env) fun env => R .nx ⟨env, S1.src⟩ :=
  (wp_bnd _ _ _).trans (WP_q fun _ _ => wp_bindS _ _)
theorem wp_par2 (i j : Nat) (n : MV (List D)) : WP (par2 i j n) S R = WP n S fun xs S1 => L2Q xs fun x y => R .nx ⟨(S1.env.set i (.fz x)).set j (.fz y), S1.src⟩ := by
  refine (wp_bnd _ _ _).trans (WP_q fun xs S1 => ?_)
  match xs with
  | [x, y] => exact (propext ⟨fun ⟨x, S', e, q⟩ => ⟨_, _, rfl, by cases e; exact q⟩, fun ⟨_, _, e, q⟩ => ⟨_, _, rfl, by cases e; exact q⟩⟩)
  | [] => exact (wp_no).trans (fls (by rintro ⟨_, _, e, _⟩; cases e))
  | [_] => exact (wp_no).trans (fls (by rintro ⟨_, _, e, _⟩; cases e))
  | _ :: _ :: _ :: _ => exact (wp_no).trans (fls (by rintro ⟨_, _, e, _⟩; cases e))
theorem wp_parO (i j : Nat) (m : MV D) : WP (parO i j m) S R = WP m S fun x S1 => R .nx ⟨(S1.env.set i (.fz x)).set j (.own []), S1.src⟩ :=
  (wp_bnd _ _ _).trans (WP_q fun _ _ => propext ⟨fun ⟨x, S', e, q⟩ => by cases e; exact q, fun q => ⟨_, _, rfl, q⟩⟩)
theorem wp_appS (i : Nat) (m : MV D) : WP (appS i m) S R = OQ S.env[i]? fun _ => WP m S fun d S1 => OQ S1.env[i]? fun ds => ds.length < sizeLine ∧ R .nx ⟨S1.env.set i (.own (ds ++ [d])), S1.src⟩ := by
  cases h : S.env[i]? with
  | none => exact propext ⟨fun ⟨a, b, e, q⟩ => (by unfold appS at e; simp only [h] at e; cases e), fun z => False.elim z⟩
  | some x =>
    cases x with
    | own ds0 =>
      have e : WP (appS i m) S R = WP (bnd m (fun d => fun S => match S.env[i]? with | some (.own ds) => if ds.length < sizeLine then some (.nx, { S with env := S.env.set i (.own (ds ++ [d])) }) else none | _ => none)) S R := by
        unfold WP appS
        simp only [h]
        all_goals rfl
      rw [e, oq_own]
      refine (wp_bnd _ _ _).trans (WP_q fun d S1 => ?_)
      cases h1 : S1.env[i]? with
      | none => exact propext ⟨fun ⟨a, b, e, q⟩ => (by simp only [h1] at e; cases e), fun z => False.elim z⟩
      | some x1 =>
        cases x1 with
        | own ds =>
          rw [oq_own]
          unfold WP
          simp only [h1]
          by_cases c : ds.length < sizeLine
          · simp only [if_pos c]
            exact propext ⟨fun ⟨x, S', e, q⟩ => ⟨c, by cases e; exact q⟩, fun q => ⟨_, _, rfl, q.2⟩⟩
          · simp only [if_neg c]
            exact propext ⟨fun ⟨x, S', e, q⟩ => (by cases e), fun q => absurd q.1 c⟩
        | un => exact propext ⟨fun ⟨a, b, e, q⟩ => (by simp only [h1] at e; cases e), fun z => False.elim z⟩
        | fz _ => exact propext ⟨fun ⟨a, b, e, q⟩ => (by simp only [h1] at e; cases e), fun z => False.elim z⟩
        | src => exact propext ⟨fun ⟨a, b, e, q⟩ => (by simp only [h1] at e; cases e), fun z => False.elim z⟩
    | un => exact propext ⟨fun ⟨a, b, e, q⟩ => (by unfold appS at e; simp only [h] at e; cases e), fun z => False.elim z⟩
    | fz _ => exact propext ⟨fun ⟨a, b, e, q⟩ => (by unfold appS at e; simp only [h] at e; cases e), fun z => False.elim z⟩
    | src => exact propext ⟨fun ⟨a, b, e, q⟩ => (by unfold appS at e; simp only [h] at e; cases e), fun z => False.elim z⟩
theorem wp_forS (i : MV (List D)) (p : Pat) (b : MS) : WP (forS i p b) S R = WP i S fun ds S1 => WP (forM p b ds) S1 R := wp_bnd _ _ _
theorem wp_forNil (p : Pat) (b : MS) : WP (forM p b []) S R = R .nx S := wp_ret _
theorem wp_forCons (p : Pat) (b : MS) (d : D) (ds : List D) : WP (forM p b (d :: ds)) S R = OP (p.bind d S.env) fun env1 => WP b ⟨env1, S.src⟩ fun o S1 => LO o (WP (forM p b ds) S1 R) (R .nx S1) fun d => R (.rt d) S1 := by
  have key : ∀ env1, WP (bnd b (fun o => match o with | .nx => forM p b ds | .ct => forM p b ds | .bk => ret .nx | .rt d => ret (.rt d))) ⟨env1, S.src⟩ R = WP b ⟨env1, S.src⟩ fun o S1 => LO o (WP (forM p b ds) S1 R) (R .nx S1) fun d => R (.rt d) S1 := fun env1 => by
    refine (wp_bnd _ _ _).trans (WP_q fun o S1 => ?_)
    cases o <;> first | rfl | exact wp_ret _
  refine propext ⟨fun ⟨x, S', h, q⟩ => ?_, fun ⟨env1, h, q⟩ => ?_⟩
  · unfold forM at h
    cases e : p.bind d S.env with
    | none => simp only [e] at h; cases h
    | some env1 =>
      simp only [e] at h
      exact ⟨env1, rfl, Eq.mp (key env1) ⟨x, S', h, q⟩⟩
  · obtain ⟨x, S', h2, q⟩ := Eq.mpr (key env1) q
    refine ⟨x, S', ?_, q⟩
    unfold forM
    simp only [h]
    exact h2
theorem wp_seqI (m : MV D) : WP (seqI m) S PL = WP m S fun d S1 => OP (items d) fun xs => PL xs S1 :=
  (wp_bnd _ _ _).trans (WP_q fun _ _ => wp_opt _)
theorem WP.imp {m : MV α} {Q' : α → Sta → Prop} {d'} (h : WP m S Q') (i : ∀ x S', Q' x S' → Q x S') : WP m S Q d' := by
  obtain ⟨x, S', e, q⟩ := h
  exact ⟨x, S', e, i x S' q⟩
end
theorem CA.imp {f : DF} {as : List Arg} {s : Src} {Q Q' : D → Src → Prop} {d'} (h : CA f as s Q') (i : ∀ d s', Q' d s' → Q d s') : CA f as s Q d' := by
  obtain ⟨x, S', e, q⟩ := h
  exact ⟨x, S', e, i x S' q⟩
theorem ca_of {f : DF} {as : List Arg} {s : Src} {Q : D → Src → Prop} {d : D} {s' : Src} {d'} (h : f as s = some (d, s')) (q : Q d s') : CA f as s Q d' := ⟨d, s', h, q⟩
theorem ca_eq {f : DF} {as : List Arg} {s : Src} {d : D} {s' : Src} (h : CA f as s (fun x t => x = d ∧ t = s')) : f as s = some (d, s') := by
  obtain ⟨x, t, e, rfl, rfl⟩ := h
  exact e
theorem OP.imp {α : Type} {o : Option α} {Q Q' : α → Prop} {d'} (h : OP o Q') (i : ∀ x, Q' x → Q x) : OP o Q d' := by
  obtain ⟨x, e, q⟩ := h
  exact ⟨x, e, i x q⟩
theorem op_of {α : Type} {o : Option α} {x : α} {Q : α → Prop} {d} (h : o = some x) (q : Q x) : OP o Q d := ⟨x, h, q⟩
theorem ca_def (n : Nat) (b : MS) (as : List Arg) (s : Src) (Q : D → Src → Prop) : CA (defM n b) as s Q = WP b ⟨as.map slotOf ++ List.replicate (n - as.length) .un, s⟩ fun o S' => RT o fun d => Q d S'.src := by
  unfold CA WP defM
  refine propext ⟨fun ⟨d, s', h, q⟩ => ?_, fun ⟨o, S', h, q⟩ => ?_⟩
  · split at h
    · next d' S' e => cases h; exact ⟨_, _, e, q⟩
    · next S' e => cases h; exact ⟨_, _, e, q⟩
    · cases h
  · cases o with
    | rt d => exact ⟨d, S'.src, by rw [h], q⟩
    | nx => exact ⟨.none, S'.src, by rw [h], q⟩
    | bk => exact False.elim q
    | ct => exact False.elim q
/-! loops -/
section
variable {S : Sta} {R : Out → Sta → Prop} {p : Pat} {b : MS}
/-- a loop over typed items, by what has been gone through -/
theorem wp_for {α : Type} (e : α → D) (I : List α → Sta → Prop) (xs : List α) (h0 : I [] S)
    (hs : ∀ pre x post S, xs = pre ++ x :: post → I pre S → OP (p.bind (e x) S.env) fun env1 => WP b ⟨env1, S.src⟩ fun o S' => LO o (I (pre ++ [x]) S') (R .nx S') fun d => R (.rt d) S')
    (hn : ∀ S, I xs S → R .nx S) {d} : WP (forM p b (xs.map e)) S R d := by
  have key : ∀ (post pre : List α) (S : Sta), xs = pre ++ post → I pre S → WP (forM p b (post.map e)) S R := by
    intro post
    induction post with
    | nil =>
      intro pre S h i
      rw [List.map_nil, wp_forNil]
      refine hn S ?_
      rw [h, List.append_nil]
      exact i
    | cons x post ih =>
      intro pre S h i
      rw [List.map_cons, wp_forCons]
      refine (hs pre x post S h i).imp fun env1 w => w.imp fun o S' q => ?_
      cases o with
      | nx => exact ih (pre ++ [x]) S' (by rw [h]; simp) q
      | ct => exact ih (pre ++ [x]) S' (by rw [h]; simp) q
      | bk => exact q
      | rt d => exact q
  exact key xs [] S rfl h0
theorem wp_while {t : MV Bool} (I : Nat → Sta → Prop) (n : Nat) (h0 : I n S)
    (hs : ∀ n S, I n S → WP t S fun k S1 => (k = true → WP b S1 fun o S2 => LO o (∃ m, m < n ∧ I m S2) (R .nx S2) fun d => R (.rt d) S2) ∧ (k = false → R .nx S1)) {d} : WP (whileS t b) S R d := by
  have key : ∀ (n : Nat) (S : Sta), I n S → ∃ N r, whileF t b N S = some r ∧ R r.1 r.2 := by
    intro n
    induction n using Nat.strongRecOn with
    | _ n ih =>
      intro S i
      obtain ⟨k, S1, h1, h2, h3⟩ := hs n S i
      cases k with
      | false => exact ⟨1, (.nx, S1), by unfold whileF; rw [bnd_eq h1]; rfl, h3 rfl⟩
      | true =>
        obtain ⟨o, S2, h4, q⟩ := h2 rfl
        cases o with
        | nx =>
          obtain ⟨m, hm, i2⟩ := q
          obtain ⟨N, r, h5, h6⟩ := ih m hm S2 i2
          refine ⟨N + 1, r, ?_, h6⟩
          unfold whileF
          rw [bnd_eq h1, if_pos rfl, bnd_eq h4]
          exact h5
        | ct =>
          obtain ⟨m, hm, i2⟩ := q
          obtain ⟨N, r, h5, h6⟩ := ih m hm S2 i2
          refine ⟨N + 1, r, ?_, h6⟩
          unfold whileF
          rw [bnd_eq h1, if_pos rfl, bnd_eq h4]
          exact h5
        | bk => exact ⟨1, (.nx, S2), by unfold whileF; rw [bnd_eq h1, if_pos rfl, bnd_eq h4]; rfl, q⟩
        | rt d => exact ⟨1, (.rt d, S2), by unfold whileF; rw [bnd_eq h1, if_pos rfl, bnd_eq h4]; rfl, q⟩
  obtain ⟨N, r, h1, h2⟩ := key n S h0
  exact ⟨r.1, r.2, whileS_of h1, h2⟩
end
end DL

-- part DW2
set_option Elab.async false
set_option linter.all false
set_option maxRecDepth 100000
set_option maxHeartbeats 1000000
/-! DW2: the operations, as what is to be shown of them. -/
namespace DL
open PySem PySem.Spec PyProof.Rows L2 RZ
section
variable {S : Sta} {K : D → Prop} {PL : List D → Sta → Prop} {i j : Int}
theorem o_addI : OP (addA (.int i) (.int j)) K = K (.int (i + j)) := op_some _ _
theorem o_addT (xs ys : List D) : OP (addA (.tuple xs) (.tuple ys)) K = (xs.length + ys.length ≤ sizeLine ∧ K (.tuple (xs ++ ys))) := op_ite (p := xs.length + ys.length ≤ sizeLine) _ _
theorem o_addBI : OP (addB (.int i) (.int j)) K = K (.int (i + j)) := op_some _ _
theorem o_addBL (xs ys : List D) : OP (addB (.list xs) (.list ys)) K = (xs.length + ys.length ≤ sizeLine ∧ K (.list (xs ++ ys))) := op_ite (p := xs.length + ys.length ≤ sizeLine) _ _
theorem o_addBT (xs ys : List D) : OP (addB (.tuple xs) (.tuple ys)) K = (xs.length + ys.length ≤ sizeLine ∧ K (.tuple (xs ++ ys))) := by
  have e : addB (.tuple xs) (.tuple ys) = if xs.length + ys.length ≤ sizeLine then some (.tuple (xs ++ ys)) else none := by
    show (match (if xs.length + ys.length ≤ sizeLine then some (PyData.tuple (xs ++ ys)) else none) with | some d => some d | none => none) = _
    split <;> simp_all
  rw [e]
  exact op_ite _ _
theorem o_mulBI : OP (mulB (.int i) (.int j)) K = (mulO i j ∧ K (.int (i * j))) := by
  have e : mulB (.int i) (.int j) = if mulO i j then some (.int (i * j)) else none := by
    show (match (if mulO i j then some (PyData.int (i * j)) else none) with | some d => some d | none => none) = _
    split <;> simp_all
  rw [e]
  exact op_ite _ _
theorem o_mulBL (xs : List D) : OP (mulB (.list xs) (.int j)) K = (((-(2 ^ 62) ≤ j ∧ j < 2 ^ 62) ∧ xs.length * j.toNat ≤ 2 ^ 20) ∧ K (.list (List.replicate j.toNat xs).flatten)) := by
  have e : mulB (.list xs) (.int j) = if (-(2 ^ 62) ≤ j ∧ j < 2 ^ 62) ∧ xs.length * j.toNat ≤ 2 ^ 20 then some (.list (List.replicate j.toNat xs).flatten) else none := by
    show (match (if (-(2 ^ 62) ≤ j ∧ j < 2 ^ 62) ∧ xs.length * j.toNat ≤ 2 ^ 20 then some (PyData.list (List.replicate j.toNat xs).flatten) else none) with | some d => some d | none => none) = _
    split <;> simp_all
  rw [e]
  exact op_ite _ _
theorem o_mulBT {xs : List D} (h1 : xs ≠ []) (h2 : xs.length ≤ 1000) (h3 : 1 ≤ j) (h4 : j ≤ 1000) (q : K (.tuple (List.replicate j.toNat xs).flatten)) {d} : OP (mulB (.tuple xs) (.int j)) K d := by
  refine op_of ?_ q
  show (match (if xs ≠ [] ∧ 2 ≤ j ∧ j ≤ 1000 ∧ xs.length ≤ 1000 then some (PyData.tuple (List.replicate j.toNat xs).flatten) else none) with | some d => some d | none => if j = 1 then some (PyData.tuple xs) else none) = _
  by_cases c : j = 1
  · subst c
    rw [if_neg (by omega)]
    simp
  · rw [if_pos ⟨h1, by omega, h4, h2⟩]
theorem o_sub : OP (subI (.int i) (.int j)) K = K (.int (i - j)) := op_some _ _
theorem o_mul : OP (mulS (.int i) (.int j)) K = (mulO i j ∧ K (.int (i * j))) := op_ite (p := mulO i j) _ _
theorem o_div : OP (divI (.int i) (.int j)) K = ((0 < j ∧ j.natAbs.log2 < 9000) ∧ K (.int (i / j))) := op_ite (p := 0 < j ∧ j.natAbs.log2 < 9000) _ _
theorem o_mod : OP (modI (.int i) (.int j)) K = (j ≠ 0 ∧ K (.int (i.fmod j))) := op_ite (p := j ≠ 0) _ _
theorem o_pow : OP (powI (.int i) (.int j)) K = ((0 ≤ j ∧ j ≤ 1000 ∧ i.natAbs < 2 ^ 64) ∧ K (.int (i ^ j.toNat))) := op_ite (p := 0 ≤ j ∧ j ≤ 1000 ∧ i.natAbs < 2 ^ 64) _ _
theorem o_lt : OP (ltI (.int i) (.int j)) K = K (.bool (decide (i < j))) := op_some _ _
theorem o_le : OP (leI (.int i) (.int j)) K = K (.bool (decide (i ≤ j))) := op_some _ _
theorem o_gt : OP (gtI (.int i) (.int j)) K = K (.bool (decide (j < i))) := op_some _ _
theorem o_ge : OP (geI (.int i) (.int j)) K = K (.bool (decide (j ≤ i))) := op_some _ _
theorem o_neg : OP (negD (.int i)) K = K (.int (-i)) := op_some _ _
theorem o_eqI : OP (eqD (.int i) (.int j)) K = K (.bool (decide (i = j))) := by rw [eq_int]; exact op_some _ _
theorem o_neI : OP (neD (.int i) (.int j)) K = K (.bool (decide (i ≠ j))) := by rw [ne_int]; exact op_some _ _
theorem o_neB (a b : Bool) : OP (neD (.bool a) (.bool b)) K = K (.bool (decide (a ≠ b))) := by rw [ne_bool]; exact op_some _ _
theorem o_isN (d : D) : OP (isD d .none) K = K (.bool (isNone d)) := op_some _ _
theorem o_notIsN (d : D) : OP (notIsD d .none) K = K (.bool (!isNone d)) := op_some _ _
theorem isN_n : isNone .none = true := rfl
theorem isN_i (i : Int) : isNone (.int i) = false := rfl
theorem isN_b (i : Bool) : isNone (.bool i) = false := rfl
theorem isN_t (i : List D) : isNone (.tuple i) = false := rfl
theorem isN_l (i : List D) : isNone (.list i) = false := rfl
theorem isN_s (i : Str) : isNone (.str i) = false := rfl
theorem o_isT (a b : Bool) : OP (isD (.bool a) (.bool b)) K = K (.bool (decide (a = b))) := op_some _ _
theorem o_notIsT (a b : Bool) : OP (notIsD (.bool a) (.bool b)) K = K (.bool (!decide (a = b))) := op_some _ _
theorem o_ixT (xs : List D) : OP (ixD (.tuple xs) (.int i)) K = OP (atI xs i) K := rfl
theorem o_ixL (xs : List D) : OP (ixD (.list xs) (.int i)) K = OP (atI xs i) K := rfl
theorem at_nat {α : Type} (xs : List α) (k : Nat) : L2.atI xs (k : Int) = xs[k]? := by
  unfold L2.atI L2.ixN
  by_cases h : k < xs.length
  · rw [if_pos (by omega), if_pos (by omega)]
    simp
  · rw [if_pos (by omega), if_neg (by omega), List.getElem?_eq_none (by omega)]
    rfl
theorem at_0 {α : Type} (xs : List α) : L2.atI xs 0 = xs[0]? := at_nat xs 0
theorem at_1 {α : Type} (xs : List α) : L2.atI xs 1 = xs[1]? := at_nat xs 1
theorem at_2 {α : Type} (xs : List α) : L2.atI xs 2 = xs[2]? := at_nat xs 2
theorem at_3 {α : Type} (xs : List α) : L2.atI xs 3 = xs[3]? := at_nat xs 3
theorem at_m1 {α : Type} (xs : List α) : L2.atI xs (-1) = xs.getLast? := by
  unfold L2.atI L2.ixN
  cases xs with
  | nil => rfl
  | cons x xs =>
    rw [if_neg (by omega), if_pos (by simp; omega)]
    have e : ∀ n : Nat, (-1 + ((n : Int) + 1)).toNat = n := fun n => by omega
    simp [List.getLast?_eq_getElem?]
    rw [e, List.getElem?_eq_getElem (by simp)]
theorem o_len_l (xs : List D) : OP (lenD [.list xs]) K = K (.int (xs.length : Nat)) := op_some _ _
theorem o_len_t (xs : List D) : OP (lenD [.tuple xs]) K = K (.int (xs.length : Nat)) := op_some _ _
theorem o_abs : OP (absD [.int i]) K = K (.int (if i < 0 then -i else i)) := op_some _ _
theorem o_max2 : OP (max2D [.int i, .int j]) K = K (.int (max i j)) := (op_some _ _).trans (by
  rw [show (if j > i then j else i) = max i j by rw [Int.max_def]; by_cases h : i ≤ j <;> simp [h] <;> omega])
theorem o_min2 : OP (min2D [.int i, .int j]) K = K (.int (min i j)) := (op_some _ _).trans (by
  rw [show (if j < i then j else i) = min i j by rw [Int.min_def]; by_cases h : i ≤ j <;> simp [h] <;> omega])
theorem o_int : OP (intD [.int i]) K = K (.int i) := op_some _ _
theorem o_tup_l (xs : List D) : OP (tupleD [.list xs]) K = K (.tuple xs) := op_some _ _
theorem o_tup_t (xs : List D) : OP (tupleD [.tuple xs]) K = K (.tuple xs) := op_some _ _
theorem o_lst_l (xs : List D) : OP (listD [.list xs]) K = K (.list xs) := op_some _ _
theorem o_lst_t (xs : List D) : OP (listD [.tuple xs]) K = K (.list xs) := op_some _ _
theorem o_items_l (xs : List D) (Q : List D → Prop) : OP (items (.list xs)) Q = Q xs := op_some _ _
theorem o_items_t (xs : List D) (Q : List D → Prop) : OP (items (.tuple xs)) Q = Q xs := op_some _ _
theorem o_bnm (k : Nat) (d : D) (env : List Slot) (Q : List Slot → Prop) : OP (Pat.bind (.nm k) d env) Q = Q (env.set k (.fz d)) := op_some _ _
theorem i_of {T t : String} {v : Bool} {d : D} (h : tyS d = some t) (hk : kitB t T = some v) : OP (isiD T d) K = K (.bool v) := by
  have e : isiD T d = some (.bool v) := by
    unfold isiD
    rw [h]
    show (kitB t T).map PyData.bool = _
    rw [hk]
    rfl
  rw [e]
  exact op_some _ _
theorem i_tt (xs : List D) : OP (isiD "tuple" (.tuple xs)) K = K (.bool true) := i_of rfl (by decide +kernel)
theorem i_tl (xs : List D) : OP (isiD "tuple" (.list xs)) K = K (.bool false) := i_of rfl (by decide +kernel)
theorem i_tn : OP (isiD "tuple" .none) K = K (.bool false) := i_of rfl (by decide +kernel)
theorem i_ti : OP (isiD "tuple" (.int i)) K = K (.bool false) := i_of rfl (by decide +kernel)
theorem i_ss (x : Str) : OP (isiD "str" (.str x)) K = K (.bool true) := i_of rfl (by decide +kernel)
theorem i_ii : OP (isiD "int" (.int i)) K = K (.bool true) := i_of rfl (by decide +kernel)
theorem i_bi : OP (isiD "bool" (.int i)) K = K (.bool false) := i_of rfl (by decide +kernel)
theorem i_ib (b : Bool) : OP (isiD "int" (.bool b)) K = K (.bool true) := i_of rfl (by decide +kernel)
theorem i_bb (b : Bool) : OP (isiD "bool" (.bool b)) K = K (.bool true) := i_of rfl (by decide +kernel)
theorem o_eqS0 (x y : Str) (hx : PyData.strOk x = true := by decide) (hy : PyData.strOk y = true := by decide) : OP (eqD (.str x) (.str y)) K = K (.bool (x == y)) := by
  have e : eqD (.str x) (.str y) = some (.bool (x == y)) := by
    unfold eqD okD
    rw [if_pos (by simp [PyData.canLay0, PyData.depth, hx, hy])]
    simp [PyData.eqv]
  rw [e]
  exact op_some _ _
theorem o_neS0 (x y : Str) (hx : PyData.strOk x = true := by decide) (hy : PyData.strOk y = true := by decide) : OP (neD (.str x) (.str y)) K = K (.bool (!(x == y))) := by
  have e : neD (.str x) (.str y) = some (.bool (!(x == y))) := by
    unfold neD okD
    rw [if_pos (by simp [PyData.canLay0, PyData.depth, hx, hy])]
    simp [PyData.eqv]
  rw [e]
  exact op_some _ _
/-- a list against the empty one -/
theorem o_neNil {xs : List D} (h : okD (.list xs) = true) : OP (neD (.list xs) (.list [])) K = K (.bool (!xs.isEmpty)) := by
  have e : neD (.list xs) (.list []) = some (.bool (!xs.isEmpty)) := by
    unfold neD
    rw [if_pos ⟨h, by decide⟩]
    cases xs <;> simp [PyData.eqv, PyData.eqvAll]
  rw [e]
  exact op_some _ _
theorem o_eqNil {xs : List D} (h : okD (.list xs) = true) : OP (eqD (.list xs) (.list [])) K = K (.bool xs.isEmpty) := by
  have e : eqD (.list xs) (.list []) = some (.bool xs.isEmpty) := by
    unfold eqD
    rw [if_pos ⟨h, by decide⟩]
    cases xs <;> simp [PyData.eqv, PyData.eqvAll]
  rw [e]
  exact op_some _ _
theorem o_btp (ps : List Pat) (ds : List D) (env : List Slot) (Q : List Slot → Prop) : OP (Pat.bind (.tp ps) (.tuple ds) env) Q = OP (Pat.binds ps ds env) Q := rfl
theorem o_bnil (env : List Slot) (Q : List Slot → Prop) : OP (Pat.binds [] [] env) Q = Q env := op_some _ _
theorem o_bcons (p : Pat) (ps : List Pat) (d : D) (ds : List D) (env : List Slot) (Q : List Slot → Prop) : OP (Pat.binds (p :: ps) (d :: ds) env) Q = OP (Pat.bind p d env) fun env' => OP (Pat.binds ps ds env') Q := by
  cases h : Pat.bind p d env with
  | none => exact propext ⟨fun ⟨x, e, q⟩ => (by simp only [Pat.binds, h] at e; cases e), fun ⟨x, e, q⟩ => (by cases e)⟩
  | some env' =>
    rw [op_some]
    have e : Pat.binds (p :: ps) (d :: ds) env = Pat.binds ps ds env' := by simp only [Pat.binds, h]
    rw [e]
/-! ranges -/
def IL1 (xs : List D) (Q : Int → Prop) (_ : Dm Q := ⟨⟩) : Prop := ∃ j, xs = [.int j] ∧ Q j
def IL2 (xs : List D) (Q : Int → Int → Prop) (_ : Dm Q := ⟨⟩) : Prop := ∃ i j, xs = [.int i, .int j] ∧ Q i j
theorem il1_ (j : Int) (Q : Int → Prop) : IL1 [.int j] Q = Q j := propext ⟨fun ⟨_, e, q⟩ => by cases e; exact q, fun q => ⟨_, rfl, q⟩⟩
theorem il2_ (i j : Int) (Q : Int → Int → Prop) : IL2 [.int i, .int j] Q = Q i j := propext ⟨fun ⟨_, _, e, q⟩ => by cases e; exact q, fun q => ⟨_, _, rfl, q⟩⟩
/-- the whole numbers from a to b - 1 -/
def ir (a b : Int) : List Int := (List.range (b - a).toNat).map fun (k : Nat) => a + (k : Int)
theorem upTo_ir (a b : Int) : upTo a b = (ir a b).map PyData.int := by
  unfold upTo ir
  rw [List.map_map]
  rfl
theorem ir_nat (n : Nat) : ir 0 (n : Int) = (List.range n).map fun (k : Nat) => (k : Int) := by
  unfold ir
  rw [show ((n : Int) - 0).toNat = n by omega]
  simp
theorem ir_mem {a b x : Int} : x ∈ ir a b ↔ a ≤ x ∧ x < b := by
  unfold ir
  rw [List.mem_map]
  constructor
  · rintro ⟨k, hk, rfl⟩
    have := List.mem_range.mp hk
    omega
  · intro h
    exact ⟨(x - a).toNat, List.mem_range.mpr (by omega), by omega⟩
theorem ir_len (a b : Int) : (ir a b).length = (b - a).toNat := by simp [ir]
theorem ir_get {a b : Int} {k : Nat} (h : k < (b - a).toNat) : (ir a b)[k]? = some (a + k) := by
  unfold ir
  rw [List.getElem?_map, List.getElem?_range h]
  rfl
theorem ir_nil {a b : Int} (h : b ≤ a) : ir a b = [] := by
  unfold ir
  rw [show (b - a).toNat = 0 by omega]
  rfl
theorem ir_succ {a b : Int} (h : a ≤ b) : ir a (b + 1) = ir a b ++ [b] := by
  unfold ir
  rw [show (b + 1 - a).toNat = (b - a).toNat + 1 by omega, List.range_succ, List.map_append]
  simp
  omega
theorem ir_cons {a b : Int} (h : a < b) : ir a b = a :: ir (a + 1) b := by
  unfold ir
  rw [show (b - a).toNat = (b - (a + 1)).toNat + 1 by omega, List.range_succ_eq_map, List.map_cons, List.map_map]
  congr 1
  · simp
  · refine List.map_congr_left fun k _ => ?_
    show a + ((k + 1 : Nat) : Int) = a + 1 + (k : Int)
    omega
theorem ir_app {a b c : Int} (h : a ≤ b) (h2 : b ≤ c) : ir a c = ir a b ++ ir b c := by
  obtain ⟨n, rfl⟩ : ∃ n : Nat, c = b + n := ⟨(c - b).toNat, by omega⟩
  induction n with
  | zero => rw [show b + ((0 : Nat) : Int) = b by omega, ir_nil (Int.le_refl b), List.append_nil]
  | succ n ih =>
    have := ih (by omega)
    rw [show b + ((n + 1 : Nat) : Int) = (b + (n : Int)) + 1 by omega, ir_succ (by omega), ir_succ (by omega), this, List.append_assoc]
theorem wp_range1 (n : MV (List D)) : WP (rangeI1 n) S PL = WP n S fun xs S1 => IL1 xs fun j => (-(2 ^ 62) ≤ j ∧ j < 2 ^ 62) ∧ PL ((ir 0 j).map PyData.int) S1 := by
  refine (wp_bnd _ _ _).trans (WP_q fun xs S1 => ?_)
  have w : ∀ j, WP (if -(2 ^ 62) ≤ j ∧ j < 2 ^ 62 then ret (upTo 0 j) else fun _ => none) S1 PL = ((-(2 ^ 62) ≤ j ∧ j < 2 ^ 62) ∧ PL ((ir 0 j).map PyData.int) S1) := fun j => by
    rw [wp_ite, wp_ret, wp_no, upTo_ir]
    exact propext ⟨fun h => by by_cases z : -(2 ^ 62) ≤ j ∧ j < 2 ^ 62
                               · exact ⟨z, h.1 z⟩
                               · exact False.elim (h.2 z), fun h => ⟨fun _ => h.2, fun z => z h.1⟩⟩
  match xs with
  | [.int j] => rw [il1_]; exact w j
  | [] => refine (wp_no).trans (fls ?_); rintro ⟨_, e, _⟩; cases e
  | [.none] => refine (wp_no).trans (fls ?_); rintro ⟨_, e, _⟩; cases e
  | [.bool _] => refine (wp_no).trans (fls ?_); rintro ⟨_, e, _⟩; cases e
  | [.str _] => refine (wp_no).trans (fls ?_); rintro ⟨_, e, _⟩; cases e
  | [.list _] => refine (wp_no).trans (fls ?_); rintro ⟨_, e, _⟩; cases e
  | [.tuple _] => refine (wp_no).trans (fls ?_); rintro ⟨_, e, _⟩; cases e
  | [.dict _] => refine (wp_no).trans (fls ?_); rintro ⟨_, e, _⟩; cases e
  | x :: _ :: _ => cases x <;> (refine (wp_no).trans (fls ?_); rintro ⟨_, e, _⟩; cases e)
theorem wp_range2 {n : MV (List D)} {d} (h : WP n S fun xs S1 => IL2 xs fun i j => ((-(2 ^ 62) ≤ i ∧ i < 2 ^ 62) ∧ -(2 ^ 62) ≤ j ∧ j < 2 ^ 62) ∧ PL ((ir i j).map PyData.int) S1) : WP (rangeI2 n) S PL d := by
  obtain ⟨xs, S1, e, i, j, rfl, h1, q⟩ := h
  refine ⟨upTo i j, S1, ?_, by rw [upTo_ir]; exact q⟩
  unfold rangeI2
  rw [bnd_eq e]
  show (if (-(2 ^ 62) ≤ i ∧ i < 2 ^ 62) ∧ -(2 ^ 62) ≤ j ∧ j < 2 ^ 62 then ret (upTo i j) else fun _ => none) S1 = _
  rw [if_pos h1]
  rfl
/-- k, k - 1, .. from a down to above b -/
def dr (a b : Int) : List Int := (List.range (a - b).toNat).map fun (k : Nat) => a - (k : Int)
theorem downTo_dr (a b : Int) : downTo a b = (dr a b).map PyData.int := by
  unfold downTo dr
  rw [List.map_map]
  refine List.map_congr_left fun k _ => ?_
  show PyData.int (a + (k : Int) * (-1)) = PyData.int (a - k)
  congr 1
  omega
theorem dr_rev (a b : Int) : dr a b = (ir (b + 1) (a + 1)).reverse := by
  unfold dr ir
  refine List.ext_getElem? fun k => ?_
  by_cases h : k < (a - b).toNat
  · rw [List.getElem?_reverse (by simp; omega), List.getElem?_map, List.getElem?_map, List.getElem?_range h, List.getElem?_range (by simp; omega)]
    simp
    omega
  · rw [List.getElem?_eq_none (by simp; omega), List.getElem?_eq_none (by simp; omega)]
theorem wp_range3 {n : MV (List D)} {d} (h : WP n S fun xs S1 => ∃ i j, xs = [.int i, .int j, .int (-1)] ∧ ((-(2 ^ 62) ≤ i ∧ i < 2 ^ 62) ∧ -(2 ^ 62) ≤ j ∧ j < 2 ^ 62) ∧ PL ((dr i j).map PyData.int) S1) : WP (rangeI3 n) S PL d := by
  obtain ⟨xs, S1, e, i, j, rfl, h1, q⟩ := h
  refine ⟨downTo i j, S1, ?_, by rw [downTo_dr]; exact q⟩
  unfold rangeI3
  rw [bnd_eq e]
  show (if (-1 : Int) = -1 ∧ (-(2 ^ 62) ≤ i ∧ i < 2 ^ 62) ∧ -(2 ^ 62) ≤ j ∧ j < 2 ^ 62 then ret (downTo i j) else fun _ => none) S1 = _
  rw [if_pos ⟨rfl, h1⟩]
  rfl
end
section
variable {S : Sta} {R : Out → Sta → Prop} {p : Pat} {b : MS}
/-- a loop over 0 .. m - 1, told by the turn -/
theorem wp_forN (e : Nat → D) (I : Nat → Sta → Prop) (m : Nat) (h0 : I 0 S)
    (hs : ∀ i S, i < m → I i S → OP (p.bind (e i) S.env) fun env1 => WP b ⟨env1, S.src⟩ fun o S' => LO o (I (i + 1) S') (R .nx S') fun d => R (.rt d) S')
    (hn : ∀ S, I m S → R .nx S) {d} : WP (forM p b ((List.range m).map e)) S R d := by
  refine wp_for e (fun pre S => I pre.length S) (List.range m) h0 (fun pre x post S hx hI => ?_) (fun S h => hn S (by rw [List.length_range] at h; exact h))
  have hl : pre.length < m := by
    have := congrArg List.length hx
    simp at this
    omega
  have hx2 : x = pre.length := by
    have g : (List.range m)[pre.length]? = some x := by rw [hx]; simp
    rw [List.getElem?_range hl] at g
    exact (Option.some.inj g).symm
  subst hx2
  have := hs pre.length S hl hI
  rw [List.length_append, List.length_singleton]
  exact this
theorem ir_natD (n : Nat) : (ir 0 (n : Int)).map PyData.int = (List.range n).map fun (k : Nat) => PyData.int (k : Int) := by
  rw [ir_nat, List.map_map]
  rfl
end
/-! typed zips and enumerations -/
theorem zipL_map {α β : Type} (f : α → D) (g : β → D) (xs : List α) (ys : List β) : zipL (xs.map f) (ys.map g) = (xs.zip ys).map fun p => PyData.tuple [f p.1, g p.2] := by
  unfold zipL
  rw [List.zipWith_map, List.zip, List.map_zipWith]
theorem enumL_zip {α : Type} (f : α → D) (xs : List α) : enumL (xs.map f) = (xs.zipIdx).map fun p => PyData.tuple [.int (p.2 : Nat), f p.1] := by
  refine List.ext_getElem? fun i => ?_
  by_cases hi : i < xs.length
  · rw [enumL_get (x := f xs[i]) (by rw [List.getElem?_map, List.getElem?_eq_getElem hi]; rfl), List.getElem?_map, List.getElem?_zipIdx, List.getElem?_eq_getElem hi]
    simp
  · rw [List.getElem?_eq_none (by rw [enumL_len, List.length_map]; omega), List.getElem?_eq_none (by simp; omega)]
theorem wp_zip {S : Sta} {PL : List D → Sta → Prop} {n : MV (List D)} {d} (h : WP n S fun xs S1 => ∃ a b, (xs = [.list a, .list b] ∨ xs = [.tuple a, .tuple b]) ∧ PL (zipL a b) S1) : WP (zipI n) S PL d := by
  obtain ⟨xs, S1, e, a, b, h1, q⟩ := h
  refine ⟨zipL a b, S1, ?_, q⟩
  unfold zipI
  rw [bnd_eq e]
  rcases h1 with rfl | rfl <;> rfl
theorem wp_enum {S : Sta} {PL : List D → Sta → Prop} {n : MV (List D)} {d} (h : WP n S fun xs S1 => ∃ a, xs = [.list a] ∧ PL (enumL a) S1) : WP (enumI n) S PL d := by
  obtain ⟨xs, S1, e, a, rfl, q⟩ := h
  refine ⟨enumL a, S1, ?_, q⟩
  unfold enumI
  rw [bnd_eq e]
  rfl
theorem wp_enumA {S : Sta} {PL : List D → Sta → Prop} (m : MV D) : WP (enumA m) S PL = WP m S fun d S1 => OP (items d) fun xs => PL (enumL xs) S1 :=
  (wp_bnd _ _ _).trans (WP_q fun _ _ => (wp_opt _).trans (op_map _ _ _))
/-! comprehensions -/
section
variable {α : Type} {vs : List Nat} {p : Pat} {t : MV Bool} {m : MV D} {i : MV (List D)} {env : List Slot} {s s1 : Src} {Q : D → Sta → Prop}
theorem wp_comp (xs : List α) (e : α → D) (q : α → Bool) (f : α → D) (hi : WP i ⟨env, s1⟩ fun ds S1 => ds = xs.map e ∧ S1 = ⟨env, s⟩)
    (h : ∀ x ∈ xs, OP (p.bind (e x) (wipeE env vs)) fun env1 => wipeE env1 vs = wipeE env vs ∧ WP t ⟨env1, s⟩ (fun b S1 => b = q x ∧ S1 = ⟨env1, s⟩) ∧ (q x = true → WP m ⟨env1, s⟩ fun d S2 => d = f x ∧ S2 = ⟨env1, s⟩))
    (hl : xs.length ≤ 1000000) (hQ : Q (.list ((xs.filter q).map f)) ⟨env, s⟩) (ho : vs.all (fun v => !(env.getD v .un).isOwn) = true := by rfl) (hb : backE env (wipeE env vs) vs = env := by rfl) {d} : WP (compD vs i p t m) ⟨env, s1⟩ Q d := by
  obtain ⟨ds, S1, e1, rfl, rfl⟩ := hi
  refine ⟨_, _, e_compIf (S := ⟨env, s1⟩) xs e q f e1 ho hl hb fun x hx => ?_, hQ⟩
  obtain ⟨env1, e2, w1, ⟨_, _, e3, rfl, rfl⟩, w2⟩ := h x hx
  refine ⟨env1, e2, w1, e3, fun hq => ?_⟩
  obtain ⟨_, _, e4, rfl, rfl⟩ := w2 hq
  exact e4
theorem wp_compA (xs : List α) (e : α → D) (f : α → D) (hi : WP i ⟨env, s1⟩ fun ds S1 => ds = xs.map e ∧ S1 = ⟨env, s⟩)
    (h : ∀ x ∈ xs, OP (p.bind (e x) (wipeE env vs)) fun env1 => wipeE env1 vs = wipeE env vs ∧ WP m ⟨env1, s⟩ fun d S2 => d = f x ∧ S2 = ⟨env1, s⟩)
    (hl : xs.length ≤ 1000000) (hQ : Q (.list (xs.map f)) ⟨env, s⟩) (ho : vs.all (fun v => !(env.getD v .un).isOwn) = true := by rfl) (hb : backE env (wipeE env vs) vs = env := by rfl) {d} : WP (compD vs i p (ret true) m) ⟨env, s1⟩ Q d := by
  obtain ⟨ds, S1, e1, rfl, rfl⟩ := hi
  refine ⟨_, _, e_comp (S := ⟨env, s1⟩) xs e f e1 ho hl hb fun x hx => ?_, hQ⟩
  obtain ⟨env1, e2, w1, ⟨_, _, e4, rfl, rfl⟩⟩ := h x hx
  exact ⟨env1, e2, w1, e4⟩
/-- a comprehension that draws: by what has been gone through, what has been made, the source -/
theorem wp_compS (xs : List α) (e : α → D) (I : List α → List D → Src → Prop) (hi : WP i ⟨env, s1⟩ fun ds S1 => ds = xs.map e ∧ S1 = ⟨env, s⟩) (h0 : I [] [] s)
    (h : ∀ pre x post ys s, xs = pre ++ x :: post → I pre ys s → OP (p.bind (e x) (wipeE env vs)) fun env1 => WP t ⟨env1, s⟩ fun b S1 => (b = false → wipeE S1.env vs = wipeE env vs ∧ I (pre ++ [x]) ys S1.src) ∧ (b = true → WP m S1 fun d S2 => wipeE S2.env vs = wipeE env vs ∧ I (pre ++ [x]) (ys ++ [d]) S2.src))
    (hl : xs.length ≤ 1000000) (hQ : ∀ ys s', I xs ys s' → Q (.list ys) ⟨env, s'⟩) (ho : vs.all (fun v => !(env.getD v .un).isOwn) = true := by rfl) (hb : backE env (wipeE env vs) vs = env := by rfl) {d} : WP (compD vs i p t m) ⟨env, s1⟩ Q d := by
  obtain ⟨ds, S1, e1, rfl, rfl⟩ := hi
  have key : ∀ (post pre : List α) (ys : List D) (s : Src), xs = pre ++ post → I pre ys s → ∃ zs s', compM vs p t m (post.map e) ⟨wipeE env vs, s⟩ = some (zs, ⟨wipeE env vs, s'⟩) ∧ I xs (ys ++ zs) s' := by
    intro post
    induction post with
    | nil =>
      intro pre ys s hx hI
      refine ⟨[], s, rfl, ?_⟩
      rw [hx, List.append_nil, List.append_nil]
      exact hI
    | cons x post ih =>
      intro pre ys s hx hI
      obtain ⟨env1, e2, b, ⟨E1, s2⟩, e3, hf, ht⟩ := h pre x post ys s hx hI
      rw [List.map_cons]
      unfold compM
      simp only [e2]
      cases b with
      | false =>
        obtain ⟨w, hI2⟩ := hf rfl
        obtain ⟨zs, s', e5, q5⟩ := ih (pre ++ [x]) ys s2 (by rw [hx]; simp) hI2
        refine ⟨zs, s', ?_, q5⟩
        rw [bnd_eq e3, if_neg Bool.false_ne_true]
        show compM vs p t m (post.map e) ⟨wipeE E1 vs, s2⟩ = _
        have w' : wipeE E1 vs = wipeE env vs := w
        rw [w', e5]
      | true =>
        obtain ⟨d, ⟨E2, s3⟩, e4, w, hI2⟩ := ht rfl
        obtain ⟨zs, s', e5, q5⟩ := ih (pre ++ [x]) (ys ++ [d]) s3 (by rw [hx]; simp) hI2
        refine ⟨d :: zs, s', ?_, by rw [List.append_assoc] at q5; exact q5⟩
        rw [bnd_eq e3, if_pos rfl, bnd_eq e4]
        show bnd (compM vs p t m (post.map e)) _ ⟨wipeE E2 vs, s3⟩ = _
        have w' : wipeE E2 vs = wipeE env vs := w
        rw [w', bnd_eq e5]
        rfl
  obtain ⟨zs, s', e5, q5⟩ := key xs [] [] s rfl h0
  rw [List.nil_append] at q5
  refine ⟨.list zs, ⟨env, s'⟩, ?_, hQ zs s' q5⟩
  unfold compD
  rw [bnd_eq e1]
  show (if vs.all (fun v => !(env.getD v .un).isOwn) = true ∧ (xs.map e).length ≤ 1000000 then _ else _) = _
  rw [if_pos ⟨ho, by rw [List.length_map]; exact hl⟩]
  simp only [e5, hb]
end
/-- one's own list is gone through: it stands still -/
theorem wp_fzSeq {vs : List Nat} {j : Nat} {p : Pat} {t : MV Bool} {m : MV D} {env : List Slot} {s : Src} {Q : D → Sta → Prop} {ds : List D} (h : env[j]? = some (.own ds)) (q : WP (compD vs (seqI (vD j)) p t m) ⟨env.set j (.fz (.list ds)), s⟩ Q) {d} : WP (compD vs (seqI (vD j)) p t m) ⟨env, s⟩ Q d := by
  obtain ⟨x, S', e, qq⟩ := q
  refine ⟨x, S', ?_, qq⟩
  have hl : j < env.length := (List.getElem?_eq_some_iff.mp h).1
  have e1 : vD j ⟨env, s⟩ = some (.list ds, ⟨env.set j (.fz (.list ds)), s⟩) := by
    unfold vD
    simp only [h]
  have e2 : vD j ⟨env.set j (.fz (.list ds)), s⟩ = some (.list ds, ⟨env.set j (.fz (.list ds)), s⟩) := by
    unfold vD
    simp only [List.getElem?_set_self hl]
  rw [← e]
  unfold compD seqI bnd
  simp only [e1, e2]
theorem wp_fzEnum {vs : List Nat} {j : Nat} {p : Pat} {t : MV Bool} {m : MV D} {env : List Slot} {s : Src} {Q : D → Sta → Prop} {ds : List D} (h : env[j]? = some (.own ds)) (q : WP (compD vs (enumI (consL (vD j) (ret []))) p t m) ⟨env.set j (.fz (.list ds)), s⟩ Q) {d} : WP (compD vs (enumI (consL (vD j) (ret []))) p t m) ⟨env, s⟩ Q d := by
  obtain ⟨x, S', e, qq⟩ := q
  refine ⟨x, S', ?_, qq⟩
  have hl : j < env.length := (List.getElem?_eq_some_iff.mp h).1
  have e1 : vD j ⟨env, s⟩ = some (.list ds, ⟨env.set j (.fz (.list ds)), s⟩) := by
    unfold vD
    simp only [h]
  have e2 : vD j ⟨env.set j (.fz (.list ds)), s⟩ = some (.list ds, ⟨env.set j (.fz (.list ds)), s⟩) := by
    unfold vD
    simp only [List.getElem?_set_self hl]
  rw [← e]
  unfold compD enumI consL bnd
  simp only [e1, e2]
/-- a name is set, the value told -/
theorem wp_asgJ {i : Nat} {m : MV D} {S : Sta} {R : Out → Sta → Prop} (v : D) (S2 : Sta) (hc : WP m S fun d S1 => d = v ∧ S1 = S2) (h : R .nx ⟨S2.env.set i (.fz v), S2.src⟩) {d} : WP (asgS i m) S R d := by
  rw [wp_asg]
  refine hc.imp ?_
  rintro _ _ ⟨rfl, rfl⟩
  exact h
/-- a value by an if, told -/
theorem wp_ifDJ {t : MV Bool} {m n : MV D} {S : Sta} {P : D → Sta → Prop} (v : D) (hc : WP (ifD t m n) S fun d S1 => d = v ∧ S1 = S) (h : P v S) {d} : WP (ifD t m n) S P d := by
  refine hc.imp ?_
  rintro _ _ ⟨rfl, rfl⟩
  exact h
theorem wp_ifDK {t : MV Bool} {m n : MV D} {S : Sta} {P : D → Sta → Prop} (v : D) (S2 : Sta) (hc : WP (ifD t m n) S fun d S1 => d = v ∧ S1 = S2) (h : P v S2) {d} : WP (ifD t m n) S P d := by
  refine hc.imp ?_
  rintro _ _ ⟨rfl, rfl⟩
  exact h
/-- an if whose ways meet again -/
theorem wp_ifJ {t : MV Bool} {m n : MS} {S : Sta} {R : Out → Sta → Prop} (J : Sta → Prop) (hc : WP t S fun b S1 => (b = true → WP m S1 fun o S' => o = .nx ∧ J S') ∧ (b = false → WP n S1 fun o S' => o = .nx ∧ J S')) (h : ∀ S', J S' → R .nx S') {d} : WP (ifS t m n) S R d := by
  rw [wp_ifS]
  refine hc.imp fun b S1 q => ⟨fun e => (q.1 e).imp ?_, fun e => (q.2 e).imp ?_⟩
  · rintro o S' ⟨rfl, hj⟩
    exact h S' hj
  · rintro o S' ⟨rfl, hj⟩
    exact h S' hj
theorem wp_zipRV {S : Sta} {PL : List D → Sta → Prop} {m : MV (Int × Int)} {j : Nat} {d} (h : WP m S fun x S1 => WP (vD j) S1 fun y S2 => LSd y fun ys => RgB x.1 x.2 ∧ PL (zipL ((ir x.1 x.2).map PyData.int) ys) S2) : WP (zipRV m j) S PL d := by
  obtain ⟨x, S1, e1, y, S2, e2, ys, rfl, hb, q⟩ := h
  refine ⟨zipL (upTo x.1 x.2) ys, S2, ?_, by rw [upTo_ir]; exact q⟩
  unfold zipRV
  rw [bnd_eq e1, bnd_eq e2]
  show (if RgB x.1 x.2 then ret (zipL (upTo x.1 x.2) ys) else fun _ => none) S2 = _
  rw [if_pos hb]
  rfl
theorem dep_map {α : Type} (f : α → D) (n : Nat) (h : ∀ x, (f x).depth ≤ n) : ∀ xs : List α, PyData.depthAll (xs.map f) ≤ n
  | [] => by simp [PyData.depthAll]
  | x :: xs => by
    have h1 := dep_map f n h xs
    have h2 := h x
    simp only [List.map_cons, PyData.depthAll]
    exact Nat.max_le.mpr ⟨h2, h1⟩
theorem lay_map {α : Type} (f : α → D) (h : ∀ x, (f x).canLay0 = true) : ∀ xs : List α, PyData.canLayAll0 (xs.map f) = true
  | [] => by simp [PyData.canLayAll0]
  | x :: xs => by simp [PyData.canLayAll0, h x, lay_map f h xs]
theorem ok_map {α : Type} (f : α → D) (h : ∀ x, (f x).canLay0 = true) (n : Nat) (hn : n ≤ 60) (h2 : ∀ x, (f x).depth ≤ n) (xs : List α) : okD (.list (xs.map f)) = true ∧ okD (.tuple (xs.map f)) = true := by
  have h3 := dep_map f n h2 xs
  have h4 : decide (PyData.depthAll (xs.map f) + 1 ≤ 64) = true := decide_eq_true (by omega)
  exact ⟨by unfold okD; simp only [PyData.canLay0, PyData.depth, lay_map f h xs, Bool.true_and]; exact h4, by unfold okD; simp only [PyData.canLay0, PyData.depth, lay_map f h xs, Bool.true_and]; exact h4⟩
/-! lengths of displays -/
theorem sz0 : (([] : List D).length ≤ sizeLine) = True := eq_true (by have := sizeLine_eq; simp)
theorem sz1 (a : D) : ([a].length ≤ sizeLine) = True := eq_true (by have := sizeLine_eq; simp; omega)
theorem sz2 (a b : D) : ([a, b].length ≤ sizeLine) = True := eq_true (by have := sizeLine_eq; simp; omega)
theorem sz3 (a b c : D) : ([a, b, c].length ≤ sizeLine) = True := eq_true (by have := sizeLine_eq; simp; omega)
theorem sz4 (a b c d : D) : ([a, b, c, d].length ≤ sizeLine) = True := eq_true (by have := sizeLine_eq; simp; omega)
theorem sz5 (a b c d e : D) : ([a, b, c, d, e].length ≤ sizeLine) = True := eq_true (by have := sizeLine_eq; simp; omega)
theorem sz6 (a b c d e f : D) : ([a, b, c, d, e, f].length ≤ sizeLine) = True := eq_true (by have := sizeLine_eq; simp; omega)
theorem sz7 (a b c d e f g : D) : ([a, b, c, d, e, f, g].length ≤ sizeLine) = True := eq_true (by have := sizeLine_eq; simp; omega)
theorem sz8 (a b c d e f g h : D) : ([a, b, c, d, e, f, g, h].length ≤ sizeLine) = True := eq_true (by have := sizeLine_eq; simp; omega)
theorem sz_of' {n : Nat} (h : n ≤ 1000000) : n ≤ sizeLine := by have := sizeLine_eq; omega
theorem szl0 : (0 ≤ sizeLine) = True := eq_true (sz_of' (by decide))
theorem szl1 : (1 ≤ sizeLine) = True := eq_true (sz_of' (by decide))
theorem szl2 : (2 ≤ sizeLine) = True := eq_true (sz_of' (by decide))
theorem szl3 : (3 ≤ sizeLine) = True := eq_true (sz_of' (by decide))
theorem szl4 : (4 ≤ sizeLine) = True := eq_true (sz_of' (by decide))
theorem szl5 : (5 ≤ sizeLine) = True := eq_true (sz_of' (by decide))
theorem szl6 : (6 ≤ sizeLine) = True := eq_true (sz_of' (by decide))
theorem szl7 : (7 ≤ sizeLine) = True := eq_true (sz_of' (by decide))
theorem szl8 : (8 ≤ sizeLine) = True := eq_true (sz_of' (by decide))
theorem szl9 : (9 ≤ sizeLine) = True := eq_true (sz_of' (by decide))
theorem szl10 : (10 ≤ sizeLine) = True := eq_true (sz_of' (by decide))
theorem szl11 : (11 ≤ sizeLine) = True := eq_true (sz_of' (by decide))
theorem szl12 : (12 ≤ sizeLine) = True := eq_true (sz_of' (by decide))
theorem szl13 : (13 ≤ sizeLine) = True := eq_true (sz_of' (by decide))
theorem szl14 : (14 ≤ sizeLine) = True := eq_true (sz_of' (by decide))
theorem szl15 : (15 ≤ sizeLine) = True := eq_true (sz_of' (by decide))
theorem szl16 : (16 ≤ sizeLine) = True := eq_true (sz_of' (by decide))
theorem szk0 : (0 < sizeLine) = True := eq_true (by have := sizeLine_eq; omega)
theorem szk1 : (1 < sizeLine) = True := eq_true (by have := sizeLine_eq; omega)
theorem szk2 : (2 < sizeLine) = True := eq_true (by have := sizeLine_eq; omega)
theorem szk3 : (3 < sizeLine) = True := eq_true (by have := sizeLine_eq; omega)
theorem szk4 : (4 < sizeLine) = True := eq_true (by have := sizeLine_eq; omega)
theorem szk5 : (5 < sizeLine) = True := eq_true (by have := sizeLine_eq; omega)
theorem szk6 : (6 < sizeLine) = True := eq_true (by have := sizeLine_eq; omega)
theorem szk7 : (7 < sizeLine) = True := eq_true (by have := sizeLine_eq; omega)
theorem szk8 : (8 < sizeLine) = True := eq_true (by have := sizeLine_eq; omega)
theorem sl_d (x : D) : slotOf (.d x) = .fz x := rfl
theorem sl_s : slotOf .src = .src := rfl
theorem sz_of {n : Nat} (h : n ≤ 1000000) : n ≤ sizeLine := by have := sizeLine_eq; omega
theorem sz_lt {n : Nat} (h : n < 1000000) : n < sizeLine := by have := sizeLine_eq; omega
theorem log_of {j : Int} (h0 : 0 < j) (h : j < 2 ^ 1000) : 0 < j ∧ j.natAbs.log2 < 9000 := by
  refine ⟨h0, ?_⟩
  have := (Nat.log2_lt (k := 1000) (show j.natAbs ≠ 0 by omega)).mpr (by omega)
  omega
end DL

-- part DW3
set_option Elab.async false
set_option linter.all false
set_option maxRecDepth 100000
set_option maxHeartbeats 2000000
/-! DW3: repr. -/
namespace DL
open PySem PySem.Spec PyProof.Rows L2 RZ
theorem strOk_app (a b : Str) : PyData.strOk (a ++ b) = (PyData.strOk a && PyData.strOk b) := by
  show (a.cps ++ b.cps).all _ = _
  rw [Array.all_append]
  rfl
theorem strOk_of (s : String) : PyData.strOk (Str.ofString s) = true := by
  rw [Str.ofString_eq_toList]
  show ((s.toList.map Char.toNat).toArray).all _ = true
  rw [List.all_toArray, List.all_map, List.all_eq_true]
  intro c _
  have h := c.valid
  simp only [Function.comp, decide_eq_true_eq]
  show c.val.toNat < 1114112
  rcases h with h | ⟨_, h⟩
  · have : c.val.toNat < 55296 := h
    omega
  · exact h
theorem strOk_from : ∀ (ts : List Str) (k : Nat) (acc : Str), PyData.strOk acc = true → (∀ t ∈ ts, PyData.strOk t = true) → PyData.strOk (textFrom k acc ts) = true
  | [], _, acc, h, _ => h
  | t :: ts, k, acc, h, h2 => by
    unfold textFrom
    refine strOk_from ts (k + 1) _ ?_ fun u hu => h2 u (List.mem_cons_of_mem _ hu)
    rw [strOk_app, strOk_app, h, strOk_of, h2 t List.mem_cons_self]
    rfl
theorem strOk_join (sep : Str) (hs : PyData.strOk sep = true) : ∀ ts : List Str, (∀ t ∈ ts, PyData.strOk t = true) → PyData.strOk (Str.join sep ts) = true
  | [], _ => by simp [Str.join, Str.empty, PyData.strOk]
  | [x], h => h x List.mem_cons_self
  | x :: y :: r, h => by
    show PyData.strOk (x ++ sep ++ Str.join sep (y :: r)) = true
    rw [strOk_app, strOk_app, hs, h x List.mem_cons_self, strOk_join sep hs (y :: r) fun t ht => h t (List.mem_cons_of_mem _ ht)]
    rfl
mutual
/-- data whose text is told by its whole numbers -/
def shwL : D → Bool
  | .none => true
  | .bool _ => true
  | .int _ => true
  | .str x => PyData.strOk (reprText x)
  | .list xs => shwLs xs
  | .tuple xs => shwLs xs
  | .dict _ => false
def shwLs : List D → Bool
  | [] => true
  | x :: xs => shwL x && shwLs xs
end
mutual
theorem shwL_ok : ∀ d : D, shwL d = true → PyData.strOk d.shown = true
  | .none, _ => strOk_of _
  | .bool b, _ => by cases b <;> exact strOk_of _
  | .int i, _ => strOk_of _
  | .str x, h => h
  | .list xs, h => by
    have h2 : ∀ t ∈ PyData.shownAll xs, PyData.strOk t = true := shwLs_ok xs h
    show PyData.strOk (textFrom 0 "[" (PyData.shownAll xs) ++ ("]" : String)) = true
    rw [strOk_app, strOk_from _ _ _ (strOk_of _) h2, strOk_of]
    rfl
  | .tuple xs, h => by
    have h2 : ∀ t ∈ PyData.shownAll xs, PyData.strOk t = true := shwLs_ok xs h
    show PyData.strOk (tupleText (PyData.shownAll xs)) = true
    unfold tupleText
    rw [strOk_app, strOk_app, strOk_join _ (strOk_of _) _ h2, strOk_of, strOk_of]
    rfl
  | .dict _, h => by cases h
theorem shwLs_ok : ∀ (xs : List D), shwLs xs = true → ∀ t ∈ PyData.shownAll xs, PyData.strOk t = true
  | [], _, t, ht => by cases ht
  | x :: xs, h, t, ht => by
    simp only [shwLs, Bool.and_eq_true] at h
    rw [PyData.shownAll_cons] at ht
    rcases List.mem_cons.mp ht with rfl | ht
    · exact shwL_ok x h.1
    · exact shwLs_ok xs h.2 t ht
end
/-- data that repr takes: at most n in weight, m in depth -/
structure Shw (n m : Nat) (d : D) : Prop where
  l : d.leavesShort 13 = true
  s : d.showable = true
  h : d.hasDict = false
  k : shwL d = true
  w : d.weight ≤ n
  d : d.depth ≤ m
structure Shws (n m : Nat) (ds : List D) : Prop where
  l : PyData.leavesShortAll 13 ds = true
  s : PyData.showableAll ds = true
  h : PyData.hasDictAll ds = false
  k : shwLs ds = true
  w : PyData.weightAll ds ≤ n
  d : PyData.depthAll ds ≤ m
theorem shw_int {i : Int} (h : i.natAbs < 10 ^ 12) : Shw 40 0 (.int i) := by
  have h2 : i.natAbs.log2 < 40 := by
    by_cases z : i.natAbs = 0
    · rw [z]; decide
    · exact (Nat.log2_lt z).mpr (Nat.lt_trans h (by decide))
  refine ⟨?_, ?_, rfl, rfl, ?_, Nat.le_refl _⟩
  · show decide _ = true
    exact decide_eq_true (PyData.shown_int_le h)
  · show decide (i.natAbs.log2 < 1920) = true
    exact decide_eq_true (by omega)
  · show (if i == 0 then 0 else i.natAbs.log2 + 1) ≤ 40
    split <;> omega
theorem shw_none : Shw 0 0 .none := ⟨rfl, rfl, rfl, rfl, Nat.le_refl _, Nat.le_refl _⟩
theorem Shw.mono {n m n' m' : Nat} {d : D} (h : Shw n m d) (h1 : n ≤ n') (h2 : m ≤ m') : Shw n' m' d := ⟨h.l, h.s, h.h, h.k, Nat.le_trans h.w h1, Nat.le_trans h.d h2⟩
theorem shws_nil : Shws 0 0 [] := ⟨rfl, rfl, rfl, rfl, Nat.le_refl _, Nat.le_refl _⟩
theorem shws_cons {n m n' m' : Nat} {d : D} {ds : List D} (h : Shw n m d) (t : Shws n' m' ds) : Shws (n + n' + 1) (max m m') (d :: ds) := by
  refine ⟨?_, ?_, ?_, ?_, ?_, ?_⟩
  · simp only [PyData.leavesShortAll, h.l, t.l, Bool.and_self]
  · simp only [PyData.showableAll, h.s, t.s, Bool.and_self]
  · simp only [PyData.hasDictAll, h.h, t.h, Bool.or_self]
  · simp only [shwLs, h.k, t.k, Bool.and_self]
  · have := h.w
    have := t.w
    simp only [PyData.weightAll]
    omega
  · have := h.d
    have := t.d
    simp only [PyData.depthAll]
    omega
theorem shws_map {α : Type} {n m : Nat} (f : α → D) : ∀ xs : List α, (∀ x ∈ xs, Shw n m (f x)) → Shws (xs.length * (n + 1)) m (xs.map f)
  | [], _ => ⟨rfl, rfl, rfl, rfl, Nat.zero_le _, Nat.zero_le _⟩
  | x :: xs, h => by
    have := shws_cons (h x List.mem_cons_self) (shws_map f xs fun y hy => h y (List.mem_cons_of_mem _ hy))
    rw [Nat.max_self] at this
    refine ⟨this.l, this.s, this.h, this.k, ?_, this.d⟩
    have e : (x :: xs).length * (n + 1) = n + xs.length * (n + 1) + 1 := by
      rw [List.length_cons, Nat.add_mul]
      omega
    rw [e]
    exact this.w
theorem shw_tup {n m : Nat} {ds : List D} (h : Shws n m ds) : Shw n (m + 1) (.tuple ds) := ⟨h.l, h.s, h.h, h.k, h.w, Nat.succ_le_succ h.d⟩
theorem shw_lst {n m : Nat} {ds : List D} (h : Shws n m ds) : Shw n (m + 1) (.list ds) := ⟨h.l, h.s, h.h, h.k, h.w, Nat.succ_le_succ h.d⟩
theorem shw_pI {p : Int × Int} (h1 : p.1.natAbs < 10 ^ 12) (h2 : p.2.natAbs < 10 ^ 12) : Shw 100 1 (pI p) := (shw_tup (shws_cons (shw_int h1) (shws_cons (shw_int h2) shws_nil))).mono (by decide) (by decide)
theorem Shw.fit {n m : Nat} {d : D} (h : Shw n m d) (hn : n ≤ 2 ^ 20) (hm : m ≤ 60) : d.showable = true ∧ d.hasDict = false ∧ d.depth ≤ 60 ∧ d.shown.length ≤ sizeLine :=
  ⟨h.s, h.h, Nat.le_trans h.d hm, PyData.shown_fits (by decide) (by decide) h.l (Nat.le_trans h.w hn)⟩
theorem o_repr {n m : Nat} {d : D} {K : D → Prop} (h : Shw n m d) (q : K (.str d.shown)) (hn : n ≤ 2 ^ 20 := by decide) (hm : m ≤ 60 := by decide) {dd} : OP (reprD [d]) K dd := by
  refine op_of (x := .str d.shown) ?_ q
  show (if d.showable = true ∧ d.hasDict = false ∧ d.depth ≤ 60 ∧ d.shown.length ≤ sizeLine then some (PyData.str d.shown) else none) = _
  rw [if_pos (h.fit hn hm)]
theorem okS {n m : Nat} {d : D} (h : Shw n m d) : okD (.str d.shown) = true := by
  unfold okD
  simp only [PyData.canLay0, PyData.depth, shwL_ok d h.k]
  rfl
/-- the same text -/
theorem o_neS {n m : Nat} {d : D} {K : D → Prop} (h : Shw n m d) : OP (neD (.str d.shown) (.str d.shown)) K = K (.bool false) := by
  have e : neD (.str d.shown) (.str d.shown) = some (.bool false) := by
    unfold neD
    rw [if_pos ⟨okS h, okS h⟩]
    simp [PyData.eqv]
  rw [e]
  exact op_some _ _
theorem o_eqS {n m : Nat} {d : D} {K : D → Prop} (h : Shw n m d) : OP (eqD (.str d.shown) (.str d.shown)) K = K (.bool true) := by
  have e : eqD (.str d.shown) (.str d.shown) = some (.bool true) := by
    unfold eqD
    rw [if_pos ⟨okS h, okS h⟩]
    simp [PyData.eqv]
  rw [e]
  exact op_some _ _
/-! zips of what is told -/
theorem zipL_same {α : Type} (f g : α → D) (xs : List α) : zipL (xs.map f) (xs.map g) = xs.map fun x => PyData.tuple [f x, g x] := by
  unfold zipL
  rw [List.zipWith_map]
  induction xs with
  | nil => rfl
  | cons x xs ih => simp [ih]
end DL

-- part K48k
set_option Elab.async false
set_option linter.all false
set_option maxRecDepth 100000
set_option maxHeartbeats 2000000
namespace K48
open PySem PySem.Spec PyProof.Rows L2 RZ DL
local macro_rules | `(tactic| walk_at "wp") => `(tactic| simp only [↓ca_def, ↓wp_seq, ↓wp_asg, ↓wp_asgN, ↓wp_retS, ↓wp_dropS, ↓wp_ifS, ↓wp_unpS, ↓wp_par2, ↓wp_parO, ↓wp_appS, ↓wp_forS, ↓wp_forNil, ↓wp_seqI, ↓wp_ret, ↓wp_cD, ↓wp_vD, ↓wp_op2, ↓wp_op1, ↓wp_callN, ↓wp_toB, ↓wp_andT, ↓wp_orT, ↓wp_notT, ↓wp_andV, ↓wp_orV, ↓wp_notV, ↓wp_ifD, ↓wp_chn, ↓wp_consL, ↓wp_consA, ↓wp_srcA, ↓wp_callD, ↓wp_tupD, ↓wp_lstD, ↓wp_someI, ↓wp_sliceD, ↓wp_rngD, ↓wp_rgM1, ↓wp_rgM2, ↓wp_range1, ↓wp_enumA,
  ↓sq_nx, ↓sq_rt, ↓sq_bk, ↓sq_ct, ↓rt_rt, ↓rt_nx, ↓lo_nx, ↓lo_ct, ↓lo_bk, ↓lo_rt, ↓vq_fz, ↓vq_own, ↓oq_own, ↓sr_src, ↓tb_b, ↓ls_l, ↓iq_i, ↓l2_2, ↓il1_, ↓il2_, ↓op_some, ↓op_map,
  ↓o_addI, ↓o_addT, ↓o_addBI, ↓o_addBT, ↓o_addBL, ↓o_mulBI, ↓o_mulBL, ↓o_sub, ↓o_mul, ↓o_div, ↓o_mod, ↓o_pow, ↓o_lt, ↓o_le, ↓o_gt, ↓o_ge, ↓o_neg, ↓o_eqI, ↓o_neI, ↓o_neB, ↓o_isN, ↓o_notIsN, ↓o_isT, ↓o_notIsT, ↓o_ixT, ↓o_ixL, ↓o_len_l, ↓o_len_t, ↓o_abs, ↓o_max2, ↓o_min2, ↓o_int, ↓o_tup_l, ↓o_tup_t, ↓o_lst_l, ↓o_lst_t, ↓o_items_l, ↓o_items_t, ↓i_tt, ↓i_tl, ↓i_tn, ↓i_ti, ↓i_ss, ↓i_ii, ↓i_bi, ↓i_ib, ↓i_bb, ↓o_bnm, ↓o_btp, ↓o_bnil, ↓o_bcons,
  isN_n, isN_i, isN_b, isN_t, isN_l, isN_s, at_0, at_1, at_2, at_3, at_m1, at_nat, szl0, szl1, szl2, szl3, szl4, szl5, szl6, szl7, szl8, szl9, szl10, szl11, szl12, szl13, szl14, szl15, szl16, szk0, szk1, szk2, szk3, szk4, szk5, szk6, szk7, szk8, sl_d, sl_s,
  List.getElem?_cons_zero, List.getElem?_cons_succ, List.getElem?_map, List.set_cons_zero, List.set_cons_succ, List.map_cons, List.map_nil, List.length_map, List.replicate_succ, List.replicate_zero, List.cons_append, List.nil_append, List.length_cons, List.length_nil, List.isEmpty_nil, List.isEmpty_cons, Nat.reduceAdd, Nat.reduceSub, Int.cast_ofNat_Int, Int.reduceNe, Int.reduceEq, Nat.sub_zero, Nat.sub_self,
  decide_eq_true_eq, decide_eq_false_iff_not, Bool.not_eq_true', Bool.not_eq_false', Bool.not_true, Bool.not_false, Bool.true_eq_false, Bool.false_eq_true, true_and, and_true, forall_const, false_imp_iff, true_imp_iff, imp_self, forall_false, implies_true, not_true_eq_false, not_false_eq_true, true_implies, false_implies, eq_self_iff_true, reduceCtorEq])
local macro_rules | `(tactic| walk_at "wu") => `(tactic| simp only [↓ca_def, ↓wp_seq, ↓wp_asg, ↓wp_asgN, ↓wp_retS, ↓wp_dropS, ↓wp_ifS, ↓wp_unpS, ↓wp_par2, ↓wp_parO, ↓wp_appS, ↓wp_forS, ↓wp_forNil, ↓wp_forCons, ↓wp_seqI, ↓wp_ret, ↓wp_cD, ↓wp_vD, ↓wp_op2, ↓wp_op1, ↓wp_callN, ↓wp_toB, ↓wp_andT, ↓wp_orT, ↓wp_notT, ↓wp_andV, ↓wp_orV, ↓wp_notV, ↓wp_ifD, ↓wp_chn, ↓wp_consL, ↓wp_consA, ↓wp_srcA, ↓wp_callD, ↓wp_tupD, ↓wp_lstD, ↓wp_someI, ↓wp_sliceD, ↓wp_rngD, ↓wp_rgM1, ↓wp_rgM2, ↓wp_range1, ↓wp_enumA,
  ↓sq_nx, ↓sq_rt, ↓sq_bk, ↓sq_ct, ↓rt_rt, ↓rt_nx, ↓lo_nx, ↓lo_ct, ↓lo_bk, ↓lo_rt, ↓vq_fz, ↓vq_own, ↓oq_own, ↓sr_src, ↓tb_b, ↓ls_l, ↓iq_i, ↓l2_2, ↓il1_, ↓il2_, ↓op_some, ↓op_map,
  ↓o_addI, ↓o_addT, ↓o_addBI, ↓o_addBT, ↓o_addBL, ↓o_mulBI, ↓o_mulBL, ↓o_sub, ↓o_mul, ↓o_div, ↓o_mod, ↓o_pow, ↓o_lt, ↓o_le, ↓o_gt, ↓o_ge, ↓o_neg, ↓o_eqI, ↓o_neI, ↓o_neB, ↓o_isN, ↓o_notIsN, ↓o_isT, ↓o_notIsT, ↓o_ixT, ↓o_ixL, ↓o_len_l, ↓o_len_t, ↓o_abs, ↓o_max2, ↓o_min2, ↓o_int, ↓o_tup_l, ↓o_tup_t, ↓o_lst_l, ↓o_lst_t, ↓o_items_l, ↓o_items_t, ↓i_tt, ↓i_tl, ↓i_tn, ↓i_ti, ↓i_ss, ↓i_ii, ↓i_bi, ↓i_ib, ↓i_bb, ↓o_bnm, ↓o_btp, ↓o_bnil, ↓o_bcons,
  isN_n, isN_i, isN_b, isN_t, isN_l, isN_s, at_0, at_1, at_2, at_3, at_m1, at_nat, szl0, szl1, szl2, szl3, szl4, szl5, szl6, szl7, szl8, szl9, szl10, szl11, szl12, szl13, szl14, szl15, szl16, szk0, szk1, szk2, szk3, szk4, szk5, szk6, szk7, szk8, sl_d, sl_s,
  List.getElem?_cons_zero, List.getElem?_cons_succ, List.getElem?_map, List.set_cons_zero, List.set_cons_succ, List.map_cons, List.map_nil, List.length_map, List.replicate_succ, List.replicate_zero, List.cons_append, List.nil_append, List.length_cons, List.length_nil, List.isEmpty_nil, List.isEmpty_cons, Nat.reduceAdd, Nat.reduceSub, Int.cast_ofNat_Int, Int.reduceNe, Int.reduceEq, Nat.sub_zero, Nat.sub_self,
  decide_eq_true_eq, decide_eq_false_iff_not, Bool.not_eq_true', Bool.not_eq_false', Bool.not_true, Bool.not_false, Bool.true_eq_false, Bool.false_eq_true, true_and, and_true, forall_const, false_imp_iff, true_imp_iff, imp_self, forall_false, implies_true, not_true_eq_false, not_false_eq_true, true_implies, false_implies, eq_self_iff_true, reduceCtorEq])
local macro_rules | `(tactic| walk_at "wi") => `(tactic| simp only [↓ca_def, ↓wp_seq, ↓wp_asg, ↓wp_asgN, ↓wp_retS, ↓wp_dropS, ↓wp_unpS, ↓wp_par2, ↓wp_parO, ↓wp_appS, ↓wp_forS, ↓wp_forNil, ↓wp_seqI, ↓wp_ret, ↓wp_cD, ↓wp_vD, ↓wp_op2, ↓wp_op1, ↓wp_callN, ↓wp_toB, ↓wp_andT, ↓wp_orT, ↓wp_notT, ↓wp_andV, ↓wp_orV, ↓wp_notV, ↓wp_ifD, ↓wp_chn, ↓wp_consL, ↓wp_consA, ↓wp_srcA, ↓wp_callD, ↓wp_tupD, ↓wp_lstD, ↓wp_someI, ↓wp_sliceD, ↓wp_rngD, ↓wp_rgM1, ↓wp_rgM2, ↓wp_range1, ↓wp_enumA,
  ↓sq_nx, ↓sq_rt, ↓sq_bk, ↓sq_ct, ↓rt_rt, ↓rt_nx, ↓lo_nx, ↓lo_ct, ↓lo_bk, ↓lo_rt, ↓vq_fz, ↓vq_own, ↓oq_own, ↓sr_src, ↓tb_b, ↓ls_l, ↓iq_i, ↓l2_2, ↓il1_, ↓il2_, ↓op_some, ↓op_map,
  ↓o_addI, ↓o_addT, ↓o_addBI, ↓o_addBT, ↓o_addBL, ↓o_mulBI, ↓o_mulBL, ↓o_sub, ↓o_mul, ↓o_div, ↓o_mod, ↓o_pow, ↓o_lt, ↓o_le, ↓o_gt, ↓o_ge, ↓o_neg, ↓o_eqI, ↓o_neI, ↓o_neB, ↓o_isN, ↓o_notIsN, ↓o_isT, ↓o_notIsT, ↓o_ixT, ↓o_ixL, ↓o_len_l, ↓o_len_t, ↓o_abs, ↓o_max2, ↓o_min2, ↓o_int, ↓o_tup_l, ↓o_tup_t, ↓o_lst_l, ↓o_lst_t, ↓o_items_l, ↓o_items_t, ↓i_tt, ↓i_tl, ↓i_tn, ↓i_ti, ↓i_ss, ↓i_ii, ↓i_bi, ↓i_ib, ↓i_bb, ↓o_bnm, ↓o_btp, ↓o_bnil, ↓o_bcons,
  isN_n, isN_i, isN_b, isN_t, isN_l, isN_s, at_0, at_1, at_2, at_3, at_m1, at_nat, szl0, szl1, szl2, szl3, szl4, szl5, szl6, szl7, szl8, szl9, szl10, szl11, szl12, szl13, szl14, szl15, szl16, szk0, szk1, szk2, szk3, szk4, szk5, szk6, szk7, szk8, sl_d, sl_s,
  List.getElem?_cons_zero, List.getElem?_cons_succ, List.getElem?_map, List.set_cons_zero, List.set_cons_succ, List.map_cons, List.map_nil, List.length_map, List.replicate_succ, List.replicate_zero, List.cons_append, List.nil_append, List.length_cons, List.length_nil, List.isEmpty_nil, List.isEmpty_cons, Nat.reduceAdd, Nat.reduceSub, Int.cast_ofNat_Int, Int.reduceNe, Int.reduceEq, Nat.sub_zero, Nat.sub_self,
  decide_eq_true_eq, decide_eq_false_iff_not, Bool.not_eq_true', Bool.not_eq_false', Bool.not_true, Bool.not_false, Bool.true_eq_false, Bool.false_eq_true, true_and, and_true, forall_const, false_imp_iff, true_imp_iff, imp_self, forall_false, implies_true, not_true_eq_false, not_false_eq_true, true_implies, false_implies, eq_self_iff_true, reduceCtorEq])
local macro_rules | `(tactic| walk_at "wa") => `(tactic| simp only [↓ca_def, ↓wp_seq, ↓wp_asgN, ↓wp_retS, ↓wp_dropS, ↓wp_unpS, ↓wp_par2, ↓wp_parO, ↓wp_appS, ↓wp_forS, ↓wp_forNil, ↓wp_seqI, ↓wp_ret, ↓wp_cD, ↓wp_vD, ↓wp_op2, ↓wp_op1, ↓wp_callN, ↓wp_toB, ↓wp_andT, ↓wp_orT, ↓wp_notT, ↓wp_andV, ↓wp_orV, ↓wp_notV, ↓wp_ifD, ↓wp_chn, ↓wp_consL, ↓wp_consA, ↓wp_srcA, ↓wp_callD, ↓wp_tupD, ↓wp_lstD, ↓wp_someI, ↓wp_sliceD, ↓wp_rngD, ↓wp_rgM1, ↓wp_rgM2, ↓wp_range1, ↓wp_enumA,
  ↓sq_nx, ↓sq_rt, ↓sq_bk, ↓sq_ct, ↓rt_rt, ↓rt_nx, ↓lo_nx, ↓lo_ct, ↓lo_bk, ↓lo_rt, ↓vq_fz, ↓vq_own, ↓oq_own, ↓sr_src, ↓tb_b, ↓ls_l, ↓iq_i, ↓l2_2, ↓il1_, ↓il2_, ↓op_some, ↓op_map,
  ↓o_addI, ↓o_addT, ↓o_addBI, ↓o_addBT, ↓o_addBL, ↓o_mulBI, ↓o_mulBL, ↓o_sub, ↓o_mul, ↓o_div, ↓o_mod, ↓o_pow, ↓o_lt, ↓o_le, ↓o_gt, ↓o_ge, ↓o_neg, ↓o_eqI, ↓o_neI, ↓o_neB, ↓o_isN, ↓o_notIsN, ↓o_isT, ↓o_notIsT, ↓o_ixT, ↓o_ixL, ↓o_len_l, ↓o_len_t, ↓o_abs, ↓o_max2, ↓o_min2, ↓o_int, ↓o_tup_l, ↓o_tup_t, ↓o_lst_l, ↓o_lst_t, ↓o_items_l, ↓o_items_t, ↓i_tt, ↓i_tl, ↓i_tn, ↓i_ti, ↓i_ss, ↓i_ii, ↓i_bi, ↓i_ib, ↓i_bb, ↓o_bnm, ↓o_btp, ↓o_bnil, ↓o_bcons,
  isN_n, isN_i, isN_b, isN_t, isN_l, isN_s, at_0, at_1, at_2, at_3, at_m1, at_nat, szl0, szl1, szl2, szl3, szl4, szl5, szl6, szl7, szl8, szl9, szl10, szl11, szl12, szl13, szl14, szl15, szl16, szk0, szk1, szk2, szk3, szk4, szk5, szk6, szk7, szk8, sl_d, sl_s,
  List.getElem?_cons_zero, List.getElem?_cons_succ, List.getElem?_map, List.set_cons_zero, List.set_cons_succ, List.map_cons, List.map_nil, List.length_map, List.replicate_succ, List.replicate_zero, List.cons_append, List.nil_append, List.length_cons, List.length_nil, List.isEmpty_nil, List.isEmpty_cons, Nat.reduceAdd, Nat.reduceSub, Int.cast_ofNat_Int, Int.reduceNe, Int.reduceEq, Nat.sub_zero, Nat.sub_self,
  decide_eq_true_eq, decide_eq_false_iff_not, Bool.not_eq_true', Bool.not_eq_false', Bool.not_true, Bool.not_false, Bool.true_eq_false, Bool.false_eq_true, true_and, and_true, forall_const, false_imp_iff, true_imp_iff, imp_self, forall_false, implies_true, not_true_eq_false, not_false_eq_true, true_implies, false_implies, eq_self_iff_true, reduceCtorEq])
local macro_rules | `(tactic| walk_at "wd") => `(tactic| simp only [↓ca_def, ↓wp_seq, ↓wp_asg, ↓wp_asgN, ↓wp_retS, ↓wp_dropS, ↓wp_ifS, ↓wp_unpS, ↓wp_par2, ↓wp_parO, ↓wp_appS, ↓wp_forS, ↓wp_forNil, ↓wp_seqI, ↓wp_ret, ↓wp_cD, ↓wp_vD, ↓wp_op2, ↓wp_op1, ↓wp_callN, ↓wp_toB, ↓wp_andT, ↓wp_orT, ↓wp_notT, ↓wp_andV, ↓wp_orV, ↓wp_notV, ↓wp_chn, ↓wp_consL, ↓wp_consA, ↓wp_srcA, ↓wp_callD, ↓wp_tupD, ↓wp_lstD, ↓wp_someI, ↓wp_sliceD, ↓wp_rngD, ↓wp_rgM1, ↓wp_rgM2, ↓wp_range1, ↓wp_enumA,
  ↓sq_nx, ↓sq_rt, ↓sq_bk, ↓sq_ct, ↓rt_rt, ↓rt_nx, ↓lo_nx, ↓lo_ct, ↓lo_bk, ↓lo_rt, ↓vq_fz, ↓vq_own, ↓oq_own, ↓sr_src, ↓tb_b, ↓ls_l, ↓iq_i, ↓l2_2, ↓il1_, ↓il2_, ↓op_some, ↓op_map,
  ↓o_addI, ↓o_addT, ↓o_addBI, ↓o_addBT, ↓o_addBL, ↓o_mulBI, ↓o_mulBL, ↓o_sub, ↓o_mul, ↓o_div, ↓o_mod, ↓o_pow, ↓o_lt, ↓o_le, ↓o_gt, ↓o_ge, ↓o_neg, ↓o_eqI, ↓o_neI, ↓o_neB, ↓o_isN, ↓o_notIsN, ↓o_isT, ↓o_notIsT, ↓o_ixT, ↓o_ixL, ↓o_len_l, ↓o_len_t, ↓o_abs, ↓o_max2, ↓o_min2, ↓o_int, ↓o_tup_l, ↓o_tup_t, ↓o_lst_l, ↓o_lst_t, ↓o_items_l, ↓o_items_t, ↓i_tt, ↓i_tl, ↓i_tn, ↓i_ti, ↓i_ss, ↓i_ii, ↓i_bi, ↓i_ib, ↓i_bb, ↓o_bnm, ↓o_btp, ↓o_bnil, ↓o_bcons,
  isN_n, isN_i, isN_b, isN_t, isN_l, isN_s, at_0, at_1, at_2, at_3, at_m1, at_nat, szl0, szl1, szl2, szl3, szl4, szl5, szl6, szl7, szl8, szl9, szl10, szl11, szl12, szl13, szl14, szl15, szl16, szk0, szk1, szk2, szk3, szk4, szk5, szk6, szk7, szk8, sl_d, sl_s,
  List.getElem?_cons_zero, List.getElem?_cons_succ, List.getElem?_map, List.set_cons_zero, List.set_cons_succ, List.map_cons, List.map_nil, List.length_map, List.replicate_succ, List.replicate_zero, List.cons_append, List.nil_append, List.length_cons, List.length_nil, List.isEmpty_nil, List.isEmpty_cons, Nat.reduceAdd, Nat.reduceSub, Int.cast_ofNat_Int, Int.reduceNe, Int.reduceEq, Nat.sub_zero, Nat.sub_self,
  decide_eq_true_eq, decide_eq_false_iff_not, Bool.not_eq_true', Bool.not_eq_false', Bool.not_true, Bool.not_false, Bool.true_eq_false, Bool.false_eq_true, true_and, and_true, forall_const, false_imp_iff, true_imp_iff, imp_self, forall_false, implies_true, not_true_eq_false, not_false_eq_true, true_implies, false_implies, eq_self_iff_true, reduceCtorEq])
/-! ### shares in lowest terms, by whole numbers -/
def shI (p q : Int) : Int × Int := shp p.toNat q.toNat
theorem E_shareI {p q : Int} (hp : 0 ≤ p) (hq : 0 < q) (hq2 : q < 2 ^ 60) (s : Src) : f_share_number [.d (.int p), .d (.int q)] s = some (pI (shI p q), s) := by
  have h := E_share p.toNat q.toNat (by omega) (by omega) s
  rw [Int.toNat_of_nonneg hp, Int.toNat_of_nonneg (by omega)] at h
  exact h
theorem E_cutI {p q : Int} (hp : 0 ≤ p) (hq : 0 < q) (hq2 : q < 2 ^ 60) (s : Src) : f__law_cut [.d (.int p), .d (.int q)] s = some (pI (shI p q), s) := by
  have h := E_cut p.toNat q.toNat (by omega) (by omega) s
  rw [Int.toNat_of_nonneg hp, Int.toNat_of_nonneg (by omega)] at h
  exact h
theorem shI_sc {p q : Int} (hp : 0 ≤ p) (hq : 0 < q) : ∃ g : Int, 0 < g ∧ p = g * (shI p q).1 ∧ q = g * (shI p q).2 ∧ 0 ≤ (shI p q).1 ∧ 0 < (shI p q).2 := by
  obtain ⟨a, rfl⟩ : ∃ a : Nat, p = a := ⟨p.toNat, by omega⟩
  obtain ⟨b, rfl⟩ : ∃ b : Nat, q = b := ⟨q.toNat, by omega⟩
  have gp : 0 < Nat.gcd a b := Nat.gcd_pos_of_pos_right a (by omega)
  have h1 : Nat.gcd a b * (a / Nat.gcd a b) = a := Nat.mul_div_cancel' (Nat.gcd_dvd_left a b)
  have h2 : Nat.gcd a b * (b / Nat.gcd a b) = b := Nat.mul_div_cancel' (Nat.gcd_dvd_right a b)
  have h3 : 0 < b / Nat.gcd a b := Nat.div_pos (Nat.le_of_dvd (by omega) (Nat.gcd_dvd_right a b)) gp
  refine ⟨(Nat.gcd a b : Nat), by omega, ?_, ?_, ?_, ?_⟩
  · show (a : Int) = ((Nat.gcd a b : Nat) : Int) * ((a / Nat.gcd a b : Nat) : Int)
    rw [← Int.natCast_mul, h1]
  · show (b : Int) = ((Nat.gcd a b : Nat) : Int) * ((b / Nat.gcd a b : Nat) : Int)
    rw [← Int.natCast_mul, h2]
  · exact Int.natCast_nonneg _
  · show (0 : Int) < ((b / Nat.gcd a b : Nat) : Int)
    omega
theorem shI_le {p q : Int} (hp : 0 ≤ p) (hq : 0 < q) : (shI p q).1 ≤ p := by
  obtain ⟨g, g0, e1, e2, n1, n2⟩ := shI_sc hp hq
  have : 1 * (shI p q).1 ≤ g * (shI p q).1 := Int.mul_le_mul_of_nonneg_right (by omega) n1
  omega
theorem shI_sml {p q : Int} (hp : 0 ≤ p) (hq : 0 < q) (h : p < 2 ^ 40) : sml (shI p q).1 := by
  obtain ⟨g, g0, e1, e2, n1, n2⟩ := shI_sc hp hq
  exact ⟨n1, Int.lt_of_le_of_lt (shI_le hp hq) h⟩
theorem sh_lt {p q p' q' : Int} (hp : 0 ≤ p) (hq : 0 < q) (hp' : 0 ≤ p') (hq' : 0 < q') : (shI p q).1 * (shI p' q').2 < (shI p' q').1 * (shI p q).2 ↔ p * q' < p' * q := by
  obtain ⟨g, g0, e1, e2, n1, n2⟩ := shI_sc hp hq
  obtain ⟨k, k0, f1, f2, m1, m2⟩ := shI_sc hp' hq'
  generalize (shI p q).1 = a at *
  generalize (shI p q).2 = b at *
  generalize (shI p' q').1 = c at *
  generalize (shI p' q').2 = d at *
  subst e1 e2 f1 f2
  have gk : 0 < g * k := Int.mul_pos g0 k0
  have x1 : g * a * (k * d) = (g * k) * (a * d) := by
    rw [Int.mul_assoc, Int.mul_assoc, Int.mul_left_comm a k d]
  have x2 : k * c * (g * b) = (g * k) * (c * b) := by
    rw [Int.mul_assoc, Int.mul_left_comm c g b, ← Int.mul_assoc, Int.mul_comm k g]
  rw [x1, x2]
  exact ⟨fun h => Int.mul_lt_mul_of_pos_left h gk, fun h => Int.lt_of_mul_lt_mul_left h (by omega)⟩
theorem shI_k {k p q : Int} (hk : 0 < k) (hp : 0 ≤ p) (hq : 0 < q) : shI (k * p) (k * q) = shI p q := by
  obtain ⟨a, rfl⟩ : ∃ a : Nat, p = a := ⟨p.toNat, by omega⟩
  obtain ⟨b, rfl⟩ : ∃ b : Nat, q = b := ⟨q.toNat, by omega⟩
  obtain ⟨c, rfl⟩ : ∃ c : Nat, k = c := ⟨k.toNat, by omega⟩
  unfold shI
  rw [← Int.natCast_mul, ← Int.natCast_mul, Int.toNat_natCast, Int.toNat_natCast, Int.toNat_natCast, Int.toNat_natCast]
  unfold shp
  rw [Nat.gcd_mul_left, Nat.mul_div_mul_left _ _ (by omega), Nat.mul_div_mul_left _ _ (by omega)]
theorem shI_eq {p q p' q' : Int} (hp : 0 ≤ p) (hq : 0 < q) (hp' : 0 ≤ p') (hq' : 0 < q') (h : p * q' = p' * q) : shI p q = shI p' q' := by
  rw [← shI_k (k := q') hq' hp hq, ← shI_k (k := q) hq hp' hq', Int.mul_comm q' p, Int.mul_comm q p', h, Int.mul_comm q' q]
theorem shI_inj {p q p' q' : Int} (hp : 0 ≤ p) (hq : 0 < q) (hp' : 0 ≤ p') (hq' : 0 < q') (h : shI p q = shI p' q') : p * q' = p' * q := by
  have h1 := sh_lt hp hq hp' hq'
  have h2 := sh_lt hp' hq' hp hq
  rw [h] at h1 h2
  by_cases c : p * q' < p' * q
  · exact absurd (h1.mpr c) (Int.lt_irrefl _)
  · by_cases c2 : p' * q < p * q'
    · exact absurd (h2.mpr c2) (Int.lt_irrefl _)
    · omega
theorem sh_one : ((1, 1) : Int × Int) = shI 1 1 := by decide
theorem grt_sh {p q p' q' : Int} (hp : 0 ≤ p) (hq : 0 < q) (hp' : 0 ≤ p') (hq' : 0 < q') : grt (shI p q) (shI p' q') = if p * q' < p' * q then shI p' q' else shI p q := by
  unfold grt
  by_cases h : p * q' < p' * q
  · rw [if_pos h, if_pos ((sh_lt hp hq hp' hq').mpr h)]
  · rw [if_neg h, if_neg (fun z => h ((sh_lt hp hq hp' hq').mp z))]
theorem grt_one {p q : Int} (hp : 0 ≤ p) (hq : 0 < q) (h : q ≤ p) : grt (1, 1) (shI p q) = shI p q := by
  rw [sh_one, grt_sh (by decide) (by decide) hp hq]
  by_cases c : 1 * q < p * 1
  · rw [if_pos c]
  · rw [if_neg c]
    exact shI_eq (by decide) (by decide) hp hq (by omega)
theorem grt_one' {p q : Int} (hp : 0 ≤ p) (hq : 0 < q) (h : p ≤ q) : grt (1, 1) (shI p q) = (1, 1) := by
  rw [sh_one, grt_sh (by decide) (by decide) hp hq, if_neg (by omega)]
/-- the share of the way s -/
def F (b low high s : Int) : Int × Int := if high < s then (if b ≤ high then shI high b else (1, 1)) else shI (s - 1 + b) (min b (max low s))
/-- numbers as they are drawn -/
structure Rn (b low high : Int) : Prop where
  b1 : 1 ≤ b
  b2 : b ≤ 1000000
  l1 : 1 ≤ low
  h1 : low ≤ high
  h2 : high ≤ 1000000
theorem F_late {b low high : Int} (r : Rn b low high) : grt (1, 1) (shI high b) = if b ≤ high then shI high b else (1, 1) := by
  obtain ⟨b1, b2, l1, h1, h2⟩ := r
  by_cases c : b ≤ high
  · rw [if_pos c, grt_one (by omega) (by omega) c]
  · rw [if_neg c, grt_one' (by omega) (by omega) (by omega)]
theorem E_knownI {b low high : Int} (r : Rn b low high) (w : Option Int) (hw : ∀ x, w = some x → 1 ≤ x ∧ x ≤ 2000000) (s : Src) :
    f_known_share [.d (.int b), .d (sD w), .d (.int low), .d (.int high)] s = some (pI (F b low high (w.getD (high + 1))), s) := by
  obtain ⟨b1, b2, l1, h1, h2⟩ := id r
  refine ca_eq ?_
  unfold f_known_share d_known_share
  cases w with
  | none =>
    unfold sD
    walk_at "wp"
    refine ca_of (E_shareI (by omega) (by omega) (by omega) s) ?_
    walk_at "wp"
    refine ca_of (E_grt (x := (1, 1)) one_sml (shI_sml (by omega) (by omega) (by omega)) s) ?_
    walk_at "wp"
    unfold F
    rw [if_pos (show high < (none : Option Int).getD (high + 1) by show high < high + 1; omega), F_late r]
  | some w =>
    obtain ⟨w1, w2⟩ := hw w rfl
    unfold sD
    walk_at "wp"
    refine ⟨fun c => ?_, fun c => ?_⟩
    · refine ca_of (E_shareI (by omega) (by omega) (by omega) s) ?_
      walk_at "wp"
      refine ca_of (E_grt (x := (1, 1)) one_sml (shI_sml (by omega) (by omega) (by omega)) s) ?_
      walk_at "wp"
      unfold F
      rw [if_pos (show high < (some w).getD (high + 1) from c), F_late r]
    · have d0 : 0 < min b (max low w) := by omega
      refine ca_of (E_shareI (by omega) d0 (by omega) s) ?_
      walk_at "wp"
      refine ca_of (E_grt (x := (1, 1)) one_sml (shI_sml (by omega) d0 (by omega)) s) ?_
      have g1 : grt (1, 1) (shI (w - 1 + b) (min b (max low w))) = shI (w - 1 + b) (min b (max low w)) := grt_one (by omega) d0 (by omega)
      rw [g1]
      walk_at "wp"
      have eF : F b low high ((some w).getD (high + 1)) = shI (w - 1 + b) (min b (max low w)) := by
        show F b low high w = _
        unfold F
        rw [if_neg c]
      refine ⟨fun c2 => ?_, fun c2 => ?_⟩
      · refine ca_of (E_shareI (by omega) (by omega) (by omega) s) ?_
        walk_at "wp"
        refine ca_of (E_grt (shI_sml (by omega) d0 (by omega)) (shI_sml (by omega) (by omega) (by omega)) s) ?_
        walk_at "wp"
        rw [eF, grt_sh (by omega) d0 (by omega) (by omega), if_neg]
        have x1 : (w - 1) * min b (max low w) ≤ (w - 1) * b := Int.mul_le_mul_of_nonneg_left (by omega) (by omega)
        have x2 : (w - 1) * b ≤ (w - 1 + b) * b := Int.mul_le_mul_of_nonneg_right (by omega) (by omega)
        omega
      · rw [eF]
theorem E_law_cost (b : Int) (w : Option Int) (d : Int) (s : Src) : f__law_cost [.d (.int b), .d (sD w), .d (.int d)] s = some (.int (rcv b w d), s) := by
  refine ca_eq ?_
  unfold f__law_cost d__law_cost
  cases w with
  | none =>
    unfold sD rcv
    walk_at "wp"
  | some w =>
    unfold sD rcv
    walk_at "wp"
    refine ⟨fun h => by rw [if_pos h], fun h => by rw [if_neg h]⟩
end K48

-- part K48l
set_option Elab.async false
set_option linter.all false
set_option maxRecDepth 100000
set_option maxHeartbeats 2000000
namespace K48
open PySem PySem.Spec PyProof.Rows L2 RZ DL
local macro_rules | `(tactic| walk_at "wp") => `(tactic| simp only [↓ca_def, ↓wp_seq, ↓wp_asg, ↓wp_asgN, ↓wp_retS, ↓wp_dropS, ↓wp_ifS, ↓wp_unpS, ↓wp_par2, ↓wp_parO, ↓wp_appS, ↓wp_forS, ↓wp_forNil, ↓wp_seqI, ↓wp_ret, ↓wp_cD, ↓wp_vD, ↓wp_op2, ↓wp_op1, ↓wp_callN, ↓wp_toB, ↓wp_andT, ↓wp_orT, ↓wp_notT, ↓wp_andV, ↓wp_orV, ↓wp_notV, ↓wp_ifD, ↓wp_chn, ↓wp_consL, ↓wp_consA, ↓wp_srcA, ↓wp_callD, ↓wp_tupD, ↓wp_lstD, ↓wp_someI, ↓wp_sliceD, ↓wp_rngD, ↓wp_rgM1, ↓wp_rgM2, ↓wp_range1, ↓wp_enumA,
  ↓sq_nx, ↓sq_rt, ↓sq_bk, ↓sq_ct, ↓rt_rt, ↓rt_nx, ↓lo_nx, ↓lo_ct, ↓lo_bk, ↓lo_rt, ↓vq_fz, ↓vq_own, ↓oq_own, ↓sr_src, ↓tb_b, ↓ls_l, ↓iq_i, ↓l2_2, ↓il1_, ↓il2_, ↓op_some, ↓op_map,
  ↓o_addI, ↓o_addT, ↓o_addBI, ↓o_addBT, ↓o_addBL, ↓o_mulBI, ↓o_mulBL, ↓o_sub, ↓o_mul, ↓o_div, ↓o_mod, ↓o_pow, ↓o_lt, ↓o_le, ↓o_gt, ↓o_ge, ↓o_neg, ↓o_eqI, ↓o_neI, ↓o_neB, ↓o_isN, ↓o_notIsN, ↓o_isT, ↓o_notIsT, ↓o_ixT, ↓o_ixL, ↓o_len_l, ↓o_len_t, ↓o_abs, ↓o_max2, ↓o_min2, ↓o_int, ↓o_tup_l, ↓o_tup_t, ↓o_lst_l, ↓o_lst_t, ↓o_items_l, ↓o_items_t, ↓i_tt, ↓i_tl, ↓i_tn, ↓i_ti, ↓i_ss, ↓i_ii, ↓i_bi, ↓i_ib, ↓i_bb, ↓o_bnm, ↓o_btp, ↓o_bnil, ↓o_bcons,
  isN_n, isN_i, isN_b, isN_t, isN_l, isN_s, at_0, at_1, at_2, at_3, at_m1, at_nat, szl0, szl1, szl2, szl3, szl4, szl5, szl6, szl7, szl8, szl9, szl10, szl11, szl12, szl13, szl14, szl15, szl16, szk0, szk1, szk2, szk3, szk4, szk5, szk6, szk7, szk8, sl_d, sl_s,
  List.getElem?_cons_zero, List.getElem?_cons_succ, List.getElem?_map, List.set_cons_zero, List.set_cons_succ, List.map_cons, List.map_nil, List.length_map, List.replicate_succ, List.replicate_zero, List.cons_append, List.nil_append, List.length_cons, List.length_nil, List.isEmpty_nil, List.isEmpty_cons, Nat.reduceAdd, Nat.reduceSub, Int.cast_ofNat_Int, Int.reduceNe, Int.reduceEq, Nat.sub_zero, Nat.sub_self,
  decide_eq_true_eq, decide_eq_false_iff_not, Bool.not_eq_true', Bool.not_eq_false', Bool.not_true, Bool.not_false, Bool.true_eq_false, Bool.false_eq_true, true_and, and_true, forall_const, false_imp_iff, true_imp_iff, imp_self, forall_false, implies_true, not_true_eq_false, not_false_eq_true, true_implies, false_implies, eq_self_iff_true, reduceCtorEq])
local macro_rules | `(tactic| walk_at "wu") => `(tactic| simp only [↓ca_def, ↓wp_seq, ↓wp_asg, ↓wp_asgN, ↓wp_retS, ↓wp_dropS, ↓wp_ifS, ↓wp_unpS, ↓wp_par2, ↓wp_parO, ↓wp_appS, ↓wp_forS, ↓wp_forNil, ↓wp_forCons, ↓wp_seqI, ↓wp_ret, ↓wp_cD, ↓wp_vD, ↓wp_op2, ↓wp_op1, ↓wp_callN, ↓wp_toB, ↓wp_andT, ↓wp_orT, ↓wp_notT, ↓wp_andV, ↓wp_orV, ↓wp_notV, ↓wp_ifD, ↓wp_chn, ↓wp_consL, ↓wp_consA, ↓wp_srcA, ↓wp_callD, ↓wp_tupD, ↓wp_lstD, ↓wp_someI, ↓wp_sliceD, ↓wp_rngD, ↓wp_rgM1, ↓wp_rgM2, ↓wp_range1, ↓wp_enumA,
  ↓sq_nx, ↓sq_rt, ↓sq_bk, ↓sq_ct, ↓rt_rt, ↓rt_nx, ↓lo_nx, ↓lo_ct, ↓lo_bk, ↓lo_rt, ↓vq_fz, ↓vq_own, ↓oq_own, ↓sr_src, ↓tb_b, ↓ls_l, ↓iq_i, ↓l2_2, ↓il1_, ↓il2_, ↓op_some, ↓op_map,
  ↓o_addI, ↓o_addT, ↓o_addBI, ↓o_addBT, ↓o_addBL, ↓o_mulBI, ↓o_mulBL, ↓o_sub, ↓o_mul, ↓o_div, ↓o_mod, ↓o_pow, ↓o_lt, ↓o_le, ↓o_gt, ↓o_ge, ↓o_neg, ↓o_eqI, ↓o_neI, ↓o_neB, ↓o_isN, ↓o_notIsN, ↓o_isT, ↓o_notIsT, ↓o_ixT, ↓o_ixL, ↓o_len_l, ↓o_len_t, ↓o_abs, ↓o_max2, ↓o_min2, ↓o_int, ↓o_tup_l, ↓o_tup_t, ↓o_lst_l, ↓o_lst_t, ↓o_items_l, ↓o_items_t, ↓i_tt, ↓i_tl, ↓i_tn, ↓i_ti, ↓i_ss, ↓i_ii, ↓i_bi, ↓i_ib, ↓i_bb, ↓o_bnm, ↓o_btp, ↓o_bnil, ↓o_bcons,
  isN_n, isN_i, isN_b, isN_t, isN_l, isN_s, at_0, at_1, at_2, at_3, at_m1, at_nat, szl0, szl1, szl2, szl3, szl4, szl5, szl6, szl7, szl8, szl9, szl10, szl11, szl12, szl13, szl14, szl15, szl16, szk0, szk1, szk2, szk3, szk4, szk5, szk6, szk7, szk8, sl_d, sl_s,
  List.getElem?_cons_zero, List.getElem?_cons_succ, List.getElem?_map, List.set_cons_zero, List.set_cons_succ, List.map_cons, List.map_nil, List.length_map, List.replicate_succ, List.replicate_zero, List.cons_append, List.nil_append, List.length_cons, List.length_nil, List.isEmpty_nil, List.isEmpty_cons, Nat.reduceAdd, Nat.reduceSub, Int.cast_ofNat_Int, Int.reduceNe, Int.reduceEq, Nat.sub_zero, Nat.sub_self,
  decide_eq_true_eq, decide_eq_false_iff_not, Bool.not_eq_true', Bool.not_eq_false', Bool.not_true, Bool.not_false, Bool.true_eq_false, Bool.false_eq_true, true_and, and_true, forall_const, false_imp_iff, true_imp_iff, imp_self, forall_false, implies_true, not_true_eq_false, not_false_eq_true, true_implies, false_implies, eq_self_iff_true, reduceCtorEq])
local macro_rules | `(tactic| walk_at "wi") => `(tactic| simp only [↓ca_def, ↓wp_seq, ↓wp_asg, ↓wp_asgN, ↓wp_retS, ↓wp_dropS, ↓wp_unpS, ↓wp_par2, ↓wp_parO, ↓wp_appS, ↓wp_forS, ↓wp_forNil, ↓wp_seqI, ↓wp_ret, ↓wp_cD, ↓wp_vD, ↓wp_op2, ↓wp_op1, ↓wp_callN, ↓wp_toB, ↓wp_andT, ↓wp_orT, ↓wp_notT, ↓wp_andV, ↓wp_orV, ↓wp_notV, ↓wp_ifD, ↓wp_chn, ↓wp_consL, ↓wp_consA, ↓wp_srcA, ↓wp_callD, ↓wp_tupD, ↓wp_lstD, ↓wp_someI, ↓wp_sliceD, ↓wp_rngD, ↓wp_rgM1, ↓wp_rgM2, ↓wp_range1, ↓wp_enumA,
  ↓sq_nx, ↓sq_rt, ↓sq_bk, ↓sq_ct, ↓rt_rt, ↓rt_nx, ↓lo_nx, ↓lo_ct, ↓lo_bk, ↓lo_rt, ↓vq_fz, ↓vq_own, ↓oq_own, ↓sr_src, ↓tb_b, ↓ls_l, ↓iq_i, ↓l2_2, ↓il1_, ↓il2_, ↓op_some, ↓op_map,
  ↓o_addI, ↓o_addT, ↓o_addBI, ↓o_addBT, ↓o_addBL, ↓o_mulBI, ↓o_mulBL, ↓o_sub, ↓o_mul, ↓o_div, ↓o_mod, ↓o_pow, ↓o_lt, ↓o_le, ↓o_gt, ↓o_ge, ↓o_neg, ↓o_eqI, ↓o_neI, ↓o_neB, ↓o_isN, ↓o_notIsN, ↓o_isT, ↓o_notIsT, ↓o_ixT, ↓o_ixL, ↓o_len_l, ↓o_len_t, ↓o_abs, ↓o_max2, ↓o_min2, ↓o_int, ↓o_tup_l, ↓o_tup_t, ↓o_lst_l, ↓o_lst_t, ↓o_items_l, ↓o_items_t, ↓i_tt, ↓i_tl, ↓i_tn, ↓i_ti, ↓i_ss, ↓i_ii, ↓i_bi, ↓i_ib, ↓i_bb, ↓o_bnm, ↓o_btp, ↓o_bnil, ↓o_bcons,
  isN_n, isN_i, isN_b, isN_t, isN_l, isN_s, at_0, at_1, at_2, at_3, at_m1, at_nat, szl0, szl1, szl2, szl3, szl4, szl5, szl6, szl7, szl8, szl9, szl10, szl11, szl12, szl13, szl14, szl15, szl16, szk0, szk1, szk2, szk3, szk4, szk5, szk6, szk7, szk8, sl_d, sl_s,
  List.getElem?_cons_zero, List.getElem?_cons_succ, List.getElem?_map, List.set_cons_zero, List.set_cons_succ, List.map_cons, List.map_nil, List.length_map, List.replicate_succ, List.replicate_zero, List.cons_append, List.nil_append, List.length_cons, List.length_nil, List.isEmpty_nil, List.isEmpty_cons, Nat.reduceAdd, Nat.reduceSub, Int.cast_ofNat_Int, Int.reduceNe, Int.reduceEq, Nat.sub_zero, Nat.sub_self,
  decide_eq_true_eq, decide_eq_false_iff_not, Bool.not_eq_true', Bool.not_eq_false', Bool.not_true, Bool.not_false, Bool.true_eq_false, Bool.false_eq_true, true_and, and_true, forall_const, false_imp_iff, true_imp_iff, imp_self, forall_false, implies_true, not_true_eq_false, not_false_eq_true, true_implies, false_implies, eq_self_iff_true, reduceCtorEq])
local macro_rules | `(tactic| walk_at "wa") => `(tactic| simp only [↓ca_def, ↓wp_seq, ↓wp_asgN, ↓wp_retS, ↓wp_dropS, ↓wp_unpS, ↓wp_par2, ↓wp_parO, ↓wp_appS, ↓wp_forS, ↓wp_forNil, ↓wp_seqI, ↓wp_ret, ↓wp_cD, ↓wp_vD, ↓wp_op2, ↓wp_op1, ↓wp_callN, ↓wp_toB, ↓wp_andT, ↓wp_orT, ↓wp_notT, ↓wp_andV, ↓wp_orV, ↓wp_notV, ↓wp_ifD, ↓wp_chn, ↓wp_consL, ↓wp_consA, ↓wp_srcA, ↓wp_callD, ↓wp_tupD, ↓wp_lstD, ↓wp_someI, ↓wp_sliceD, ↓wp_rngD, ↓wp_rgM1, ↓wp_rgM2, ↓wp_range1, ↓wp_enumA,
  ↓sq_nx, ↓sq_rt, ↓sq_bk, ↓sq_ct, ↓rt_rt, ↓rt_nx, ↓lo_nx, ↓lo_ct, ↓lo_bk, ↓lo_rt, ↓vq_fz, ↓vq_own, ↓oq_own, ↓sr_src, ↓tb_b, ↓ls_l, ↓iq_i, ↓l2_2, ↓il1_, ↓il2_, ↓op_some, ↓op_map,
  ↓o_addI, ↓o_addT, ↓o_addBI, ↓o_addBT, ↓o_addBL, ↓o_mulBI, ↓o_mulBL, ↓o_sub, ↓o_mul, ↓o_div, ↓o_mod, ↓o_pow, ↓o_lt, ↓o_le, ↓o_gt, ↓o_ge, ↓o_neg, ↓o_eqI, ↓o_neI, ↓o_neB, ↓o_isN, ↓o_notIsN, ↓o_isT, ↓o_notIsT, ↓o_ixT, ↓o_ixL, ↓o_len_l, ↓o_len_t, ↓o_abs, ↓o_max2, ↓o_min2, ↓o_int, ↓o_tup_l, ↓o_tup_t, ↓o_lst_l, ↓o_lst_t, ↓o_items_l, ↓o_items_t, ↓i_tt, ↓i_tl, ↓i_tn, ↓i_ti, ↓i_ss, ↓i_ii, ↓i_bi, ↓i_ib, ↓i_bb, ↓o_bnm, ↓o_btp, ↓o_bnil, ↓o_bcons,
  isN_n, isN_i, isN_b, isN_t, isN_l, isN_s, at_0, at_1, at_2, at_3, at_m1, at_nat, szl0, szl1, szl2, szl3, szl4, szl5, szl6, szl7, szl8, szl9, szl10, szl11, szl12, szl13, szl14, szl15, szl16, szk0, szk1, szk2, szk3, szk4, szk5, szk6, szk7, szk8, sl_d, sl_s,
  List.getElem?_cons_zero, List.getElem?_cons_succ, List.getElem?_map, List.set_cons_zero, List.set_cons_succ, List.map_cons, List.map_nil, List.length_map, List.replicate_succ, List.replicate_zero, List.cons_append, List.nil_append, List.length_cons, List.length_nil, List.isEmpty_nil, List.isEmpty_cons, Nat.reduceAdd, Nat.reduceSub, Int.cast_ofNat_Int, Int.reduceNe, Int.reduceEq, Nat.sub_zero, Nat.sub_self,
  decide_eq_true_eq, decide_eq_false_iff_not, Bool.not_eq_true', Bool.not_eq_false', Bool.not_true, Bool.not_false, Bool.true_eq_false, Bool.false_eq_true, true_and, and_true, forall_const, false_imp_iff, true_imp_iff, imp_self, forall_false, implies_true, not_true_eq_false, not_false_eq_true, true_implies, false_implies, eq_self_iff_true, reduceCtorEq])
local macro_rules | `(tactic| walk_at "wd") => `(tactic| simp only [↓ca_def, ↓wp_seq, ↓wp_asg, ↓wp_asgN, ↓wp_retS, ↓wp_dropS, ↓wp_ifS, ↓wp_unpS, ↓wp_par2, ↓wp_parO, ↓wp_appS, ↓wp_forS, ↓wp_forNil, ↓wp_seqI, ↓wp_ret, ↓wp_cD, ↓wp_vD, ↓wp_op2, ↓wp_op1, ↓wp_callN, ↓wp_toB, ↓wp_andT, ↓wp_orT, ↓wp_notT, ↓wp_andV, ↓wp_orV, ↓wp_notV, ↓wp_chn, ↓wp_consL, ↓wp_consA, ↓wp_srcA, ↓wp_callD, ↓wp_tupD, ↓wp_lstD, ↓wp_someI, ↓wp_sliceD, ↓wp_rngD, ↓wp_rgM1, ↓wp_rgM2, ↓wp_range1, ↓wp_enumA,
  ↓sq_nx, ↓sq_rt, ↓sq_bk, ↓sq_ct, ↓rt_rt, ↓rt_nx, ↓lo_nx, ↓lo_ct, ↓lo_bk, ↓lo_rt, ↓vq_fz, ↓vq_own, ↓oq_own, ↓sr_src, ↓tb_b, ↓ls_l, ↓iq_i, ↓l2_2, ↓il1_, ↓il2_, ↓op_some, ↓op_map,
  ↓o_addI, ↓o_addT, ↓o_addBI, ↓o_addBT, ↓o_addBL, ↓o_mulBI, ↓o_mulBL, ↓o_sub, ↓o_mul, ↓o_div, ↓o_mod, ↓o_pow, ↓o_lt, ↓o_le, ↓o_gt, ↓o_ge, ↓o_neg, ↓o_eqI, ↓o_neI, ↓o_neB, ↓o_isN, ↓o_notIsN, ↓o_isT, ↓o_notIsT, ↓o_ixT, ↓o_ixL, ↓o_len_l, ↓o_len_t, ↓o_abs, ↓o_max2, ↓o_min2, ↓o_int, ↓o_tup_l, ↓o_tup_t, ↓o_lst_l, ↓o_lst_t, ↓o_items_l, ↓o_items_t, ↓i_tt, ↓i_tl, ↓i_tn, ↓i_ti, ↓i_ss, ↓i_ii, ↓i_bi, ↓i_ib, ↓i_bb, ↓o_bnm, ↓o_btp, ↓o_bnil, ↓o_bcons,
  isN_n, isN_i, isN_b, isN_t, isN_l, isN_s, at_0, at_1, at_2, at_3, at_m1, at_nat, szl0, szl1, szl2, szl3, szl4, szl5, szl6, szl7, szl8, szl9, szl10, szl11, szl12, szl13, szl14, szl15, szl16, szk0, szk1, szk2, szk3, szk4, szk5, szk6, szk7, szk8, sl_d, sl_s,
  List.getElem?_cons_zero, List.getElem?_cons_succ, List.getElem?_map, List.set_cons_zero, List.set_cons_succ, List.map_cons, List.map_nil, List.length_map, List.replicate_succ, List.replicate_zero, List.cons_append, List.nil_append, List.length_cons, List.length_nil, List.isEmpty_nil, List.isEmpty_cons, Nat.reduceAdd, Nat.reduceSub, Int.cast_ofNat_Int, Int.reduceNe, Int.reduceEq, Nat.sub_zero, Nat.sub_self,
  decide_eq_true_eq, decide_eq_false_iff_not, Bool.not_eq_true', Bool.not_eq_false', Bool.not_true, Bool.not_false, Bool.true_eq_false, Bool.false_eq_true, true_and, and_true, forall_const, false_imp_iff, true_imp_iff, imp_self, forall_false, implies_true, not_true_eq_false, not_false_eq_true, true_implies, false_implies, eq_self_iff_true, reduceCtorEq])
theorem E_law_share {b low high : Int} (r : Rn b low high) (w : Option Int) (hw : ∀ x, w = some x → 1 ≤ x ∧ x ≤ 2000000) (s : Src) :
    f__law_share [.d (.int b), .d (sD w), .d (.int low), .d (.int high)] s = some (pI (F b low high (w.getD (high + 1))), s) := by
  obtain ⟨b1, b2, l1, h1, h2⟩ := id r
  have late : grt (1, 1) (shI high (min high b)) = (if b ≤ high then shI high b else (1, 1)) := by
    by_cases c : b ≤ high
    · rw [if_pos c, show min high b = b by omega, grt_one (by omega) (by omega) c]
    · rw [if_neg c, show min high b = high by omega, grt_one' (by omega) (by omega) (by omega)]
  refine ca_eq ?_
  unfold f__law_share d__law_share
  cases w with
  | none =>
    rw [show sD none = .none from rfl]
    walk_at "wu"
    refine ⟨fun c => ⟨fun c2 => ?_, fun c2 => by omega⟩, fun c => by omega⟩
    refine ca_of (E_law_cost b none high s) ?_
    walk_at "wu"
    rw [show rcv b none high = high from rfl]
    refine ca_of (E_cutI (by omega) (by omega) (by omega) s) ?_
    walk_at "wu"
    refine ca_of (E_law_grt (x := (1, 1)) one_sml (shI_sml (by omega) (by omega) (by omega)) s) ?_
    walk_at "wu"
    rw [late]
    unfold F
    rw [if_pos (show high < (none : Option Int).getD (high + 1) by show high < high + 1; omega)]
  | some w =>
    obtain ⟨w1, w2⟩ := hw w rfl
    rw [show sD (some w) = .int w from rfl]
    walk_at "wu"
    by_cases c : high < w
    · have eF : F b low high ((some w).getD (high + 1)) = (if b ≤ high then shI high b else (1, 1)) := by
        show F b low high w = _
        unfold F
        rw [if_pos c]
      rw [show min high (w - 1) = high by omega, show max low w = w by omega]
      refine ⟨fun _ => ⟨fun _ => ?_, fun c2 => by omega⟩, fun c => by omega⟩
      refine ca_of (E_law_cost b (some w) high s) ?_
      walk_at "wu"
      rw [show rcv b (some w) high = high from if_pos c]
      refine ca_of (E_cutI (by omega) (by omega) (by omega) s) ?_
      walk_at "wu"
      refine ca_of (E_law_grt (x := (1, 1)) one_sml (shI_sml (by omega) (by omega) (by omega)) s) ?_
      walk_at "wu"
      rw [late, eF]
      refine ⟨fun _ => ⟨fun _ => by omega, fun _ => rfl⟩, fun _ => rfl⟩
    · have eF : F b low high ((some w).getD (high + 1)) = shI (w - 1 + b) (min b (max low w)) := by
        show F b low high w = _
        unfold F
        rw [if_neg c]
      have d0 : 0 < min b (max low w) := by omega
      rw [show min high (w - 1) = w - 1 by omega]
      refine ⟨fun c1 => ⟨fun c2 => ?_, fun c2 => by omega⟩, fun c1 => ⟨fun _ => ⟨fun _ => ?_, fun c2 => by omega⟩, fun c2 => by omega⟩⟩
      · refine ca_of (E_law_cost b (some w) (w - 1) s) ?_
        walk_at "wu"
        rw [show rcv b (some w) (w - 1) = w - 1 from if_pos (by omega)]
        refine ca_of (E_cutI (by omega) (by omega) (by omega) s) ?_
        walk_at "wu"
        refine ca_of (E_law_grt (x := (1, 1)) one_sml (shI_sml (by omega) (by omega) (by omega)) s) ?_
        walk_at "wu"
        refine ⟨fun _ => ⟨fun _ => ?_, fun c2 => by omega⟩, fun c2 => by omega⟩
        refine ca_of (E_law_cost b (some w) (max low w) s) ?_
        walk_at "wu"
        rw [show rcv b (some w) (max low w) = w - 1 + b from if_neg (by omega), Int.min_comm (max low w) b]
        refine ca_of (E_cutI (by omega) (by omega) (by omega) s) ?_
        walk_at "wu"
        refine ca_of (E_law_grt (grt_sml one_sml (shI_sml (by omega) (by omega) (by omega))) (shI_sml (by omega) (by omega) (by omega)) s) ?_
        walk_at "wu"
        rw [eF, grt_one (by omega) (by omega) (by omega), grt_sh (by omega) (by omega) (by omega) (by omega)]
        by_cases z : (w - 1) * min b (max low w) < (w - 1 + b) * min (w - 1) b
        · rw [if_pos z]
        · rw [if_neg z, shI_eq (by omega) (by omega) (by omega) (by omega) (p' := w - 1 + b) (q' := min b (max low w))]
          have : (w - 1) * min b (max low w) ≤ (w - 1 + b) * min (w - 1) b := by
            rw [show max low w = w by omega]
            by_cases hb : b ≤ w - 1
            · rw [show min b w = b by omega, show min (w - 1) b = b by omega]
              exact Int.mul_le_mul_of_nonneg_right (by omega) (by omega)
            · rw [show min b w = w by omega, show min (w - 1) b = w - 1 by omega, Int.mul_comm (w - 1) w]
              exact Int.mul_le_mul_of_nonneg_right (by omega) (by omega)
          omega
      · refine ca_of (E_law_cost b (some w) (max low w) s) ?_
        walk_at "wu"
        rw [show rcv b (some w) (max low w) = w - 1 + b from if_neg (by omega), Int.min_comm (max low w) b]
        refine ca_of (E_cutI (by omega) (by omega) (by omega) s) ?_
        walk_at "wu"
        refine ca_of (E_law_grt (x := (1, 1)) one_sml (shI_sml (by omega) (by omega) (by omega)) s) ?_
        walk_at "wu"
        rw [eF, grt_one (by omega) (by omega) (by omega)]
/-! ### the least share, and the first way that has it -/
/-- one share is less than another one -/
def lt (x y : Int × Int) : Prop := x.1 * y.2 < y.1 * x.2
instance (x y : Int × Int) : Decidable (lt x y) := by unfold lt; infer_instance
/-- t is the first of some ways with the least share -/
structure Best (f : Int → Int × Int) (cs : List Int) (t : Int) : Prop where
  m : t ∈ cs
  l : ∀ c ∈ cs, lt (f t) (f c) ∨ (f t = f c ∧ t ≤ c)
/-- the numbers behind a share -/
def num (b low high s : Int) : Int := if high < s then (if b ≤ high then high else 1) else s - 1 + b
def den (b low high s : Int) : Int := if high < s then (if b ≤ high then b else 1) else min b (max low s)
theorem F_nd (b low high s : Int) : F b low high s = shI (num b low high s) (den b low high s) := by
  unfold F num den
  by_cases c : high < s
  · rw [if_pos c, if_pos c, if_pos c]
    by_cases c2 : b ≤ high
    · rw [if_pos c2, if_pos c2, if_pos c2]
    · rw [if_neg c2, if_neg c2, if_neg c2]
      exact sh_one
  · rw [if_neg c, if_neg c, if_neg c]
theorem nd_pos {b low high s : Int} (r : Rn b low high) (hs : 1 ≤ s) (hs2 : s ≤ 2000000) : 0 ≤ num b low high s ∧ 0 < den b low high s ∧ num b low high s < 2 ^ 40 ∧ den b low high s < 2 ^ 40 := by
  obtain ⟨b1, b2, l1, h1, h2⟩ := r
  unfold num den
  by_cases c : high < s
  · rw [if_pos c, if_pos c]
    by_cases c2 : b ≤ high
    · rw [if_pos c2, if_pos c2]
      omega
    · rw [if_neg c2, if_neg c2]
      omega
  · rw [if_neg c, if_neg c]
    omega
theorem F_sml {b low high s : Int} (r : Rn b low high) (hs : 1 ≤ s) (hs2 : s ≤ 2000000) : sml (F b low high s).1 := by
  obtain ⟨p1, p2, p3, p4⟩ := nd_pos r hs hs2
  rw [F_nd]
  exact shI_sml p1 p2 p3
theorem F_lt {b low high s t : Int} (r : Rn b low high) (hs : 1 ≤ s) (hs2 : s ≤ 2000000) (ht : 1 ≤ t) (ht2 : t ≤ 2000000) : lt (F b low high s) (F b low high t) ↔ num b low high s * den b low high t < num b low high t * den b low high s := by
  obtain ⟨p1, p2, p3, p4⟩ := nd_pos r hs hs2
  obtain ⟨q1, q2, q3, q4⟩ := nd_pos r ht ht2
  rw [F_nd, F_nd]
  exact sh_lt p1 p2 q1 q2
theorem F_tri {b low high s t : Int} (r : Rn b low high) (hs : 1 ≤ s) (hs2 : s ≤ 2000000) (ht : 1 ≤ t) (ht2 : t ≤ 2000000) : lt (F b low high s) (F b low high t) ∨ F b low high s = F b low high t ∨ lt (F b low high t) (F b low high s) := by
  obtain ⟨p1, p2, p3, p4⟩ := nd_pos r hs hs2
  obtain ⟨q1, q2, q3, q4⟩ := nd_pos r ht ht2
  rw [F_lt r hs hs2 ht ht2, F_lt r ht ht2 hs hs2]
  by_cases h : num b low high s * den b low high t = num b low high t * den b low high s
  · refine .inr (.inl ?_)
    rw [F_nd, F_nd]
    exact shI_eq p1 p2 q1 q2 h
  · omega
/-- two ways are there always: each other one is worse -/
theorem F_dom {b low high s : Int} (r : Rn b low high) (hs : 1 ≤ s) (hs2 : s ≤ high) (n1 : s ≠ 1) (n2 : s ≠ min b high) : ∃ c, (c = 1 ∨ c = min b high) ∧ lt (F b low high c) (F b low high s) := by
  obtain ⟨b1, b2, l1, h1, h2⟩ := id r
  have lo : ∀ x, x ≤ high → num b low high x = x - 1 + b ∧ den b low high x = min b (max low x) := fun x hx => by
    unfold num den
    rw [if_neg (by omega), if_neg (by omega)]
    exact ⟨rfl, rfl⟩
  obtain ⟨e1, e2⟩ := lo s hs2
  by_cases c : s ≤ low ∨ b ≤ low
  · refine ⟨1, .inl rfl, ?_⟩
    obtain ⟨f1, f2⟩ := lo 1 (by omega)
    rw [F_lt r (by omega) (by omega) hs (by omega), e1, e2, f1, f2]
    have : min b (max low s) = min b (max low 1) := by omega
    rw [this]
    exact Int.mul_lt_mul_of_pos_right (by omega) (by omega)
  · refine ⟨min b high, .inr rfl, ?_⟩
    obtain ⟨f1, f2⟩ := lo (min b high) (by omega)
    rw [F_lt r (by omega) (by omega) hs (by omega), e1, e2, f1, f2]
    by_cases c2 : s < b
    · rw [show min b (max low s) = s by omega, show min b (max low (min b high)) = min b high by omega]
      have hm : s < min b high := by omega
      generalize min b high = m at *
      have : (b - 1) * s < (b - 1) * m := Int.mul_lt_mul_of_pos_left hm (by omega)
      have x1 : (m - 1 + b) * s = m * s + (b - 1) * s := by rw [show m - 1 + b = m + (b - 1) by omega, Int.add_mul]
      have x2 : (s - 1 + b) * m = m * s + (b - 1) * m := by rw [show s - 1 + b = s + (b - 1) by omega, Int.add_mul, Int.mul_comm s m]
      omega
    · rw [show min b high = b by omega, show min b (max low s) = b by omega, show min b (max low b) = b by omega]
      exact Int.mul_lt_mul_of_pos_right (by omega) (by omega)
end K48

-- part K48m
set_option Elab.async false
set_option linter.all false
set_option maxRecDepth 100000
set_option maxHeartbeats 2000000
namespace K48
open PySem PySem.Spec PyProof.Rows L2 RZ DL
local macro_rules | `(tactic| walk_at "wp") => `(tactic| simp only [↓ca_def, ↓wp_seq, ↓wp_asg, ↓wp_asgN, ↓wp_retS, ↓wp_dropS, ↓wp_ifS, ↓wp_unpS, ↓wp_par2, ↓wp_parO, ↓wp_appS, ↓wp_forS, ↓wp_forNil, ↓wp_seqI, ↓wp_ret, ↓wp_cD, ↓wp_vD, ↓wp_op2, ↓wp_op1, ↓wp_callN, ↓wp_toB, ↓wp_andT, ↓wp_orT, ↓wp_notT, ↓wp_andV, ↓wp_orV, ↓wp_notV, ↓wp_ifD, ↓wp_chn, ↓wp_consL, ↓wp_consA, ↓wp_srcA, ↓wp_callD, ↓wp_tupD, ↓wp_lstD, ↓wp_someI, ↓wp_sliceD, ↓wp_rngD, ↓wp_rgM1, ↓wp_rgM2, ↓wp_range1, ↓wp_enumA,
  ↓sq_nx, ↓sq_rt, ↓sq_bk, ↓sq_ct, ↓rt_rt, ↓rt_nx, ↓lo_nx, ↓lo_ct, ↓lo_bk, ↓lo_rt, ↓vq_fz, ↓vq_own, ↓oq_own, ↓sr_src, ↓tb_b, ↓ls_l, ↓iq_i, ↓l2_2, ↓il1_, ↓il2_, ↓op_some, ↓op_map,
  ↓o_addI, ↓o_addT, ↓o_addBI, ↓o_addBT, ↓o_addBL, ↓o_mulBI, ↓o_mulBL, ↓o_sub, ↓o_mul, ↓o_div, ↓o_mod, ↓o_pow, ↓o_lt, ↓o_le, ↓o_gt, ↓o_ge, ↓o_neg, ↓o_eqI, ↓o_neI, ↓o_neB, ↓o_isN, ↓o_notIsN, ↓o_isT, ↓o_notIsT, ↓o_ixT, ↓o_ixL, ↓o_len_l, ↓o_len_t, ↓o_abs, ↓o_max2, ↓o_min2, ↓o_int, ↓o_tup_l, ↓o_tup_t, ↓o_lst_l, ↓o_lst_t, ↓o_items_l, ↓o_items_t, ↓i_tt, ↓i_tl, ↓i_tn, ↓i_ti, ↓i_ss, ↓i_ii, ↓i_bi, ↓i_ib, ↓i_bb, ↓o_bnm, ↓o_btp, ↓o_bnil, ↓o_bcons,
  isN_n, isN_i, isN_b, isN_t, isN_l, isN_s, at_0, at_1, at_2, at_3, at_m1, at_nat, szl0, szl1, szl2, szl3, szl4, szl5, szl6, szl7, szl8, szl9, szl10, szl11, szl12, szl13, szl14, szl15, szl16, szk0, szk1, szk2, szk3, szk4, szk5, szk6, szk7, szk8, sl_d, sl_s,
  List.getElem?_cons_zero, List.getElem?_cons_succ, List.getElem?_map, List.set_cons_zero, List.set_cons_succ, List.map_cons, List.map_nil, List.length_map, List.replicate_succ, List.replicate_zero, List.cons_append, List.nil_append, List.length_cons, List.length_nil, List.isEmpty_nil, List.isEmpty_cons, Nat.reduceAdd, Nat.reduceSub, Int.cast_ofNat_Int, Int.reduceNe, Int.reduceEq, Nat.sub_zero, Nat.sub_self,
  decide_eq_true_eq, decide_eq_false_iff_not, Bool.not_eq_true', Bool.not_eq_false', Bool.not_true, Bool.not_false, Bool.true_eq_false, Bool.false_eq_true, true_and, and_true, forall_const, false_imp_iff, true_imp_iff, imp_self, forall_false, implies_true, not_true_eq_false, not_false_eq_true, true_implies, false_implies, eq_self_iff_true, reduceCtorEq])
local macro_rules | `(tactic| walk_at "wu") => `(tactic| simp only [↓ca_def, ↓wp_seq, ↓wp_asg, ↓wp_asgN, ↓wp_retS, ↓wp_dropS, ↓wp_ifS, ↓wp_unpS, ↓wp_par2, ↓wp_parO, ↓wp_appS, ↓wp_forS, ↓wp_forNil, ↓wp_forCons, ↓wp_seqI, ↓wp_ret, ↓wp_cD, ↓wp_vD, ↓wp_op2, ↓wp_op1, ↓wp_callN, ↓wp_toB, ↓wp_andT, ↓wp_orT, ↓wp_notT, ↓wp_andV, ↓wp_orV, ↓wp_notV, ↓wp_ifD, ↓wp_chn, ↓wp_consL, ↓wp_consA, ↓wp_srcA, ↓wp_callD, ↓wp_tupD, ↓wp_lstD, ↓wp_someI, ↓wp_sliceD, ↓wp_rngD, ↓wp_rgM1, ↓wp_rgM2, ↓wp_range1, ↓wp_enumA,
  ↓sq_nx, ↓sq_rt, ↓sq_bk, ↓sq_ct, ↓rt_rt, ↓rt_nx, ↓lo_nx, ↓lo_ct, ↓lo_bk, ↓lo_rt, ↓vq_fz, ↓vq_own, ↓oq_own, ↓sr_src, ↓tb_b, ↓ls_l, ↓iq_i, ↓l2_2, ↓il1_, ↓il2_, ↓op_some, ↓op_map,
  ↓o_addI, ↓o_addT, ↓o_addBI, ↓o_addBT, ↓o_addBL, ↓o_mulBI, ↓o_mulBL, ↓o_sub, ↓o_mul, ↓o_div, ↓o_mod, ↓o_pow, ↓o_lt, ↓o_le, ↓o_gt, ↓o_ge, ↓o_neg, ↓o_eqI, ↓o_neI, ↓o_neB, ↓o_isN, ↓o_notIsN, ↓o_isT, ↓o_notIsT, ↓o_ixT, ↓o_ixL, ↓o_len_l, ↓o_len_t, ↓o_abs, ↓o_max2, ↓o_min2, ↓o_int, ↓o_tup_l, ↓o_tup_t, ↓o_lst_l, ↓o_lst_t, ↓o_items_l, ↓o_items_t, ↓i_tt, ↓i_tl, ↓i_tn, ↓i_ti, ↓i_ss, ↓i_ii, ↓i_bi, ↓i_ib, ↓i_bb, ↓o_bnm, ↓o_btp, ↓o_bnil, ↓o_bcons,
  isN_n, isN_i, isN_b, isN_t, isN_l, isN_s, at_0, at_1, at_2, at_3, at_m1, at_nat, szl0, szl1, szl2, szl3, szl4, szl5, szl6, szl7, szl8, szl9, szl10, szl11, szl12, szl13, szl14, szl15, szl16, szk0, szk1, szk2, szk3, szk4, szk5, szk6, szk7, szk8, sl_d, sl_s,
  List.getElem?_cons_zero, List.getElem?_cons_succ, List.getElem?_map, List.set_cons_zero, List.set_cons_succ, List.map_cons, List.map_nil, List.length_map, List.replicate_succ, List.replicate_zero, List.cons_append, List.nil_append, List.length_cons, List.length_nil, List.isEmpty_nil, List.isEmpty_cons, Nat.reduceAdd, Nat.reduceSub, Int.cast_ofNat_Int, Int.reduceNe, Int.reduceEq, Nat.sub_zero, Nat.sub_self,
  decide_eq_true_eq, decide_eq_false_iff_not, Bool.not_eq_true', Bool.not_eq_false', Bool.not_true, Bool.not_false, Bool.true_eq_false, Bool.false_eq_true, true_and, and_true, forall_const, false_imp_iff, true_imp_iff, imp_self, forall_false, implies_true, not_true_eq_false, not_false_eq_true, true_implies, false_implies, eq_self_iff_true, reduceCtorEq])
local macro_rules | `(tactic| walk_at "wi") => `(tactic| simp only [↓ca_def, ↓wp_seq, ↓wp_asg, ↓wp_asgN, ↓wp_retS, ↓wp_dropS, ↓wp_unpS, ↓wp_par2, ↓wp_parO, ↓wp_appS, ↓wp_forS, ↓wp_forNil, ↓wp_seqI, ↓wp_ret, ↓wp_cD, ↓wp_vD, ↓wp_op2, ↓wp_op1, ↓wp_callN, ↓wp_toB, ↓wp_andT, ↓wp_orT, ↓wp_notT, ↓wp_andV, ↓wp_orV, ↓wp_notV, ↓wp_ifD, ↓wp_chn, ↓wp_consL, ↓wp_consA, ↓wp_srcA, ↓wp_callD, ↓wp_tupD, ↓wp_lstD, ↓wp_someI, ↓wp_sliceD, ↓wp_rngD, ↓wp_rgM1, ↓wp_rgM2, ↓wp_range1, ↓wp_enumA,
  ↓sq_nx, ↓sq_rt, ↓sq_bk, ↓sq_ct, ↓rt_rt, ↓rt_nx, ↓lo_nx, ↓lo_ct, ↓lo_bk, ↓lo_rt, ↓vq_fz, ↓vq_own, ↓oq_own, ↓sr_src, ↓tb_b, ↓ls_l, ↓iq_i, ↓l2_2, ↓il1_, ↓il2_, ↓op_some, ↓op_map,
  ↓o_addI, ↓o_addT, ↓o_addBI, ↓o_addBT, ↓o_addBL, ↓o_mulBI, ↓o_mulBL, ↓o_sub, ↓o_mul, ↓o_div, ↓o_mod, ↓o_pow, ↓o_lt, ↓o_le, ↓o_gt, ↓o_ge, ↓o_neg, ↓o_eqI, ↓o_neI, ↓o_neB, ↓o_isN, ↓o_notIsN, ↓o_isT, ↓o_notIsT, ↓o_ixT, ↓o_ixL, ↓o_len_l, ↓o_len_t, ↓o_abs, ↓o_max2, ↓o_min2, ↓o_int, ↓o_tup_l, ↓o_tup_t, ↓o_lst_l, ↓o_lst_t, ↓o_items_l, ↓o_items_t, ↓i_tt, ↓i_tl, ↓i_tn, ↓i_ti, ↓i_ss, ↓i_ii, ↓i_bi, ↓i_ib, ↓i_bb, ↓o_bnm, ↓o_btp, ↓o_bnil, ↓o_bcons,
  isN_n, isN_i, isN_b, isN_t, isN_l, isN_s, at_0, at_1, at_2, at_3, at_m1, at_nat, szl0, szl1, szl2, szl3, szl4, szl5, szl6, szl7, szl8, szl9, szl10, szl11, szl12, szl13, szl14, szl15, szl16, szk0, szk1, szk2, szk3, szk4, szk5, szk6, szk7, szk8, sl_d, sl_s,
  List.getElem?_cons_zero, List.getElem?_cons_succ, List.getElem?_map, List.set_cons_zero, List.set_cons_succ, List.map_cons, List.map_nil, List.length_map, List.replicate_succ, List.replicate_zero, List.cons_append, List.nil_append, List.length_cons, List.length_nil, List.isEmpty_nil, List.isEmpty_cons, Nat.reduceAdd, Nat.reduceSub, Int.cast_ofNat_Int, Int.reduceNe, Int.reduceEq, Nat.sub_zero, Nat.sub_self,
  decide_eq_true_eq, decide_eq_false_iff_not, Bool.not_eq_true', Bool.not_eq_false', Bool.not_true, Bool.not_false, Bool.true_eq_false, Bool.false_eq_true, true_and, and_true, forall_const, false_imp_iff, true_imp_iff, imp_self, forall_false, implies_true, not_true_eq_false, not_false_eq_true, true_implies, false_implies, eq_self_iff_true, reduceCtorEq])
local macro_rules | `(tactic| walk_at "wa") => `(tactic| simp only [↓ca_def, ↓wp_seq, ↓wp_asgN, ↓wp_retS, ↓wp_dropS, ↓wp_unpS, ↓wp_par2, ↓wp_parO, ↓wp_appS, ↓wp_forS, ↓wp_forNil, ↓wp_seqI, ↓wp_ret, ↓wp_cD, ↓wp_vD, ↓wp_op2, ↓wp_op1, ↓wp_callN, ↓wp_toB, ↓wp_andT, ↓wp_orT, ↓wp_notT, ↓wp_andV, ↓wp_orV, ↓wp_notV, ↓wp_ifD, ↓wp_chn, ↓wp_consL, ↓wp_consA, ↓wp_srcA, ↓wp_callD, ↓wp_tupD, ↓wp_lstD, ↓wp_someI, ↓wp_sliceD, ↓wp_rngD, ↓wp_rgM1, ↓wp_rgM2, ↓wp_range1, ↓wp_enumA,
  ↓sq_nx, ↓sq_rt, ↓sq_bk, ↓sq_ct, ↓rt_rt, ↓rt_nx, ↓lo_nx, ↓lo_ct, ↓lo_bk, ↓lo_rt, ↓vq_fz, ↓vq_own, ↓oq_own, ↓sr_src, ↓tb_b, ↓ls_l, ↓iq_i, ↓l2_2, ↓il1_, ↓il2_, ↓op_some, ↓op_map,
  ↓o_addI, ↓o_addT, ↓o_addBI, ↓o_addBT, ↓o_addBL, ↓o_mulBI, ↓o_mulBL, ↓o_sub, ↓o_mul, ↓o_div, ↓o_mod, ↓o_pow, ↓o_lt, ↓o_le, ↓o_gt, ↓o_ge, ↓o_neg, ↓o_eqI, ↓o_neI, ↓o_neB, ↓o_isN, ↓o_notIsN, ↓o_isT, ↓o_notIsT, ↓o_ixT, ↓o_ixL, ↓o_len_l, ↓o_len_t, ↓o_abs, ↓o_max2, ↓o_min2, ↓o_int, ↓o_tup_l, ↓o_tup_t, ↓o_lst_l, ↓o_lst_t, ↓o_items_l, ↓o_items_t, ↓i_tt, ↓i_tl, ↓i_tn, ↓i_ti, ↓i_ss, ↓i_ii, ↓i_bi, ↓i_ib, ↓i_bb, ↓o_bnm, ↓o_btp, ↓o_bnil, ↓o_bcons,
  isN_n, isN_i, isN_b, isN_t, isN_l, isN_s, at_0, at_1, at_2, at_3, at_m1, at_nat, szl0, szl1, szl2, szl3, szl4, szl5, szl6, szl7, szl8, szl9, szl10, szl11, szl12, szl13, szl14, szl15, szl16, szk0, szk1, szk2, szk3, szk4, szk5, szk6, szk7, szk8, sl_d, sl_s,
  List.getElem?_cons_zero, List.getElem?_cons_succ, List.getElem?_map, List.set_cons_zero, List.set_cons_succ, List.map_cons, List.map_nil, List.length_map, List.replicate_succ, List.replicate_zero, List.cons_append, List.nil_append, List.length_cons, List.length_nil, List.isEmpty_nil, List.isEmpty_cons, Nat.reduceAdd, Nat.reduceSub, Int.cast_ofNat_Int, Int.reduceNe, Int.reduceEq, Nat.sub_zero, Nat.sub_self,
  decide_eq_true_eq, decide_eq_false_iff_not, Bool.not_eq_true', Bool.not_eq_false', Bool.not_true, Bool.not_false, Bool.true_eq_false, Bool.false_eq_true, true_and, and_true, forall_const, false_imp_iff, true_imp_iff, imp_self, forall_false, implies_true, not_true_eq_false, not_false_eq_true, true_implies, false_implies, eq_self_iff_true, reduceCtorEq])
local macro_rules | `(tactic| walk_at "wd") => `(tactic| simp only [↓ca_def, ↓wp_seq, ↓wp_asg, ↓wp_asgN, ↓wp_retS, ↓wp_dropS, ↓wp_ifS, ↓wp_unpS, ↓wp_par2, ↓wp_parO, ↓wp_appS, ↓wp_forS, ↓wp_forNil, ↓wp_seqI, ↓wp_ret, ↓wp_cD, ↓wp_vD, ↓wp_op2, ↓wp_op1, ↓wp_callN, ↓wp_toB, ↓wp_andT, ↓wp_orT, ↓wp_notT, ↓wp_andV, ↓wp_orV, ↓wp_notV, ↓wp_chn, ↓wp_consL, ↓wp_consA, ↓wp_srcA, ↓wp_callD, ↓wp_tupD, ↓wp_lstD, ↓wp_someI, ↓wp_sliceD, ↓wp_rngD, ↓wp_rgM1, ↓wp_rgM2, ↓wp_range1, ↓wp_enumA,
  ↓sq_nx, ↓sq_rt, ↓sq_bk, ↓sq_ct, ↓rt_rt, ↓rt_nx, ↓lo_nx, ↓lo_ct, ↓lo_bk, ↓lo_rt, ↓vq_fz, ↓vq_own, ↓oq_own, ↓sr_src, ↓tb_b, ↓ls_l, ↓iq_i, ↓l2_2, ↓il1_, ↓il2_, ↓op_some, ↓op_map,
  ↓o_addI, ↓o_addT, ↓o_addBI, ↓o_addBT, ↓o_addBL, ↓o_mulBI, ↓o_mulBL, ↓o_sub, ↓o_mul, ↓o_div, ↓o_mod, ↓o_pow, ↓o_lt, ↓o_le, ↓o_gt, ↓o_ge, ↓o_neg, ↓o_eqI, ↓o_neI, ↓o_neB, ↓o_isN, ↓o_notIsN, ↓o_isT, ↓o_notIsT, ↓o_ixT, ↓o_ixL, ↓o_len_l, ↓o_len_t, ↓o_abs, ↓o_max2, ↓o_min2, ↓o_int, ↓o_tup_l, ↓o_tup_t, ↓o_lst_l, ↓o_lst_t, ↓o_items_l, ↓o_items_t, ↓i_tt, ↓i_tl, ↓i_tn, ↓i_ti, ↓i_ss, ↓i_ii, ↓i_bi, ↓i_ib, ↓i_bb, ↓o_bnm, ↓o_btp, ↓o_bnil, ↓o_bcons,
  isN_n, isN_i, isN_b, isN_t, isN_l, isN_s, at_0, at_1, at_2, at_3, at_m1, at_nat, szl0, szl1, szl2, szl3, szl4, szl5, szl6, szl7, szl8, szl9, szl10, szl11, szl12, szl13, szl14, szl15, szl16, szk0, szk1, szk2, szk3, szk4, szk5, szk6, szk7, szk8, sl_d, sl_s,
  List.getElem?_cons_zero, List.getElem?_cons_succ, List.getElem?_map, List.set_cons_zero, List.set_cons_succ, List.map_cons, List.map_nil, List.length_map, List.replicate_succ, List.replicate_zero, List.cons_append, List.nil_append, List.length_cons, List.length_nil, List.isEmpty_nil, List.isEmpty_cons, Nat.reduceAdd, Nat.reduceSub, Int.cast_ofNat_Int, Int.reduceNe, Int.reduceEq, Nat.sub_zero, Nat.sub_self,
  decide_eq_true_eq, decide_eq_false_iff_not, Bool.not_eq_true', Bool.not_eq_false', Bool.not_true, Bool.not_false, Bool.true_eq_false, Bool.false_eq_true, true_and, and_true, forall_const, false_imp_iff, true_imp_iff, imp_self, forall_false, implies_true, not_true_eq_false, not_false_eq_true, true_implies, false_implies, eq_self_iff_true, reduceCtorEq])
theorem o_eqP {K : D → Prop} (x y : Int × Int) : OP (eqD (pI x) (pI y)) K = K (.bool (decide (x = y))) := by
  have e : eqD (pI x) (pI y) = some (.bool (decide (x = y))) := by
    unfold eqD okD
    rw [if_pos (by simp [PyData.canLay0, PyData.canLayAll0, PyData.depth, PyData.depthAll])]
    obtain ⟨a, b⟩ := x
    obtain ⟨c, d⟩ := y
    simp only [PyData.eqv, PyData.eqvAll, Bool.and_true, Prod.mk.injEq, Bool.decide_and]
    rfl
  rw [e]
  exact op_some _ _
theorem E_less {x y : Int × Int} (hx : sml x.1) (hy : sml y.1) (s : Src) : f_is_less_share [.d (pI x), .d (pI y)] s = some (.bool (decide (lt x y)), s) := by
  refine ca_eq ?_
  unfold f_is_less_share d_is_less_share
  walk_at "wu"
  exact ⟨sml_mul hx, sml_mul hy, rfl⟩
theorem shI_pos (p : Int) {q : Int} (hq : 0 < q) : 0 < (shI p q).2 := by
  unfold shI shp
  have gp : 0 < Nat.gcd p.toNat q.toNat := Nat.gcd_pos_of_pos_right _ (by omega)
  have h3 : 0 < q.toNat / Nat.gcd p.toNat q.toNat := Nat.div_pos (Nat.le_of_dvd (by omega) (Nat.gcd_dvd_right _ _)) gp
  show (0 : Int) < ((q.toNat / Nat.gcd p.toNat q.toNat : Nat) : Int)
  omega
theorem F_pos {b low high : Int} (r : Rn b low high) (s : Int) : 0 < (F b low high s).2 := by
  obtain ⟨b1, b2, l1, h1, h2⟩ := r
  unfold F
  by_cases c : high < s
  · rw [if_pos c]
    by_cases c2 : b ≤ high
    · rw [if_pos c2]
      exact shI_pos _ (by omega)
    · rw [if_neg c2]
      decide
  · rw [if_neg c]
    exact shI_pos _ (by omega)
theorem lt_tr {x y z : Int × Int} (hx : 0 < x.2) (hy : 0 < y.2) (hz : 0 < z.2) (h1 : lt x y) (h2 : lt y z) : lt x z := by
  obtain ⟨a, b⟩ := x
  obtain ⟨c, d⟩ := y
  obtain ⟨e, f⟩ := z
  simp only [lt] at *
  have a1 : a * d * f < c * b * f := Int.mul_lt_mul_of_pos_right h1 hz
  have a2 : c * f * b < e * d * b := Int.mul_lt_mul_of_pos_right h2 hx
  have e1 : a * d * f = d * (a * f) := by rw [Int.mul_comm a d, Int.mul_assoc]
  have e2 : c * b * f = c * f * b := by rw [Int.mul_assoc, Int.mul_comm b f, ← Int.mul_assoc]
  have e3 : e * d * b = d * (e * b) := by rw [Int.mul_comm e d, Int.mul_assoc]
  exact Int.lt_of_mul_lt_mul_left (a := d) (by omega) (by omega)
theorem lt_ir (x : Int × Int) : ¬ lt x x := Int.lt_irrefl _
section
variable {f : Int → Int × Int} {cs : List Int} {t x : Int}
theorem Best.take (hf : ∀ c, 0 < (f c).2) (h : Best f cs t) (c : lt (f x) (f t) ∨ (f x = f t ∧ x < t)) : Best f (cs ++ [x]) x := by
  refine ⟨by simp, fun y hy => ?_⟩
  rw [List.mem_append, List.mem_singleton] at hy
  rcases hy with hy | rfl
  · rcases h.l y hy with h1 | ⟨h1, h2⟩
    · rcases c with c | ⟨c, _⟩
      · exact .inl (lt_tr (hf _) (hf _) (hf _) c h1)
      · rw [c]
        exact .inl h1
    · rcases c with c | ⟨c, c'⟩
      · rw [← h1]
        exact .inl c
      · exact .inr ⟨c.trans h1, by omega⟩
  · exact .inr ⟨rfl, Int.le_refl _⟩
theorem Best.keep (h : Best f cs t) (tri : lt (f t) (f x) ∨ f t = f x ∨ lt (f x) (f t)) (c : ¬ (lt (f x) (f t) ∨ (f x = f t ∧ x < t))) : Best f (cs ++ [x]) t := by
  refine ⟨by simp [h.m], fun y hy => ?_⟩
  rw [List.mem_append, List.mem_singleton] at hy
  rcases hy with hy | rfl
  · exact h.l y hy
  · rcases tri with z | z | z
    · exact .inl z
    · exact .inr ⟨z, by
        by_cases q : y < t
        · exact absurd (.inr ⟨z.symm, q⟩) c
        · omega⟩
    · exact absurd (.inl z) c
theorem Best.uniq {t' : Int} (hf : ∀ c, 0 < (f c).2) (h : Best f cs t) (h' : Best f cs t') : t = t' := by
  rcases h.l t' h'.m with a | ⟨a, b⟩
  · rcases h'.l t h.m with c | ⟨c, d⟩
    · exact absurd (lt_tr (hf _) (hf _) (hf _) a c) (lt_ir _)
    · rw [c] at a
      exact absurd a (lt_ir _)
  · rcases h'.l t h.m with c | ⟨c, d⟩
    · rw [a] at c
      exact absurd c (lt_ir _)
    · omega
end
/-- of all ways -/
theorem Best.all {b low high : Int} (r : Rn b low high) {cs : List Int} {t : Int} (h : Best (F b low high) cs t) (hc : ∀ c ∈ cs, 1 ≤ c ∧ c ≤ high + 1) (m1 : 1 ∈ cs) (m2 : min b high ∈ cs) (m3 : high + 1 ∈ cs) : Best (F b low high) (ir 1 (high + 2)) t := by
  refine ⟨ir_mem.mpr (by have := hc t h.m; omega), fun c hcc => ?_⟩
  have hr := ir_mem.mp hcc
  by_cases c1 : c = 1
  · exact h.l c (c1 ▸ m1)
  by_cases c2 : c = min b high
  · exact h.l c (c2 ▸ m2)
  by_cases c3 : c = high + 1
  · exact h.l c (c3 ▸ m3)
  obtain ⟨d, hd, hl⟩ := F_dom r (s := c) (by omega) (by omega) c1 c2
  have : d ∈ cs := by rcases hd with rfl | rfl <;> assumption
  rcases h.l d this with z | ⟨z, _⟩
  · exact .inl (lt_tr (F_pos r _) (F_pos r _) (F_pos r _) z hl)
  · rw [z]
    exact .inl hl
theorem E_told_known_way {b low high : Int} (r : Rn b low high) (s : Src) : ∃ t, Best (F b low high) (ir 1 (high + 2)) t ∧ f_told_known_way [.d (.int b), .d (.int low), .d (.int high)] s = some (.int t, s) := by
  obtain ⟨b1, b2, l1, h1, h2⟩ := id r
  have key : CA f_told_known_way [.d (.int b), .d (.int low), .d (.int high)] s fun d s' => ∃ t, Best (F b low high) (ir 1 (high + 2)) t ∧ d = .int t ∧ s' = s := by
    unfold f_told_known_way d_told_known_way
    walk_at "wp"
    refine ca_of (E_knownI r none (by simp) s) ?_
    walk_at "wp"
    rw [show (none : Option Int).getD (high + 1) = high + 1 from rfl]
    refine wp_for PyData.int (fun pre S => ∃ t j5 j6, S = ⟨[.fz (.int b), .fz (.int low), .fz (.int high), .fz (.int t), .fz (pI (F b low high t)), j5, j6], s⟩ ∧ Best (F b low high) ((high + 1) :: pre) t ∧ 1 ≤ t ∧ t ≤ 2000000) [1, low, min b high, high] ?_ ?_ ?_
    · refine ⟨high + 1, .un, .un, rfl, ⟨by simp, fun c hc => ?_⟩, by omega, by omega⟩
      have : c = high + 1 := by simpa using hc
      subst this
      exact .inr ⟨rfl, Int.le_refl _⟩
    · rintro pre x post S hx ⟨t, j5, j6, rfl, hb, t1, t2⟩
      have hm : x ∈ [1, low, min b high, high] := by rw [hx]; simp
      have hr : 1 ≤ x ∧ x ≤ high := by
        simp only [List.mem_cons, List.not_mem_nil, or_false] at hm
        omega
      walk_at "wp"
      refine ca_of (E_knownI r (some x) (fun y hy => by cases hy; omega) s) ?_
      walk_at "wp"
      rw [show (some x).getD (high + 1) = x from rfl]
      refine ca_of (E_less (F_sml r (by omega) (by omega)) (F_sml r t1 t2) s) ?_
      have tri := F_tri (t := x) r t1 t2 hr.1 (by omega)
      walk_at "wp"
      refine ⟨fun c => ?_, fun c => ?_⟩
      · exact ⟨x, _, _, rfl, hb.take (F_pos r) (.inl c), by omega, by omega⟩
      · rw [o_eqP]
        walk_at "wp"
        refine ⟨fun c2 => ⟨fun c3 => ⟨x, _, _, rfl, hb.take (F_pos r) (.inr ⟨c2, c3⟩), by omega, by omega⟩, fun c3 => ⟨t, _, _, rfl, hb.keep tri (fun z => z.elim c fun z => c3 z.2), t1, t2⟩⟩, fun c2 => ⟨t, _, _, rfl, hb.keep tri (fun z => z.elim c fun z => c2 z.1), t1, t2⟩⟩
    · rintro S ⟨t, j5, j6, rfl, hb, t1, t2⟩
      walk_at "wp"
      exact ⟨t, hb.all r (fun c hc => by simp only [List.cons_append, List.nil_append, List.mem_cons, List.not_mem_nil, or_false] at hc; omega) (by simp) (by simp) (by simp), rfl⟩
  obtain ⟨d, s', e, t, h, rfl, rfl⟩ := key
  exact ⟨t, h, e⟩
theorem E_least_known {b low high : Int} (r : Rn b low high) (s : Src) : ∃ t, Best (F b low high) (ir 1 (high + 2)) t ∧ f_least_known_share [.d (.int b), .d (.int low), .d (.int high)] s = some (pI (F b low high t), s) := by
  obtain ⟨t, ht, e⟩ := E_told_known_way r s
  refine ⟨t, ht, ca_eq ?_⟩
  have hm := ir_mem.mp ht.m
  unfold f_least_known_share d_least_known_share
  walk_at "wp"
  refine ca_of e ?_
  walk_at "wp"
  refine ca_of (E_knownI r (some t) (fun y hy => by cases hy; have := r.h2; omega) s) ?_
  walk_at "wp"
  rfl
/-- the candidates of the law, in a row -/
def cnd (b high : Int) : List Int := if min b high = 1 then [1, high + 1] else [1, min b high, high + 1]
theorem o_sd3 {K : D → Prop} {b high : Int} (hb : 1 ≤ b) (hh : 1 ≤ high) (z1 z2 z3 : D) : OP (sdD (.list [.tuple [.int 1, z1], .tuple [.int (min b high), z2], .tuple [.int (high + 1), z3]])) K = K (.list ((cnd b high).map PyData.int)) := by
  have e : sdD (.list [.tuple [.int 1, z1], .tuple [.int (min b high), z2], .tuple [.int (high + 1), z3]]) = some (.list ((cnd b high).map PyData.int)) := by
    have so : ∀ xs : List Int, xs.Pairwise (· ≤ ·) → sortI xs = xs := fun xs h => sorted_uniq (sortI_perm xs) (sortI_sorted xs) h
    show some (PyData.list ((sortI (distinct [1, min b high, high + 1])).map .int)) = _
    congr 3
    unfold cnd distinct
    by_cases c : min b high = 1
    · rw [if_pos c, c]
      have : [1, 1, high + 1].foldl distStep [] = [1, high + 1] := by
        simp [distStep]
        omega
      rw [this]
      exact so _ (by simp; omega)
    · rw [if_neg c]
      have : [1, min b high, high + 1].foldl distStep [] = [1, min b high, high + 1] := by
        have c' : ¬ (min b high = 1) := c
        have c2 : ¬ (high + 1 = 1) := by omega
        have c3 : ¬ (high + 1 = min b high) := by omega
        simp only [List.foldl_cons, List.foldl_nil, distStep]
        simp [c', c2, c3]
      rw [this]
      exact so _ (by simp; omega)
  rw [e]
  exact op_some _ _
theorem E_law_told {b low high : Int} (r : Rn b low high) (s : Src) : ∃ t, Best (F b low high) (ir 1 (high + 2)) t ∧ f__law_told [.d (.int b), .d (.int low), .d (.int high)] s = some (.tuple [pI (F b low high t), .int t], s) := by
  obtain ⟨b1, b2, l1, h1, h2⟩ := id r
  have mem : ∀ c ∈ cnd b high, 1 ≤ c ∧ c ≤ high + 1 := fun c hc => by
    unfold cnd at hc
    split at hc <;> simp only [List.mem_cons, List.not_mem_nil, or_false] at hc <;> omega
  have srt : (cnd b high).Pairwise (· < ·) := by
    unfold cnd
    split <;> simp <;> omega
  have key : CA f__law_told [.d (.int b), .d (.int low), .d (.int high)] s fun d s' => ∃ t, Best (F b low high) (ir 1 (high + 2)) t ∧ d = .tuple [pI (F b low high t), .int t] ∧ s' = s := by
    unfold f__law_told d__law_told
    walk_at "wp"
    rw [o_sd3 b1 (by omega)]
    walk_at "wp"
    refine wp_for PyData.int (fun pre S => ∃ x y j5 j6, S = ⟨[.fz (.int b), .fz (.int low), .fz (.int high), .fz x, .fz y, j5, j6], s⟩ ∧ ((pre = [] ∧ x = .none) ∨ ∃ t, x = pI (F b low high t) ∧ y = .int t ∧ Best (F b low high) pre t ∧ 1 ≤ t ∧ t ≤ 2000000 )) (cnd b high) ?_ ?_ ?_
    · exact ⟨_, _, _, _, rfl, .inl ⟨rfl, rfl⟩⟩
    · rintro pre x post S hx ⟨d1, d2, j5, j6, rfl, hc⟩
      have hr := mem x (by rw [hx]; simp)
      walk_at "wp"
      refine ca_of (E_law_share r (some x) (fun y hy => by cases hy; omega) s) ?_
      walk_at "wp"
      rw [show (some x).getD (high + 1) = x from rfl]
      rcases hc with ⟨rfl, rfl⟩ | ⟨t, rfl, rfl, hb, t1, t2⟩
      · walk_at "wp"
        exact ⟨_, _, _, _, rfl, .inr ⟨x, rfl, rfl, ⟨by simp, fun c hc => by
          have : c = x := by simpa using hc
          subst this
          exact .inr ⟨rfl, Int.le_refl _⟩⟩, by omega, by omega⟩⟩
      · walk_at "wp"
        refine ca_of (E_law_before (F_sml r (by omega) (by omega)) (F_sml r t1 t2) s) ?_
        walk_at "wp"
        have tri := F_tri (t := x) r t1 t2 hr.1 (by omega)
        refine ⟨fun c => ⟨_, _, _, _, rfl, .inr ⟨x, rfl, rfl, hb.take (F_pos r) (.inl c), by omega, by omega⟩⟩, fun c => ⟨_, _, _, _, rfl, .inr ⟨t, rfl, rfl, hb.keep tri (fun z => z.elim c fun z => ?_), t1, t2⟩⟩⟩
        exact absurd z.2 (by have := (List.pairwise_append.mp (hx ▸ srt)).2.2 t hb.m x List.mem_cons_self; omega)
    · rintro S ⟨d1, d2, j5, j6, rfl, hc⟩
      rcases hc with ⟨hn, _⟩ | ⟨t, rfl, rfl, hb, t1, t2⟩
      · unfold cnd at hn
        split at hn <;> cases hn
      · walk_at "wp"
        exact ⟨t, hb.all r mem (by unfold cnd; split <;> simp) (by unfold cnd; split <;> simp_all) (by unfold cnd; split <;> simp), rfl⟩
  obtain ⟨d, s', e, t, h, rfl, rfl⟩ := key
  exact ⟨t, h, e⟩
end K48

-- part K48n
set_option Elab.async false
set_option linter.all false
set_option maxRecDepth 100000
set_option maxHeartbeats 2000000
namespace K48
open PySem PySem.Spec PyProof.Rows L2 RZ DL
local macro_rules | `(tactic| walk_at "wp") => `(tactic| simp only [↓ca_def, ↓wp_seq, ↓wp_asg, ↓wp_asgN, ↓wp_retS, ↓wp_dropS, ↓wp_ifS, ↓wp_unpS, ↓wp_par2, ↓wp_parO, ↓wp_appS, ↓wp_forS, ↓wp_forNil, ↓wp_seqI, ↓wp_ret, ↓wp_cD, ↓wp_vD, ↓wp_op2, ↓wp_op1, ↓wp_callN, ↓wp_toB, ↓wp_andT, ↓wp_orT, ↓wp_notT, ↓wp_andV, ↓wp_orV, ↓wp_notV, ↓wp_ifD, ↓wp_chn, ↓wp_consL, ↓wp_consA, ↓wp_srcA, ↓wp_callD, ↓wp_tupD, ↓wp_lstD, ↓wp_someI, ↓wp_sliceD, ↓wp_rngD, ↓wp_rgM1, ↓wp_rgM2, ↓wp_range1, ↓wp_enumA,
  ↓sq_nx, ↓sq_rt, ↓sq_bk, ↓sq_ct, ↓rt_rt, ↓rt_nx, ↓lo_nx, ↓lo_ct, ↓lo_bk, ↓lo_rt, ↓vq_fz, ↓vq_own, ↓oq_own, ↓sr_src, ↓tb_b, ↓ls_l, ↓iq_i, ↓l2_2, ↓il1_, ↓il2_, ↓op_some, ↓op_map,
  ↓o_addI, ↓o_addT, ↓o_addBI, ↓o_addBT, ↓o_addBL, ↓o_mulBI, ↓o_mulBL, ↓o_sub, ↓o_mul, ↓o_div, ↓o_mod, ↓o_pow, ↓o_lt, ↓o_le, ↓o_gt, ↓o_ge, ↓o_neg, ↓o_eqI, ↓o_neI, ↓o_neB, ↓o_isN, ↓o_notIsN, ↓o_isT, ↓o_notIsT, ↓o_ixT, ↓o_ixL, ↓o_len_l, ↓o_len_t, ↓o_abs, ↓o_max2, ↓o_min2, ↓o_int, ↓o_tup_l, ↓o_tup_t, ↓o_lst_l, ↓o_lst_t, ↓o_items_l, ↓o_items_t, ↓i_tt, ↓i_tl, ↓i_tn, ↓i_ti, ↓i_ss, ↓i_ii, ↓i_bi, ↓i_ib, ↓i_bb, ↓o_bnm, ↓o_btp, ↓o_bnil, ↓o_bcons,
  isN_n, isN_i, isN_b, isN_t, isN_l, isN_s, at_0, at_1, at_2, at_3, at_m1, at_nat, szl0, szl1, szl2, szl3, szl4, szl5, szl6, szl7, szl8, szl9, szl10, szl11, szl12, szl13, szl14, szl15, szl16, szk0, szk1, szk2, szk3, szk4, szk5, szk6, szk7, szk8, sl_d, sl_s,
  List.getElem?_cons_zero, List.getElem?_cons_succ, List.getElem?_map, List.set_cons_zero, List.set_cons_succ, List.map_cons, List.map_nil, List.length_map, List.replicate_succ, List.replicate_zero, List.cons_append, List.nil_append, List.length_cons, List.length_nil, List.isEmpty_nil, List.isEmpty_cons, Nat.reduceAdd, Nat.reduceSub, Int.cast_ofNat_Int, Int.reduceNe, Int.reduceEq, Nat.sub_zero, Nat.sub_self,
  decide_eq_true_eq, decide_eq_false_iff_not, Bool.not_eq_true', Bool.not_eq_false', Bool.not_true, Bool.not_false, Bool.true_eq_false, Bool.false_eq_true, true_and, and_true, forall_const, false_imp_iff, true_imp_iff, imp_self, forall_false, implies_true, not_true_eq_false, not_false_eq_true, true_implies, false_implies, eq_self_iff_true, reduceCtorEq])
local macro_rules | `(tactic| walk_at "wu") => `(tactic| simp only [↓ca_def, ↓wp_seq, ↓wp_asg, ↓wp_asgN, ↓wp_retS, ↓wp_dropS, ↓wp_ifS, ↓wp_unpS, ↓wp_par2, ↓wp_parO, ↓wp_appS, ↓wp_forS, ↓wp_forNil, ↓wp_forCons, ↓wp_seqI, ↓wp_ret, ↓wp_cD, ↓wp_vD, ↓wp_op2, ↓wp_op1, ↓wp_callN, ↓wp_toB, ↓wp_andT, ↓wp_orT, ↓wp_notT, ↓wp_andV, ↓wp_orV, ↓wp_notV, ↓wp_ifD, ↓wp_chn, ↓wp_consL, ↓wp_consA, ↓wp_srcA, ↓wp_callD, ↓wp_tupD, ↓wp_lstD, ↓wp_someI, ↓wp_sliceD, ↓wp_rngD, ↓wp_rgM1, ↓wp_rgM2, ↓wp_range1, ↓wp_enumA,
  ↓sq_nx, ↓sq_rt, ↓sq_bk, ↓sq_ct, ↓rt_rt, ↓rt_nx, ↓lo_nx, ↓lo_ct, ↓lo_bk, ↓lo_rt, ↓vq_fz, ↓vq_own, ↓oq_own, ↓sr_src, ↓tb_b, ↓ls_l, ↓iq_i, ↓l2_2, ↓il1_, ↓il2_, ↓op_some, ↓op_map,
  ↓o_addI, ↓o_addT, ↓o_addBI, ↓o_addBT, ↓o_addBL, ↓o_mulBI, ↓o_mulBL, ↓o_sub, ↓o_mul, ↓o_div, ↓o_mod, ↓o_pow, ↓o_lt, ↓o_le, ↓o_gt, ↓o_ge, ↓o_neg, ↓o_eqI, ↓o_neI, ↓o_neB, ↓o_isN, ↓o_notIsN, ↓o_isT, ↓o_notIsT, ↓o_ixT, ↓o_ixL, ↓o_len_l, ↓o_len_t, ↓o_abs, ↓o_max2, ↓o_min2, ↓o_int, ↓o_tup_l, ↓o_tup_t, ↓o_lst_l, ↓o_lst_t, ↓o_items_l, ↓o_items_t, ↓i_tt, ↓i_tl, ↓i_tn, ↓i_ti, ↓i_ss, ↓i_ii, ↓i_bi, ↓i_ib, ↓i_bb, ↓o_bnm, ↓o_btp, ↓o_bnil, ↓o_bcons,
  isN_n, isN_i, isN_b, isN_t, isN_l, isN_s, at_0, at_1, at_2, at_3, at_m1, at_nat, szl0, szl1, szl2, szl3, szl4, szl5, szl6, szl7, szl8, szl9, szl10, szl11, szl12, szl13, szl14, szl15, szl16, szk0, szk1, szk2, szk3, szk4, szk5, szk6, szk7, szk8, sl_d, sl_s,
  List.getElem?_cons_zero, List.getElem?_cons_succ, List.getElem?_map, List.set_cons_zero, List.set_cons_succ, List.map_cons, List.map_nil, List.length_map, List.replicate_succ, List.replicate_zero, List.cons_append, List.nil_append, List.length_cons, List.length_nil, List.isEmpty_nil, List.isEmpty_cons, Nat.reduceAdd, Nat.reduceSub, Int.cast_ofNat_Int, Int.reduceNe, Int.reduceEq, Nat.sub_zero, Nat.sub_self,
  decide_eq_true_eq, decide_eq_false_iff_not, Bool.not_eq_true', Bool.not_eq_false', Bool.not_true, Bool.not_false, Bool.true_eq_false, Bool.false_eq_true, true_and, and_true, forall_const, false_imp_iff, true_imp_iff, imp_self, forall_false, implies_true, not_true_eq_false, not_false_eq_true, true_implies, false_implies, eq_self_iff_true, reduceCtorEq])
local macro_rules | `(tactic| walk_at "wi") => `(tactic| simp only [↓ca_def, ↓wp_seq, ↓wp_asg, ↓wp_asgN, ↓wp_retS, ↓wp_dropS, ↓wp_unpS, ↓wp_par2, ↓wp_parO, ↓wp_appS, ↓wp_forS, ↓wp_forNil, ↓wp_seqI, ↓wp_ret, ↓wp_cD, ↓wp_vD, ↓wp_op2, ↓wp_op1, ↓wp_callN, ↓wp_toB, ↓wp_andT, ↓wp_orT, ↓wp_notT, ↓wp_andV, ↓wp_orV, ↓wp_notV, ↓wp_ifD, ↓wp_chn, ↓wp_consL, ↓wp_consA, ↓wp_srcA, ↓wp_callD, ↓wp_tupD, ↓wp_lstD, ↓wp_someI, ↓wp_sliceD, ↓wp_rngD, ↓wp_rgM1, ↓wp_rgM2, ↓wp_range1, ↓wp_enumA,
  ↓sq_nx, ↓sq_rt, ↓sq_bk, ↓sq_ct, ↓rt_rt, ↓rt_nx, ↓lo_nx, ↓lo_ct, ↓lo_bk, ↓lo_rt, ↓vq_fz, ↓vq_own, ↓oq_own, ↓sr_src, ↓tb_b, ↓ls_l, ↓iq_i, ↓l2_2, ↓il1_, ↓il2_, ↓op_some, ↓op_map,
  ↓o_addI, ↓o_addT, ↓o_addBI, ↓o_addBT, ↓o_addBL, ↓o_mulBI, ↓o_mulBL, ↓o_sub, ↓o_mul, ↓o_div, ↓o_mod, ↓o_pow, ↓o_lt, ↓o_le, ↓o_gt, ↓o_ge, ↓o_neg, ↓o_eqI, ↓o_neI, ↓o_neB, ↓o_isN, ↓o_notIsN, ↓o_isT, ↓o_notIsT, ↓o_ixT, ↓o_ixL, ↓o_len_l, ↓o_len_t, ↓o_abs, ↓o_max2, ↓o_min2, ↓o_int, ↓o_tup_l, ↓o_tup_t, ↓o_lst_l, ↓o_lst_t, ↓o_items_l, ↓o_items_t, ↓i_tt, ↓i_tl, ↓i_tn, ↓i_ti, ↓i_ss, ↓i_ii, ↓i_bi, ↓i_ib, ↓i_bb, ↓o_bnm, ↓o_btp, ↓o_bnil, ↓o_bcons,
  isN_n, isN_i, isN_b, isN_t, isN_l, isN_s, at_0, at_1, at_2, at_3, at_m1, at_nat, szl0, szl1, szl2, szl3, szl4, szl5, szl6, szl7, szl8, szl9, szl10, szl11, szl12, szl13, szl14, szl15, szl16, szk0, szk1, szk2, szk3, szk4, szk5, szk6, szk7, szk8, sl_d, sl_s,
  List.getElem?_cons_zero, List.getElem?_cons_succ, List.getElem?_map, List.set_cons_zero, List.set_cons_succ, List.map_cons, List.map_nil, List.length_map, List.replicate_succ, List.replicate_zero, List.cons_append, List.nil_append, List.length_cons, List.length_nil, List.isEmpty_nil, List.isEmpty_cons, Nat.reduceAdd, Nat.reduceSub, Int.cast_ofNat_Int, Int.reduceNe, Int.reduceEq, Nat.sub_zero, Nat.sub_self,
  decide_eq_true_eq, decide_eq_false_iff_not, Bool.not_eq_true', Bool.not_eq_false', Bool.not_true, Bool.not_false, Bool.true_eq_false, Bool.false_eq_true, true_and, and_true, forall_const, false_imp_iff, true_imp_iff, imp_self, forall_false, implies_true, not_true_eq_false, not_false_eq_true, true_implies, false_implies, eq_self_iff_true, reduceCtorEq])
local macro_rules | `(tactic| walk_at "wa") => `(tactic| simp only [↓ca_def, ↓wp_seq, ↓wp_asgN, ↓wp_retS, ↓wp_dropS, ↓wp_unpS, ↓wp_par2, ↓wp_parO, ↓wp_appS, ↓wp_forS, ↓wp_forNil, ↓wp_seqI, ↓wp_ret, ↓wp_cD, ↓wp_vD, ↓wp_op2, ↓wp_op1, ↓wp_callN, ↓wp_toB, ↓wp_andT, ↓wp_orT, ↓wp_notT, ↓wp_andV, ↓wp_orV, ↓wp_notV, ↓wp_ifD, ↓wp_chn, ↓wp_consL, ↓wp_consA, ↓wp_srcA, ↓wp_callD, ↓wp_tupD, ↓wp_lstD, ↓wp_someI, ↓wp_sliceD, ↓wp_rngD, ↓wp_rgM1, ↓wp_rgM2, ↓wp_range1, ↓wp_enumA,
  ↓sq_nx, ↓sq_rt, ↓sq_bk, ↓sq_ct, ↓rt_rt, ↓rt_nx, ↓lo_nx, ↓lo_ct, ↓lo_bk, ↓lo_rt, ↓vq_fz, ↓vq_own, ↓oq_own, ↓sr_src, ↓tb_b, ↓ls_l, ↓iq_i, ↓l2_2, ↓il1_, ↓il2_, ↓op_some, ↓op_map,
  ↓o_addI, ↓o_addT, ↓o_addBI, ↓o_addBT, ↓o_addBL, ↓o_mulBI, ↓o_mulBL, ↓o_sub, ↓o_mul, ↓o_div, ↓o_mod, ↓o_pow, ↓o_lt, ↓o_le, ↓o_gt, ↓o_ge, ↓o_neg, ↓o_eqI, ↓o_neI, ↓o_neB, ↓o_isN, ↓o_notIsN, ↓o_isT, ↓o_notIsT, ↓o_ixT, ↓o_ixL, ↓o_len_l, ↓o_len_t, ↓o_abs, ↓o_max2, ↓o_min2, ↓o_int, ↓o_tup_l, ↓o_tup_t, ↓o_lst_l, ↓o_lst_t, ↓o_items_l, ↓o_items_t, ↓i_tt, ↓i_tl, ↓i_tn, ↓i_ti, ↓i_ss, ↓i_ii, ↓i_bi, ↓i_ib, ↓i_bb, ↓o_bnm, ↓o_btp, ↓o_bnil, ↓o_bcons,
  isN_n, isN_i, isN_b, isN_t, isN_l, isN_s, at_0, at_1, at_2, at_3, at_m1, at_nat, szl0, szl1, szl2, szl3, szl4, szl5, szl6, szl7, szl8, szl9, szl10, szl11, szl12, szl13, szl14, szl15, szl16, szk0, szk1, szk2, szk3, szk4, szk5, szk6, szk7, szk8, sl_d, sl_s,
  List.getElem?_cons_zero, List.getElem?_cons_succ, List.getElem?_map, List.set_cons_zero, List.set_cons_succ, List.map_cons, List.map_nil, List.length_map, List.replicate_succ, List.replicate_zero, List.cons_append, List.nil_append, List.length_cons, List.length_nil, List.isEmpty_nil, List.isEmpty_cons, Nat.reduceAdd, Nat.reduceSub, Int.cast_ofNat_Int, Int.reduceNe, Int.reduceEq, Nat.sub_zero, Nat.sub_self,
  decide_eq_true_eq, decide_eq_false_iff_not, Bool.not_eq_true', Bool.not_eq_false', Bool.not_true, Bool.not_false, Bool.true_eq_false, Bool.false_eq_true, true_and, and_true, forall_const, false_imp_iff, true_imp_iff, imp_self, forall_false, implies_true, not_true_eq_false, not_false_eq_true, true_implies, false_implies, eq_self_iff_true, reduceCtorEq])
local macro_rules | `(tactic| walk_at "wd") => `(tactic| simp only [↓ca_def, ↓wp_seq, ↓wp_asg, ↓wp_asgN, ↓wp_retS, ↓wp_dropS, ↓wp_ifS, ↓wp_unpS, ↓wp_par2, ↓wp_parO, ↓wp_appS, ↓wp_forS, ↓wp_forNil, ↓wp_seqI, ↓wp_ret, ↓wp_cD, ↓wp_vD, ↓wp_op2, ↓wp_op1, ↓wp_callN, ↓wp_toB, ↓wp_andT, ↓wp_orT, ↓wp_notT, ↓wp_andV, ↓wp_orV, ↓wp_notV, ↓wp_chn, ↓wp_consL, ↓wp_consA, ↓wp_srcA, ↓wp_callD, ↓wp_tupD, ↓wp_lstD, ↓wp_someI, ↓wp_sliceD, ↓wp_rngD, ↓wp_rgM1, ↓wp_rgM2, ↓wp_range1, ↓wp_enumA,
  ↓sq_nx, ↓sq_rt, ↓sq_bk, ↓sq_ct, ↓rt_rt, ↓rt_nx, ↓lo_nx, ↓lo_ct, ↓lo_bk, ↓lo_rt, ↓vq_fz, ↓vq_own, ↓oq_own, ↓sr_src, ↓tb_b, ↓ls_l, ↓iq_i, ↓l2_2, ↓il1_, ↓il2_, ↓op_some, ↓op_map,
  ↓o_addI, ↓o_addT, ↓o_addBI, ↓o_addBT, ↓o_addBL, ↓o_mulBI, ↓o_mulBL, ↓o_sub, ↓o_mul, ↓o_div, ↓o_mod, ↓o_pow, ↓o_lt, ↓o_le, ↓o_gt, ↓o_ge, ↓o_neg, ↓o_eqI, ↓o_neI, ↓o_neB, ↓o_isN, ↓o_notIsN, ↓o_isT, ↓o_notIsT, ↓o_ixT, ↓o_ixL, ↓o_len_l, ↓o_len_t, ↓o_abs, ↓o_max2, ↓o_min2, ↓o_int, ↓o_tup_l, ↓o_tup_t, ↓o_lst_l, ↓o_lst_t, ↓o_items_l, ↓o_items_t, ↓i_tt, ↓i_tl, ↓i_tn, ↓i_ti, ↓i_ss, ↓i_ii, ↓i_bi, ↓i_ib, ↓i_bb, ↓o_bnm, ↓o_btp, ↓o_bnil, ↓o_bcons,
  isN_n, isN_i, isN_b, isN_t, isN_l, isN_s, at_0, at_1, at_2, at_3, at_m1, at_nat, szl0, szl1, szl2, szl3, szl4, szl5, szl6, szl7, szl8, szl9, szl10, szl11, szl12, szl13, szl14, szl15, szl16, szk0, szk1, szk2, szk3, szk4, szk5, szk6, szk7, szk8, sl_d, sl_s,
  List.getElem?_cons_zero, List.getElem?_cons_succ, List.getElem?_map, List.set_cons_zero, List.set_cons_succ, List.map_cons, List.map_nil, List.length_map, List.replicate_succ, List.replicate_zero, List.cons_append, List.nil_append, List.length_cons, List.length_nil, List.isEmpty_nil, List.isEmpty_cons, Nat.reduceAdd, Nat.reduceSub, Int.cast_ofNat_Int, Int.reduceNe, Int.reduceEq, Nat.sub_zero, Nat.sub_self,
  decide_eq_true_eq, decide_eq_false_iff_not, Bool.not_eq_true', Bool.not_eq_false', Bool.not_true, Bool.not_false, Bool.true_eq_false, Bool.false_eq_true, true_and, and_true, forall_const, false_imp_iff, true_imp_iff, imp_self, forall_false, implies_true, not_true_eq_false, not_false_eq_true, true_implies, false_implies, eq_self_iff_true, reduceCtorEq])
theorem C_pick {m : Int} (h : m.natAbs < 2 ^ 60) (s : Src) : CA f__law_pick [.src, .d (.int m)] s fun d _ => ∃ k, d = .int k ∧ 0 ≤ k ∧ (k < m ∨ k = 0) := by
  refine ⟨_, _, if_pos h, _, rfl, (pickC_bd m s).1, (pickC_bd m s).2⟩
theorem C_of {ds : List D} (h0 : 0 < ds.length) (h : ds.length < 2 ^ 59) (s : Src) : CA f__law_of [.src, .d (.list ds)] s fun d _ => d ∈ ds := by
  unfold f__law_of d__law_of
  walk_at "wp"
  refine (C_pick (by omega) s).imp ?_
  rintro _ s1 ⟨k, rfl, k0, k1⟩
  walk_at "wp"
  obtain ⟨j, rfl⟩ : ∃ j : Nat, k = j := ⟨k.toNat, by omega⟩
  walk_at "wp"
  have hj : j < ds.length := by omega
  exact ⟨ds[j], List.getElem?_eq_getElem hj, List.getElem_mem hj⟩
/-- what a way pays for so many days, over the least -/
def val (b s d : Int) : Int × Int := shI (rcv b (some s) d) (min d b)
theorem rcv_bd {b s d : Int} (hb : 1 ≤ b) (hs : 1 ≤ s) (hd : 1 ≤ d) (hb2 : b ≤ 1000000) (hs2 : s ≤ 2000000) (hd2 : d ≤ 1000000) : 0 ≤ rcv b (some s) d ∧ rcv b (some s) d < 2 ^ 40 := by
  show 0 ≤ (if d < s then d else s - 1 + b) ∧ (if d < s then d else s - 1 + b) < 2 ^ 40
  split <;> omega
theorem sh_tri {p q p' q' : Int} (hp : 0 ≤ p) (hq : 0 < q) (hp' : 0 ≤ p') (hq' : 0 < q') : lt (shI p q) (shI p' q') ∨ shI p q = shI p' q' ∨ lt (shI p' q') (shI p q) := by
  unfold lt
  rw [sh_lt hp hq hp' hq', sh_lt hp' hq' hp hq]
  by_cases h : p * q' = p' * q
  · exact .inr (.inl (shI_eq hp hq hp' hq' h))
  · omega
theorem val_le {b low high s d : Int} (r : Rn b low high) (hs : 1 ≤ s) (hs2 : s ≤ high + 1) (hd : low ≤ d) (hd2 : d ≤ high) : ¬ lt (F b low high s) (val b s d) := by
  obtain ⟨b1, b2, l1, h1, h2⟩ := id r
  obtain ⟨p1, p2, p3, p4⟩ := nd_pos (s := s) r hs (by omega)
  obtain ⟨c1, c2⟩ := rcv_bd (s := s) b1 hs (show 1 ≤ d by omega) b2 (by omega) (by omega)
  rw [F_nd]
  unfold lt val
  rw [sh_lt p1 p2 c1 (by omega)]
  show ¬ num b low high s * min d b < (if d < s then d else s - 1 + b) * den b low high s
  unfold num den
  by_cases c : high < s
  · rw [if_pos c, if_pos c, if_pos (show d < s by omega)]
    by_cases hb : b ≤ high
    · rw [if_pos hb, if_pos hb]
      by_cases z : d ≤ b
      · rw [show min d b = d by omega, Int.mul_comm high d]
        have : d * b ≤ d * high := Int.mul_le_mul_of_nonneg_left hb (by omega)
        omega
      · rw [show min d b = b by omega]
        have : d * b ≤ high * b := Int.mul_le_mul_of_nonneg_right hd2 (by omega)
        omega
    · rw [if_neg hb, if_neg hb]
      omega
  · rw [if_neg c, if_neg c]
    by_cases z : d < s
    · rw [if_pos z]
      have : d * min b (max low s) ≤ (s - 1 + b) * min d b := by
        by_cases y : d ≤ b
        · rw [show min d b = d by omega, Int.mul_comm (s - 1 + b) d]
          exact Int.mul_le_mul_of_nonneg_left (by omega) (by omega)
        · rw [show min d b = b by omega]
          have x1 : d * min b (max low s) ≤ d * b := Int.mul_le_mul_of_nonneg_left (by omega) (by omega)
          have x2 : d * b ≤ (s - 1 + b) * b := Int.mul_le_mul_of_nonneg_right (by omega) (by omega)
          omega
      omega
    · rw [if_neg z]
      have : (s - 1 + b) * min b (max low s) ≤ (s - 1 + b) * min d b := Int.mul_le_mul_of_nonneg_left (by omega) (by omega)
      omega
theorem val_at {b low high s : Int} (r : Rn b low high) (hs : 1 ≤ s) (hs2 : s ≤ high + 1) : ∃ d, low ≤ d ∧ d ≤ high ∧ val b s d = F b low high s := by
  obtain ⟨b1, b2, l1, h1, h2⟩ := id r
  by_cases c : high < s
  · refine ⟨high, h1, Int.le_refl _, ?_⟩
    unfold val F
    rw [if_pos c]
    show shI (if high < s then high else s - 1 + b) (min high b) = _
    rw [if_pos c]
    by_cases hb : b ≤ high
    · rw [if_pos hb, show min high b = b by omega]
    · rw [if_neg hb, show min high b = high by omega, sh_one]
      exact shI_eq (by omega) (by omega) (by omega) (by omega) (by omega)
  · refine ⟨max low s, by omega, by omega, ?_⟩
    unfold val F
    rw [if_neg c]
    show shI (if max low s < s then max low s else s - 1 + b) (min (max low s) b) = _
    rw [if_neg (by omega), Int.min_comm]
/-- the greatest so far -/
structure Gr (b low high s : Int) (pre : List Int) (u : Int × Int) : Prop where
  f : ∃ p q, u = shI p q ∧ 0 ≤ p ∧ 0 < q ∧ p < 2 ^ 40
  n : ¬ lt (F b low high s) u
  e : (∃ d ∈ pre, val b s d = F b low high s) → u = F b low high s
theorem Gr.step {b low high s d : Int} {pre : List Int} {u : Int × Int} (r : Rn b low high) (hs : 1 ≤ s) (hs2 : s ≤ high + 1) (hd : low ≤ d) (hd2 : d ≤ high) (g : Gr b low high s pre u) : Gr b low high s (pre ++ [d]) (grt u (val b s d)) := by
  obtain ⟨b1, b2, l1, h1, h2⟩ := id r
  obtain ⟨c1, c2⟩ := rcv_bd (s := s) b1 hs (show 1 ≤ d by omega) b2 (by omega) (by omega)
  obtain ⟨f1, f2, f3, f4⟩ := nd_pos (s := s) r hs (by omega)
  obtain ⟨p, q, rfl, p0, q0, p4⟩ := g.f
  have nv := val_le r hs hs2 hd hd2
  have hg : grt (shI p q) (val b s d) = if lt (shI p q) (val b s d) then val b s d else shI p q := rfl
  rw [hg]
  by_cases z : lt (shI p q) (val b s d)
  · rw [if_pos z]
    refine ⟨⟨_, _, rfl, c1, by omega, c2⟩, nv, ?_⟩
    rintro ⟨x, hx, he⟩
    rw [List.mem_append, List.mem_singleton] at hx
    rcases hx with hx | rfl
    · have := g.e ⟨x, hx, he⟩
      rw [this] at z
      exact absurd z nv
    · exact he
  · rw [if_neg z]
    refine ⟨⟨p, q, rfl, p0, q0, p4⟩, g.n, ?_⟩
    rintro ⟨x, hx, he⟩
    rw [List.mem_append, List.mem_singleton] at hx
    rcases hx with hx | rfl
    · exact g.e ⟨x, hx, he⟩
    · have n1 := g.n
      rw [he] at z
      rw [F_nd] at z n1 ⊢
      rcases sh_tri p0 q0 f1 f2 with w | w | w
      · exact absurd w z
      · exact w
      · exact absurd w n1
theorem one_le {b low high s : Int} (r : Rn b low high) (hs : 1 ≤ s) (hs2 : s ≤ high + 1) : ¬ lt (F b low high s) (1, 1) := by
  obtain ⟨b1, b2, l1, h1, h2⟩ := id r
  obtain ⟨p1, p2, p3, p4⟩ := nd_pos (s := s) r hs (by omega)
  rw [F_nd, sh_one]
  unfold lt
  rw [sh_lt p1 p2 (by decide) (by decide)]
  unfold num den
  by_cases c : high < s
  · rw [if_pos c, if_pos c]
    split <;> omega
  · rw [if_neg c, if_neg c]
    omega
theorem F_big {b low high : Int} (r : Rn b low high) {s : Int} (hs : 1 ≤ s) (hs2 : s ≤ 2000000) : (F b low high s).1.natAbs < 10 ^ 12 ∧ (F b low high s).2.natAbs < 10 ^ 12 := by
  obtain ⟨p1, p2, p3, p4⟩ := nd_pos (s := s) r hs hs2
  obtain ⟨b1, b2, l1, h1, h2⟩ := id r
  rw [F_nd]
  obtain ⟨g, g0, e1, e2, n1, n2⟩ := shI_sc p1 p2
  have x1 : 1 * (shI (num b low high s) (den b low high s)).1 ≤ g * (shI (num b low high s) (den b low high s)).1 := Int.mul_le_mul_of_nonneg_right (by omega) n1
  have x2 : 1 * (shI (num b low high s) (den b low high s)).2 ≤ g * (shI (num b low high s) (den b low high s)).2 := Int.mul_le_mul_of_nonneg_right (by omega) (by omega)
  have y1 : num b low high s ≤ 4000000 := by
    unfold num
    split <;> (try split) <;> omega
  have y2 : den b low high s ≤ 4000000 := by
    unfold den
    split <;> (try split) <;> omega
  constructor <;> omega
theorem sh_big {p q : Int} (hp : 0 ≤ p) (hq : 0 < q) (h1 : p < 10 ^ 12) (h2 : q < 10 ^ 12) : (shI p q).1.natAbs < 10 ^ 12 ∧ (shI p q).2.natAbs < 10 ^ 12 := by
  obtain ⟨g, g0, e1, e2, n1, n2⟩ := shI_sc hp hq
  have x1 : 1 * (shI p q).1 ≤ g * (shI p q).1 := Int.mul_le_mul_of_nonneg_right (by omega) n1
  have x2 : 1 * (shI p q).2 ≤ g * (shI p q).2 := Int.mul_le_mul_of_nonneg_right (by omega) (by omega)
  constructor <;> omega
end K48

-- part K48p
set_option Elab.async false
set_option linter.all false
set_option maxRecDepth 100000
set_option maxHeartbeats 2000000
namespace K48
open PySem PySem.Spec PyProof.Rows L2 RZ DL
local macro_rules | `(tactic| walk_at "wp") => `(tactic| simp only [↓ca_def, ↓wp_seq, ↓wp_asg, ↓wp_asgN, ↓wp_retS, ↓wp_dropS, ↓wp_ifS, ↓wp_unpS, ↓wp_par2, ↓wp_parO, ↓wp_appS, ↓wp_forS, ↓wp_forNil, ↓wp_seqI, ↓wp_ret, ↓wp_cD, ↓wp_vD, ↓wp_op2, ↓wp_op1, ↓wp_callN, ↓wp_toB, ↓wp_andT, ↓wp_orT, ↓wp_notT, ↓wp_andV, ↓wp_orV, ↓wp_notV, ↓wp_ifD, ↓wp_chn, ↓wp_consL, ↓wp_consA, ↓wp_srcA, ↓wp_callD, ↓wp_tupD, ↓wp_lstD, ↓wp_someI, ↓wp_sliceD, ↓wp_rngD, ↓wp_rgM1, ↓wp_rgM2, ↓wp_range1, ↓wp_enumA,
  ↓sq_nx, ↓sq_rt, ↓sq_bk, ↓sq_ct, ↓rt_rt, ↓rt_nx, ↓lo_nx, ↓lo_ct, ↓lo_bk, ↓lo_rt, ↓vq_fz, ↓vq_own, ↓oq_own, ↓sr_src, ↓tb_b, ↓ls_l, ↓iq_i, ↓l2_2, ↓il1_, ↓il2_, ↓op_some, ↓op_map,
  ↓o_addI, ↓o_addT, ↓o_addBI, ↓o_addBT, ↓o_addBL, ↓o_mulBI, ↓o_mulBL, ↓o_sub, ↓o_mul, ↓o_div, ↓o_mod, ↓o_pow, ↓o_lt, ↓o_le, ↓o_gt, ↓o_ge, ↓o_neg, ↓o_eqI, ↓o_neI, ↓o_neB, ↓o_isN, ↓o_notIsN, ↓o_isT, ↓o_notIsT, ↓o_ixT, ↓o_ixL, ↓o_len_l, ↓o_len_t, ↓o_abs, ↓o_max2, ↓o_min2, ↓o_int, ↓o_tup_l, ↓o_tup_t, ↓o_lst_l, ↓o_lst_t, ↓o_items_l, ↓o_items_t, ↓i_tt, ↓i_tl, ↓i_tn, ↓i_ti, ↓i_ss, ↓i_ii, ↓i_bi, ↓i_ib, ↓i_bb, ↓o_bnm, ↓o_btp, ↓o_bnil, ↓o_bcons,
  isN_n, isN_i, isN_b, isN_t, isN_l, isN_s, at_0, at_1, at_2, at_3, at_m1, at_nat, szl0, szl1, szl2, szl3, szl4, szl5, szl6, szl7, szl8, szl9, szl10, szl11, szl12, szl13, szl14, szl15, szl16, szk0, szk1, szk2, szk3, szk4, szk5, szk6, szk7, szk8, sl_d, sl_s,
  List.getElem?_cons_zero, List.getElem?_cons_succ, List.getElem?_map, List.set_cons_zero, List.set_cons_succ, List.map_cons, List.map_nil, List.length_map, List.replicate_succ, List.replicate_zero, List.cons_append, List.nil_append, List.length_cons, List.length_nil, List.isEmpty_nil, List.isEmpty_cons, Nat.reduceAdd, Nat.reduceSub, Int.cast_ofNat_Int, Int.reduceNe, Int.reduceEq, Nat.sub_zero, Nat.sub_self,
  decide_eq_true_eq, decide_eq_false_iff_not, Bool.not_eq_true', Bool.not_eq_false', Bool.not_true, Bool.not_false, Bool.true_eq_false, Bool.false_eq_true, true_and, and_true, forall_const, false_imp_iff, true_imp_iff, imp_self, forall_false, implies_true, not_true_eq_false, not_false_eq_true, true_implies, false_implies, eq_self_iff_true, reduceCtorEq])
local macro_rules | `(tactic| walk_at "wu") => `(tactic| simp only [↓ca_def, ↓wp_seq, ↓wp_asg, ↓wp_asgN, ↓wp_retS, ↓wp_dropS, ↓wp_ifS, ↓wp_unpS, ↓wp_par2, ↓wp_parO, ↓wp_appS, ↓wp_forS, ↓wp_forNil, ↓wp_forCons, ↓wp_seqI, ↓wp_ret, ↓wp_cD, ↓wp_vD, ↓wp_op2, ↓wp_op1, ↓wp_callN, ↓wp_toB, ↓wp_andT, ↓wp_orT, ↓wp_notT, ↓wp_andV, ↓wp_orV, ↓wp_notV, ↓wp_ifD, ↓wp_chn, ↓wp_consL, ↓wp_consA, ↓wp_srcA, ↓wp_callD, ↓wp_tupD, ↓wp_lstD, ↓wp_someI, ↓wp_sliceD, ↓wp_rngD, ↓wp_rgM1, ↓wp_rgM2, ↓wp_range1, ↓wp_enumA,
  ↓sq_nx, ↓sq_rt, ↓sq_bk, ↓sq_ct, ↓rt_rt, ↓rt_nx, ↓lo_nx, ↓lo_ct, ↓lo_bk, ↓lo_rt, ↓vq_fz, ↓vq_own, ↓oq_own, ↓sr_src, ↓tb_b, ↓ls_l, ↓iq_i, ↓l2_2, ↓il1_, ↓il2_, ↓op_some, ↓op_map,
  ↓o_addI, ↓o_addT, ↓o_addBI, ↓o_addBT, ↓o_addBL, ↓o_mulBI, ↓o_mulBL, ↓o_sub, ↓o_mul, ↓o_div, ↓o_mod, ↓o_pow, ↓o_lt, ↓o_le, ↓o_gt, ↓o_ge, ↓o_neg, ↓o_eqI, ↓o_neI, ↓o_neB, ↓o_isN, ↓o_notIsN, ↓o_isT, ↓o_notIsT, ↓o_ixT, ↓o_ixL, ↓o_len_l, ↓o_len_t, ↓o_abs, ↓o_max2, ↓o_min2, ↓o_int, ↓o_tup_l, ↓o_tup_t, ↓o_lst_l, ↓o_lst_t, ↓o_items_l, ↓o_items_t, ↓i_tt, ↓i_tl, ↓i_tn, ↓i_ti, ↓i_ss, ↓i_ii, ↓i_bi, ↓i_ib, ↓i_bb, ↓o_bnm, ↓o_btp, ↓o_bnil, ↓o_bcons,
  isN_n, isN_i, isN_b, isN_t, isN_l, isN_s, at_0, at_1, at_2, at_3, at_m1, at_nat, szl0, szl1, szl2, szl3, szl4, szl5, szl6, szl7, szl8, szl9, szl10, szl11, szl12, szl13, szl14, szl15, szl16, szk0, szk1, szk2, szk3, szk4, szk5, szk6, szk7, szk8, sl_d, sl_s,
  List.getElem?_cons_zero, List.getElem?_cons_succ, List.getElem?_map, List.set_cons_zero, List.set_cons_succ, List.map_cons, List.map_nil, List.length_map, List.replicate_succ, List.replicate_zero, List.cons_append, List.nil_append, List.length_cons, List.length_nil, List.isEmpty_nil, List.isEmpty_cons, Nat.reduceAdd, Nat.reduceSub, Int.cast_ofNat_Int, Int.reduceNe, Int.reduceEq, Nat.sub_zero, Nat.sub_self,
  decide_eq_true_eq, decide_eq_false_iff_not, Bool.not_eq_true', Bool.not_eq_false', Bool.not_true, Bool.not_false, Bool.true_eq_false, Bool.false_eq_true, true_and, and_true, forall_const, false_imp_iff, true_imp_iff, imp_self, forall_false, implies_true, not_true_eq_false, not_false_eq_true, true_implies, false_implies, eq_self_iff_true, reduceCtorEq])
local macro_rules | `(tactic| walk_at "wi") => `(tactic| simp only [↓ca_def, ↓wp_seq, ↓wp_asg, ↓wp_asgN, ↓wp_retS, ↓wp_dropS, ↓wp_unpS, ↓wp_par2, ↓wp_parO, ↓wp_appS, ↓wp_forS, ↓wp_forNil, ↓wp_seqI, ↓wp_ret, ↓wp_cD, ↓wp_vD, ↓wp_op2, ↓wp_op1, ↓wp_callN, ↓wp_toB, ↓wp_andT, ↓wp_orT, ↓wp_notT, ↓wp_andV, ↓wp_orV, ↓wp_notV, ↓wp_ifD, ↓wp_chn, ↓wp_consL, ↓wp_consA, ↓wp_srcA, ↓wp_callD, ↓wp_tupD, ↓wp_lstD, ↓wp_someI, ↓wp_sliceD, ↓wp_rngD, ↓wp_rgM1, ↓wp_rgM2, ↓wp_range1, ↓wp_enumA,
  ↓sq_nx, ↓sq_rt, ↓sq_bk, ↓sq_ct, ↓rt_rt, ↓rt_nx, ↓lo_nx, ↓lo_ct, ↓lo_bk, ↓lo_rt, ↓vq_fz, ↓vq_own, ↓oq_own, ↓sr_src, ↓tb_b, ↓ls_l, ↓iq_i, ↓l2_2, ↓il1_, ↓il2_, ↓op_some, ↓op_map,
  ↓o_addI, ↓o_addT, ↓o_addBI, ↓o_addBT, ↓o_addBL, ↓o_mulBI, ↓o_mulBL, ↓o_sub, ↓o_mul, ↓o_div, ↓o_mod, ↓o_pow, ↓o_lt, ↓o_le, ↓o_gt, ↓o_ge, ↓o_neg, ↓o_eqI, ↓o_neI, ↓o_neB, ↓o_isN, ↓o_notIsN, ↓o_isT, ↓o_notIsT, ↓o_ixT, ↓o_ixL, ↓o_len_l, ↓o_len_t, ↓o_abs, ↓o_max2, ↓o_min2, ↓o_int, ↓o_tup_l, ↓o_tup_t, ↓o_lst_l, ↓o_lst_t, ↓o_items_l, ↓o_items_t, ↓i_tt, ↓i_tl, ↓i_tn, ↓i_ti, ↓i_ss, ↓i_ii, ↓i_bi, ↓i_ib, ↓i_bb, ↓o_bnm, ↓o_btp, ↓o_bnil, ↓o_bcons,
  isN_n, isN_i, isN_b, isN_t, isN_l, isN_s, at_0, at_1, at_2, at_3, at_m1, at_nat, szl0, szl1, szl2, szl3, szl4, szl5, szl6, szl7, szl8, szl9, szl10, szl11, szl12, szl13, szl14, szl15, szl16, szk0, szk1, szk2, szk3, szk4, szk5, szk6, szk7, szk8, sl_d, sl_s,
  List.getElem?_cons_zero, List.getElem?_cons_succ, List.getElem?_map, List.set_cons_zero, List.set_cons_succ, List.map_cons, List.map_nil, List.length_map, List.replicate_succ, List.replicate_zero, List.cons_append, List.nil_append, List.length_cons, List.length_nil, List.isEmpty_nil, List.isEmpty_cons, Nat.reduceAdd, Nat.reduceSub, Int.cast_ofNat_Int, Int.reduceNe, Int.reduceEq, Nat.sub_zero, Nat.sub_self,
  decide_eq_true_eq, decide_eq_false_iff_not, Bool.not_eq_true', Bool.not_eq_false', Bool.not_true, Bool.not_false, Bool.true_eq_false, Bool.false_eq_true, true_and, and_true, forall_const, false_imp_iff, true_imp_iff, imp_self, forall_false, implies_true, not_true_eq_false, not_false_eq_true, true_implies, false_implies, eq_self_iff_true, reduceCtorEq])
local macro_rules | `(tactic| walk_at "wa") => `(tactic| simp only [↓ca_def, ↓wp_seq, ↓wp_asgN, ↓wp_retS, ↓wp_dropS, ↓wp_unpS, ↓wp_par2, ↓wp_parO, ↓wp_appS, ↓wp_forS, ↓wp_forNil, ↓wp_seqI, ↓wp_ret, ↓wp_cD, ↓wp_vD, ↓wp_op2, ↓wp_op1, ↓wp_callN, ↓wp_toB, ↓wp_andT, ↓wp_orT, ↓wp_notT, ↓wp_andV, ↓wp_orV, ↓wp_notV, ↓wp_ifD, ↓wp_chn, ↓wp_consL, ↓wp_consA, ↓wp_srcA, ↓wp_callD, ↓wp_tupD, ↓wp_lstD, ↓wp_someI, ↓wp_sliceD, ↓wp_rngD, ↓wp_rgM1, ↓wp_rgM2, ↓wp_range1, ↓wp_enumA,
  ↓sq_nx, ↓sq_rt, ↓sq_bk, ↓sq_ct, ↓rt_rt, ↓rt_nx, ↓lo_nx, ↓lo_ct, ↓lo_bk, ↓lo_rt, ↓vq_fz, ↓vq_own, ↓oq_own, ↓sr_src, ↓tb_b, ↓ls_l, ↓iq_i, ↓l2_2, ↓il1_, ↓il2_, ↓op_some, ↓op_map,
  ↓o_addI, ↓o_addT, ↓o_addBI, ↓o_addBT, ↓o_addBL, ↓o_mulBI, ↓o_mulBL, ↓o_sub, ↓o_mul, ↓o_div, ↓o_mod, ↓o_pow, ↓o_lt, ↓o_le, ↓o_gt, ↓o_ge, ↓o_neg, ↓o_eqI, ↓o_neI, ↓o_neB, ↓o_isN, ↓o_notIsN, ↓o_isT, ↓o_notIsT, ↓o_ixT, ↓o_ixL, ↓o_len_l, ↓o_len_t, ↓o_abs, ↓o_max2, ↓o_min2, ↓o_int, ↓o_tup_l, ↓o_tup_t, ↓o_lst_l, ↓o_lst_t, ↓o_items_l, ↓o_items_t, ↓i_tt, ↓i_tl, ↓i_tn, ↓i_ti, ↓i_ss, ↓i_ii, ↓i_bi, ↓i_ib, ↓i_bb, ↓o_bnm, ↓o_btp, ↓o_bnil, ↓o_bcons,
  isN_n, isN_i, isN_b, isN_t, isN_l, isN_s, at_0, at_1, at_2, at_3, at_m1, at_nat, szl0, szl1, szl2, szl3, szl4, szl5, szl6, szl7, szl8, szl9, szl10, szl11, szl12, szl13, szl14, szl15, szl16, szk0, szk1, szk2, szk3, szk4, szk5, szk6, szk7, szk8, sl_d, sl_s,
  List.getElem?_cons_zero, List.getElem?_cons_succ, List.getElem?_map, List.set_cons_zero, List.set_cons_succ, List.map_cons, List.map_nil, List.length_map, List.replicate_succ, List.replicate_zero, List.cons_append, List.nil_append, List.length_cons, List.length_nil, List.isEmpty_nil, List.isEmpty_cons, Nat.reduceAdd, Nat.reduceSub, Int.cast_ofNat_Int, Int.reduceNe, Int.reduceEq, Nat.sub_zero, Nat.sub_self,
  decide_eq_true_eq, decide_eq_false_iff_not, Bool.not_eq_true', Bool.not_eq_false', Bool.not_true, Bool.not_false, Bool.true_eq_false, Bool.false_eq_true, true_and, and_true, forall_const, false_imp_iff, true_imp_iff, imp_self, forall_false, implies_true, not_true_eq_false, not_false_eq_true, true_implies, false_implies, eq_self_iff_true, reduceCtorEq])
local macro_rules | `(tactic| walk_at "wd") => `(tactic| simp only [↓ca_def, ↓wp_seq, ↓wp_asg, ↓wp_asgN, ↓wp_retS, ↓wp_dropS, ↓wp_ifS, ↓wp_unpS, ↓wp_par2, ↓wp_parO, ↓wp_appS, ↓wp_forS, ↓wp_forNil, ↓wp_seqI, ↓wp_ret, ↓wp_cD, ↓wp_vD, ↓wp_op2, ↓wp_op1, ↓wp_callN, ↓wp_toB, ↓wp_andT, ↓wp_orT, ↓wp_notT, ↓wp_andV, ↓wp_orV, ↓wp_notV, ↓wp_chn, ↓wp_consL, ↓wp_consA, ↓wp_srcA, ↓wp_callD, ↓wp_tupD, ↓wp_lstD, ↓wp_someI, ↓wp_sliceD, ↓wp_rngD, ↓wp_rgM1, ↓wp_rgM2, ↓wp_range1, ↓wp_enumA,
  ↓sq_nx, ↓sq_rt, ↓sq_bk, ↓sq_ct, ↓rt_rt, ↓rt_nx, ↓lo_nx, ↓lo_ct, ↓lo_bk, ↓lo_rt, ↓vq_fz, ↓vq_own, ↓oq_own, ↓sr_src, ↓tb_b, ↓ls_l, ↓iq_i, ↓l2_2, ↓il1_, ↓il2_, ↓op_some, ↓op_map,
  ↓o_addI, ↓o_addT, ↓o_addBI, ↓o_addBT, ↓o_addBL, ↓o_mulBI, ↓o_mulBL, ↓o_sub, ↓o_mul, ↓o_div, ↓o_mod, ↓o_pow, ↓o_lt, ↓o_le, ↓o_gt, ↓o_ge, ↓o_neg, ↓o_eqI, ↓o_neI, ↓o_neB, ↓o_isN, ↓o_notIsN, ↓o_isT, ↓o_notIsT, ↓o_ixT, ↓o_ixL, ↓o_len_l, ↓o_len_t, ↓o_abs, ↓o_max2, ↓o_min2, ↓o_int, ↓o_tup_l, ↓o_tup_t, ↓o_lst_l, ↓o_lst_t, ↓o_items_l, ↓o_items_t, ↓i_tt, ↓i_tl, ↓i_tn, ↓i_ti, ↓i_ss, ↓i_ii, ↓i_bi, ↓i_ib, ↓i_bb, ↓o_bnm, ↓o_btp, ↓o_bnil, ↓o_bcons,
  isN_n, isN_i, isN_b, isN_t, isN_l, isN_s, at_0, at_1, at_2, at_3, at_m1, at_nat, szl0, szl1, szl2, szl3, szl4, szl5, szl6, szl7, szl8, szl9, szl10, szl11, szl12, szl13, szl14, szl15, szl16, szk0, szk1, szk2, szk3, szk4, szk5, szk6, szk7, szk8, sl_d, sl_s,
  List.getElem?_cons_zero, List.getElem?_cons_succ, List.getElem?_map, List.set_cons_zero, List.set_cons_succ, List.map_cons, List.map_nil, List.length_map, List.replicate_succ, List.replicate_zero, List.cons_append, List.nil_append, List.length_cons, List.length_nil, List.isEmpty_nil, List.isEmpty_cons, Nat.reduceAdd, Nat.reduceSub, Int.cast_ofNat_Int, Int.reduceNe, Int.reduceEq, Nat.sub_zero, Nat.sub_self,
  decide_eq_true_eq, decide_eq_false_iff_not, Bool.not_eq_true', Bool.not_eq_false', Bool.not_true, Bool.not_false, Bool.true_eq_false, Bool.false_eq_true, true_and, and_true, forall_const, false_imp_iff, true_imp_iff, imp_self, forall_false, implies_true, not_true_eq_false, not_false_eq_true, true_implies, false_implies, eq_self_iff_true, reduceCtorEq])
theorem o_neP {K : D → Prop} (x y : Int × Int) : OP (neD (pI x) (pI y)) K = K (.bool (decide (x ≠ y))) := by
  have e : neD (pI x) (pI y) = some (.bool (decide (x ≠ y))) := by
    unfold neD okD
    rw [if_pos (by simp [PyData.canLay0, PyData.canLayAll0, PyData.depth, PyData.depthAll])]
    obtain ⟨a, b⟩ := x
    obtain ⟨c, d⟩ := y
    simp only [PyData.eqv, PyData.eqvAll, Bool.and_true, ne_eq, Prod.mk.injEq, Bool.decide_and, decide_not]
    rfl
  rw [e]
  exact op_some _ _
theorem ok_pI (x : Int × Int) : okD (pI x) = true := by
  unfold okD
  simp [PyData.canLay0, PyData.canLayAll0, PyData.depth, PyData.depthAll]
theorem eqv_pI (x y : Int × Int) : PyData.eqv (pI x) (pI y) = decide (x = y) := by
  obtain ⟨a, b⟩ := x
  obtain ⟨c, d⟩ := y
  simp only [PyData.eqv, PyData.eqvAll, Bool.and_true, Prod.mk.injEq, Bool.decide_and]
  rfl
/-- the place of the first of the best -/
theorem o_ixF {K : D → Prop} {b low high t : Int} (r : Rn b low high) (hb : Best (F b low high) (ir 1 (high + 2)) t) : OP (ixOfD (.list ((ir 1 (high + 2)).map fun s => pI (F b low high s))) (pI (F b low high t))) K = K (.int (t - 1)) := by
  have ht := ir_mem.mp hb.m
  have e : ixOfD (.list ((ir 1 (high + 2)).map fun s => pI (F b low high s))) (pI (F b low high t)) = some (.int (t - 1)) := by
    show (if okD (pI (F b low high t)) = true ∧ okD (.list ((ir 1 (high + 2)).map fun s => pI (F b low high s))) = true then _ else none) = _
    rw [if_pos ⟨ok_pI _, (ok_map _ (fun x => by simp [PyData.canLay0, PyData.canLayAll0]) 1 (by decide) (fun x => by simp [PyData.depth, PyData.depthAll]) _).1⟩]
    have f : ((ir 1 (high + 2)).map fun s => pI (F b low high s)).findIdx? (fun z => PyData.eqv z (pI (F b low high t))) = some (t - 1).toNat := by
      rw [List.findIdx?_eq_some_iff_getElem]
      refine ⟨by rw [List.length_map, ir_len]; omega, ?_, fun j hj => ?_⟩
      · have g := ir_get (a := 1) (b := high + 2) (k := (t - 1).toNat) (by omega)
        have g2 : (1 : Int) + ((t - 1).toNat : Nat) = t := by omega
        rw [g2] at g
        have g3 := (List.getElem?_eq_some_iff.mp g).2
        rw [List.getElem_map, g3, eqv_pI]
        simp
      · have g := ir_get (a := 1) (b := high + 2) (k := j) (by omega)
        have g3 := (List.getElem?_eq_some_iff.mp g).2
        rw [List.getElem_map, g3, eqv_pI]
        have := hb.l (1 + (j : Int)) (ir_mem.mpr (by omega))
        rcases this with w | ⟨_, w⟩
        · have : F b low high (1 + (j : Int)) ≠ F b low high t := fun e => by
            rw [e] at w
            exact lt_ir _ w
          simp [this]
        · omega
    rw [f]
    show some (PyData.int (((t - 1).toNat : Nat) : Int)) = _
    rw [show (((t - 1).toNat : Nat) : Int) = t - 1 by omega]
  rw [e]
  exact op_some _ _
theorem shw_sh {b low high : Int} (r : Rn b low high) {s : Int} (hs : 1 ≤ s) (hs2 : s ≤ 2000000) : Shw 100 1 (pI (F b low high s)) := shw_pI (F_big r hs hs2).1 (F_big r hs hs2).2
theorem E_rents (s : Src) : CA f__law_rents_right [.src] s fun d _ => d = .bool true := by
  unfold f__law_rents_right d__law_rents_right
  walk_at "wp"
  refine ⟨by decide, (C_of (by decide) (by decide) s).imp ?_⟩
  intro d0 s1 hd0
  obtain ⟨z, rfl, z1, z2⟩ : ∃ z : Int, d0 = .int z ∧ 12 ≤ z ∧ z ≤ 1000000 := by
    simp only [List.mem_cons, List.not_mem_nil, or_false] at hd0
    rcases hd0 with rfl | rfl | rfl | rfl
    · exact ⟨_, rfl, by decide, by decide⟩
    · exact ⟨_, rfl, by decide, by decide⟩
    · exact ⟨_, rfl, by decide, by decide⟩
    · exact ⟨_, rfl, by decide, by decide⟩
  clear hd0
  walk_at "wp"
  refine (C_pick (by omega) _).imp ?_
  rintro _ s2 ⟨k1, rfl, k10, k11⟩
  walk_at "wp"
  refine (C_pick (by omega) _).imp ?_
  rintro _ s3 ⟨k2, rfl, k20, k21⟩
  walk_at "wp"
  refine (C_pick (by omega) _).imp ?_
  rintro _ s4 ⟨k3, rfl, k30, k31⟩
  walk_at "wp"
  have r : Rn (1 + k1) (1 + k2) (1 + k2 + k3) := ⟨by omega, by omega, by omega, by omega, by omega⟩
  generalize hb : 1 + k1 = b at *
  generalize hl : 1 + k2 = low at *
  generalize hh : low + k3 = high at *
  obtain ⟨b1, b2, l1, h1, h2⟩ := id r
  obtain ⟨t, ht, eT⟩ := E_law_told r s4
  obtain ⟨t', ht', eT'⟩ := E_told_known_way r s4
  obtain ⟨t'', ht'', eL⟩ := E_least_known r s4
  obtain rfl := ht.uniq (F_pos r) ht'
  obtain rfl := ht.uniq (F_pos r) ht''
  have tm := ir_mem.mp ht.m
  refine ca_of eT ?_
  walk_at "wi"
  refine wp_ifJ (fun S' => ∃ j7 j8 j9 j10 j11, S' = ⟨[.src, .fz (.int z), .fz (.int b), .fz (.int low), .fz (.int high), .fz (pI (F b low high t)), .fz (.int t), j7, j8, j9, j10, j11, .un], s4⟩) ?_ ?_
  · walk_at "wp"
    refine ⟨fun _ => ?_, fun _ => ⟨_, _, _, _, _, rfl⟩⟩
    refine wp_compA (ir 1 (high + 2)) PyData.int (fun s => pI (F b low high s)) (s := s4) ?_ ?_ ?_ ?_
    · refine wp_range2 ?_
      walk_at "wp"
      omega
    · intro x hx
      have hm := ir_mem.mp hx
      simp only [wipeE]
      walk_at "wp"
      refine ca_of (E_law_share r (some x) (fun y hy => by cases hy; omega) s4) ?_
      simp only [Option.getD_some, and_self]
    · rw [ir_len]; omega
    · walk_at "wp"
      refine wp_zipRV ?_
      walk_at "wp"
      refine ⟨⟨by omega, by omega, by omega⟩, ?_⟩
      rw [zipL_same]
      refine wp_for (fun s => PyData.tuple [.int s, pI (F b low high s)]) (fun pre S' => ∃ j8 j9 j10 j11, S' = ⟨[.src, .fz (.int z), .fz (.int b), .fz (.int low), .fz (.int high), .fz (pI (F b low high t)), .fz (.int t), .fz (.list ((ir 1 (high + 2)).map fun s => pI (F b low high s))), j8, j9, j10, j11, .un], s4⟩) _ ⟨_, _, _, _, rfl⟩ ?_ ?_
      · rintro pre x post S hx ⟨j8, j9, j10, j11, rfl⟩
        have hm := ir_mem.mp (show x ∈ ir 1 (high + 2) by rw [hx]; simp)
        walk_at "wp"
        refine wp_range2 ?_
        walk_at "wp"
        refine ⟨by omega, ?_⟩
        refine wp_for PyData.int (fun pre S' => ∃ u j11, S' = ⟨[.src, .fz (.int z), .fz (.int b), .fz (.int low), .fz (.int high), .fz (pI (F b low high t)), .fz (.int t), .fz (.list ((ir 1 (high + 2)).map fun s => pI (F b low high s))), .fz (.int x), .fz (pI (F b low high x)), .fz (pI u), j11, .un], s4⟩ ∧ Gr b low high x pre u) _ ⟨(1, 1), _, rfl, ⟨⟨1, 1, sh_one, by decide, by decide, by decide⟩, one_le r (by omega) (by omega), by rintro ⟨_, h, _⟩; cases h⟩⟩ ?_ ?_
        · rintro pre2 d post2 S hd ⟨u, j11, rfl, g⟩
          have hdm := ir_mem.mp (show d ∈ ir low (high + 1) by rw [hd]; simp)
          walk_at "wp"
          refine ca_of (E_law_cost b (some x) d s4) ?_
          walk_at "wp"
          obtain ⟨c1, c2⟩ := rcv_bd (s := x) b1 (by omega) (show 1 ≤ d by omega) b2 (by omega) (by omega)
          refine ca_of (E_cutI c1 (by omega) (by omega) s4) ?_
          walk_at "wp"
          obtain ⟨p, q, eu, p0, q0, p4⟩ := g.f
          refine ca_of (E_law_grt (x := u) (by rw [eu]; exact shI_sml p0 q0 p4) (shI_sml c1 (by omega) c2) s4) ?_
          exact ⟨_, _, rfl, g.step r (by omega) (by omega) (by omega) (by omega)⟩
        · rintro S ⟨u, j11, rfl, g⟩
          obtain ⟨d, d1, d2, d3⟩ := val_at r (s := x) (by omega) (by omega)
          obtain rfl := g.e ⟨d, ir_mem.mpr (by omega), d3⟩
          walk_at "wp"
          rw [o_neP]
          walk_at "wp"
          refine ⟨fun h => absurd rfl h, fun _ => ?_⟩
          refine ca_of (E_law_before (F_sml r (by omega) (by omega)) (F_sml r (by omega) (by omega)) s4) ?_
          walk_at "wp"
          refine ⟨fun h => ?_, fun _ => ⟨_, _, _, _, rfl⟩⟩
          rcases ht.l x (ir_mem.mpr hm) with w | ⟨w, _⟩
          · exact absurd (lt_tr (F_pos r _) (F_pos r _) (F_pos r _) w h) (lt_ir _)
          · rw [w] at h
            exact absurd h (lt_ir _)
      · rintro S ⟨j8, j9, j10, j11, rfl⟩
        walk_at "wp"
        rw [o_ixF r ht]
        walk_at "wp"
        refine ⟨fun h => absurd (show t - 1 + 1 = t by omega) h, fun _ => ⟨_, _, _, _, _, rfl⟩⟩
  rintro _ ⟨j7, j8, j9, j10, j11, rfl⟩
  walk_at "wp"
  refine ca_of eL ?_
  walk_at "wp"
  refine ca_of eT' ?_
  walk_at "wp"
  have w2 : Shw 200 2 (.list [pI (F b low high t), .int t]) := (shw_lst (shws_cons (shw_sh r tm.1 (by omega)) (shws_cons (shw_int (by omega)) shws_nil))).mono (by decide) (by decide)
  refine o_repr w2 ?_
  walk_at "wp"
  refine o_repr w2 ?_
  rw [o_neS w2]
  walk_at "wp"
  refine (C_pick (by omega) _).imp ?_
  rintro _ s5 ⟨k4, rfl, k40, k41⟩
  walk_at "wp"
  refine ⟨by decide, ?_⟩
  rw [show min (high + 1) (10 ^ Int.toNat 6) = min (high + 1) 1000000 from rfl]
  refine wp_for sD (fun pre S' => ∃ s' k8 k9 k10 k11 k12, S' = ⟨[.src, .fz (.int z), .fz (.int b), .fz (.int low), .fz (.int high), .fz (pI (F b low high t)), .fz (.int t), j7, k8, k9, k10, k11, k12], s'⟩) [none, some 1, some b, some (1 + k4), some high, some (min (high + 1) 1000000), some low] ⟨_, _, _, _, _, _, rfl⟩ ?_ ?_
  · rintro pre w post S hw ⟨s6, k8, k9, k10, k11, k12, rfl⟩
    have hm : w ∈ [none, some 1, some b, some (1 + k4), some high, some (min (high + 1) 1000000), some low] := by rw [hw]; simp
    have hr : ∀ x, w = some x → 1 ≤ x ∧ x ≤ 2000000 := by
      rintro x rfl
      simp only [List.mem_cons, List.not_mem_nil, or_false, Option.some.injEq, reduceCtorEq, false_or] at hm
      omega
    walk_at "wp"
    refine ca_of (E_knownI r w hr s6) ?_
    walk_at "wp"
    have gd : 1 ≤ w.getD (high + 1) ∧ w.getD (high + 1) ≤ 2000000 := by
      cases w with
      | none => show 1 ≤ high + 1 ∧ high + 1 ≤ 2000000; omega
      | some x => exact hr x rfl
    have wF := shw_sh r gd.1 gd.2
    refine o_repr wF ?_
    walk_at "wp"
    refine ca_of (E_law_share r w hr s6) ?_
    walk_at "wp"
    refine o_repr wF ?_
    rw [o_neS wF]
    walk_at "wp"
    refine (C_pick (by omega) _).imp ?_
    rintro _ s7 ⟨k5, rfl, k50, k51⟩
    walk_at "wp"
    refine (C_of (by simp) (by simp) _).imp ?_
    intro d0 s8 hd0
    obtain ⟨days, rfl⟩ : ∃ y : Int, d0 = .int y := by
      simp only [List.mem_cons, List.not_mem_nil, or_false] at hd0
      rcases hd0 with rfl | rfl | rfl | rfl <;> exact ⟨_, rfl⟩
    clear hd0
    walk_at "wp"
    cases w with
    | none =>
      rw [show sD none = .none from rfl]
      walk_at "wp"
      refine ca_of (E_rent_cost b none days s8) ?_
      walk_at "wp"
      refine ca_of (E_law_cost b none days s8) ?_
      walk_at "wp"
      refine ⟨fun h => absurd rfl h, fun _ => ?_⟩
      refine ca_of (E_rent_none b s8) ?_
      walk_at "wp"
      refine o_repr shw_none ?_
      walk_at "wp"
      refine o_repr shw_none ?_
      rw [o_neS shw_none]
      walk_at "wp"
      exact ⟨_, _, _, _, _, _, rfl⟩
    | some x =>
      have hx := hr x rfl
      rw [show sD (some x) = .int x from rfl]
      walk_at "wp"
      refine ca_of (E_cutI (by omega) (by omega) (by omega) s8) ?_
      walk_at "wp"
      refine ca_of (E_rent_cost b (some x) days s8) ?_
      walk_at "wp"
      refine ca_of (E_law_cost b (some x) days s8) ?_
      walk_at "wp"
      refine ⟨fun h => absurd rfl h, fun _ => ?_⟩
      have er : f_rent_share [.d (.int b), .d (.int x)] s8 = some (pI (shI (x - 1 + b) (min x b)), s8) := by
        have h := E_rent_share b.toNat x.toNat (by omega) (by omega) (by omega) s8
        rw [Int.toNat_of_nonneg (by omega), Int.toNat_of_nonneg (by omega)] at h
        rw [h]
        unfold shI
        rw [show x.toNat - 1 + b.toNat = (x - 1 + b).toNat by omega, show min x.toNat b.toNat = (min x b).toNat by omega]
      refine ca_of er ?_
      walk_at "wp"
      have wS : Shw 100 1 (pI (shI (x - 1 + b) (min x b))) := by
        obtain ⟨g1, g2⟩ := sh_big (p := x - 1 + b) (q := min x b) (by omega) (by omega) (by omega) (by omega)
        exact shw_pI g1 g2
      refine o_repr wS ?_
      walk_at "wp"
      refine o_repr wS ?_
      rw [o_neS wS]
      walk_at "wp"
      exact ⟨_, _, _, _, _, _, rfl⟩
  · rintro S ⟨s6, k8, k9, k10, k11, k12, rfl⟩
    walk_at "wp"
    have er : f_least_rent_share [.d (.int b)] s6 = some (pI (shI (2 * b - 1) b), s6) := by
      have h := E_least_rent_share b.toNat (by omega) (by omega) s6
      rw [Int.toNat_of_nonneg (by omega)] at h
      rw [h]
      unfold shI
      rw [show 2 * b.toNat - 1 = (2 * b - 1).toNat by omega]
    refine ca_of er ?_
    walk_at "wp"
    have wS : Shw 100 1 (pI (shI (2 * b - 1) b)) := by
      obtain ⟨g1, g2⟩ := sh_big (p := 2 * b - 1) (q := b) (by omega) (by omega) (by omega) (by omega)
      exact shw_pI g1 g2
    refine o_repr wS ?_
    walk_at "wp"
    refine ⟨.inl (by decide), ?_⟩
    refine ca_of (E_cutI (by omega) (by omega) (by omega) s6) ?_
    walk_at "wp"
    refine o_repr wS ?_
    rw [o_eqS wS]
end K48

-- part K48q
set_option Elab.async false
set_option linter.all false
set_option maxRecDepth 100000
set_option maxHeartbeats 2000000
namespace K48
open PySem PySem.Spec PyProof.Rows L2 RZ DL
local macro_rules | `(tactic| walk_at "wp") => `(tactic| simp only [↓ca_def, ↓wp_seq, ↓wp_asg, ↓wp_asgN, ↓wp_retS, ↓wp_dropS, ↓wp_ifS, ↓wp_unpS, ↓wp_par2, ↓wp_parO, ↓wp_appS, ↓wp_forS, ↓wp_forNil, ↓wp_seqI, ↓wp_ret, ↓wp_cD, ↓wp_vD, ↓wp_op2, ↓wp_op1, ↓wp_callN, ↓wp_toB, ↓wp_andT, ↓wp_orT, ↓wp_notT, ↓wp_andV, ↓wp_orV, ↓wp_notV, ↓wp_ifD, ↓wp_chn, ↓wp_consL, ↓wp_consA, ↓wp_srcA, ↓wp_callD, ↓wp_tupD, ↓wp_lstD, ↓wp_someI, ↓wp_sliceD, ↓wp_rngD, ↓wp_rgM1, ↓wp_rgM2, ↓wp_range1, ↓wp_enumA,
  ↓sq_nx, ↓sq_rt, ↓sq_bk, ↓sq_ct, ↓rt_rt, ↓rt_nx, ↓lo_nx, ↓lo_ct, ↓lo_bk, ↓lo_rt, ↓vq_fz, ↓vq_own, ↓oq_own, ↓sr_src, ↓tb_b, ↓ls_l, ↓iq_i, ↓l2_2, ↓il1_, ↓il2_, ↓op_some, ↓op_map,
  ↓o_addI, ↓o_addT, ↓o_addBI, ↓o_addBT, ↓o_addBL, ↓o_mulBI, ↓o_mulBL, ↓o_sub, ↓o_mul, ↓o_div, ↓o_mod, ↓o_pow, ↓o_lt, ↓o_le, ↓o_gt, ↓o_ge, ↓o_neg, ↓o_eqI, ↓o_neI, ↓o_neB, ↓o_isN, ↓o_notIsN, ↓o_isT, ↓o_notIsT, ↓o_ixT, ↓o_ixL, ↓o_len_l, ↓o_len_t, ↓o_abs, ↓o_max2, ↓o_min2, ↓o_int, ↓o_tup_l, ↓o_tup_t, ↓o_lst_l, ↓o_lst_t, ↓o_items_l, ↓o_items_t, ↓i_tt, ↓i_tl, ↓i_tn, ↓i_ti, ↓i_ss, ↓i_ii, ↓i_bi, ↓i_ib, ↓i_bb, ↓o_bnm, ↓o_btp, ↓o_bnil, ↓o_bcons,
  isN_n, isN_i, isN_b, isN_t, isN_l, isN_s, at_0, at_1, at_2, at_3, at_m1, at_nat, szl0, szl1, szl2, szl3, szl4, szl5, szl6, szl7, szl8, szl9, szl10, szl11, szl12, szl13, szl14, szl15, szl16, szk0, szk1, szk2, szk3, szk4, szk5, szk6, szk7, szk8, sl_d, sl_s,
  List.getElem?_cons_zero, List.getElem?_cons_succ, List.getElem?_map, List.set_cons_zero, List.set_cons_succ, List.map_cons, List.map_nil, List.length_map, List.replicate_succ, List.replicate_zero, List.cons_append, List.nil_append, List.length_cons, List.length_nil, List.isEmpty_nil, List.isEmpty_cons, Nat.reduceAdd, Nat.reduceSub, Int.cast_ofNat_Int, Int.reduceNe, Int.reduceEq, Nat.sub_zero, Nat.sub_self,
  decide_eq_true_eq, decide_eq_false_iff_not, Bool.not_eq_true', Bool.not_eq_false', Bool.not_true, Bool.not_false, Bool.true_eq_false, Bool.false_eq_true, true_and, and_true, forall_const, false_imp_iff, true_imp_iff, imp_self, forall_false, implies_true, not_true_eq_false, not_false_eq_true, true_implies, false_implies, eq_self_iff_true, reduceCtorEq])
local macro_rules | `(tactic| walk_at "wu") => `(tactic| simp only [↓ca_def, ↓wp_seq, ↓wp_asg, ↓wp_asgN, ↓wp_retS, ↓wp_dropS, ↓wp_ifS, ↓wp_unpS, ↓wp_par2, ↓wp_parO, ↓wp_appS, ↓wp_forS, ↓wp_forNil, ↓wp_forCons, ↓wp_seqI, ↓wp_ret, ↓wp_cD, ↓wp_vD, ↓wp_op2, ↓wp_op1, ↓wp_callN, ↓wp_toB, ↓wp_andT, ↓wp_orT, ↓wp_notT, ↓wp_andV, ↓wp_orV, ↓wp_notV, ↓wp_ifD, ↓wp_chn, ↓wp_consL, ↓wp_consA, ↓wp_srcA, ↓wp_callD, ↓wp_tupD, ↓wp_lstD, ↓wp_someI, ↓wp_sliceD, ↓wp_rngD, ↓wp_rgM1, ↓wp_rgM2, ↓wp_range1, ↓wp_enumA,
  ↓sq_nx, ↓sq_rt, ↓sq_bk, ↓sq_ct, ↓rt_rt, ↓rt_nx, ↓lo_nx, ↓lo_ct, ↓lo_bk, ↓lo_rt, ↓vq_fz, ↓vq_own, ↓oq_own, ↓sr_src, ↓tb_b, ↓ls_l, ↓iq_i, ↓l2_2, ↓il1_, ↓il2_, ↓op_some, ↓op_map,
  ↓o_addI, ↓o_addT, ↓o_addBI, ↓o_addBT, ↓o_addBL, ↓o_mulBI, ↓o_mulBL, ↓o_sub, ↓o_mul, ↓o_div, ↓o_mod, ↓o_pow, ↓o_lt, ↓o_le, ↓o_gt, ↓o_ge, ↓o_neg, ↓o_eqI, ↓o_neI, ↓o_neB, ↓o_isN, ↓o_notIsN, ↓o_isT, ↓o_notIsT, ↓o_ixT, ↓o_ixL, ↓o_len_l, ↓o_len_t, ↓o_abs, ↓o_max2, ↓o_min2, ↓o_int, ↓o_tup_l, ↓o_tup_t, ↓o_lst_l, ↓o_lst_t, ↓o_items_l, ↓o_items_t, ↓i_tt, ↓i_tl, ↓i_tn, ↓i_ti, ↓i_ss, ↓i_ii, ↓i_bi, ↓i_ib, ↓i_bb, ↓o_bnm, ↓o_btp, ↓o_bnil, ↓o_bcons,
  isN_n, isN_i, isN_b, isN_t, isN_l, isN_s, at_0, at_1, at_2, at_3, at_m1, at_nat, szl0, szl1, szl2, szl3, szl4, szl5, szl6, szl7, szl8, szl9, szl10, szl11, szl12, szl13, szl14, szl15, szl16, szk0, szk1, szk2, szk3, szk4, szk5, szk6, szk7, szk8, sl_d, sl_s,
  List.getElem?_cons_zero, List.getElem?_cons_succ, List.getElem?_map, List.set_cons_zero, List.set_cons_succ, List.map_cons, List.map_nil, List.length_map, List.replicate_succ, List.replicate_zero, List.cons_append, List.nil_append, List.length_cons, List.length_nil, List.isEmpty_nil, List.isEmpty_cons, Nat.reduceAdd, Nat.reduceSub, Int.cast_ofNat_Int, Int.reduceNe, Int.reduceEq, Nat.sub_zero, Nat.sub_self,
  decide_eq_true_eq, decide_eq_false_iff_not, Bool.not_eq_true', Bool.not_eq_false', Bool.not_true, Bool.not_false, Bool.true_eq_false, Bool.false_eq_true, true_and, and_true, forall_const, false_imp_iff, true_imp_iff, imp_self, forall_false, implies_true, not_true_eq_false, not_false_eq_true, true_implies, false_implies, eq_self_iff_true, reduceCtorEq])
local macro_rules | `(tactic| walk_at "wi") => `(tactic| simp only [↓ca_def, ↓wp_seq, ↓wp_asg, ↓wp_asgN, ↓wp_retS, ↓wp_dropS, ↓wp_unpS, ↓wp_par2, ↓wp_parO, ↓wp_appS, ↓wp_forS, ↓wp_forNil, ↓wp_seqI, ↓wp_ret, ↓wp_cD, ↓wp_vD, ↓wp_op2, ↓wp_op1, ↓wp_callN, ↓wp_toB, ↓wp_andT, ↓wp_orT, ↓wp_notT, ↓wp_andV, ↓wp_orV, ↓wp_notV, ↓wp_ifD, ↓wp_chn, ↓wp_consL, ↓wp_consA, ↓wp_srcA, ↓wp_callD, ↓wp_tupD, ↓wp_lstD, ↓wp_someI, ↓wp_sliceD, ↓wp_rngD, ↓wp_rgM1, ↓wp_rgM2, ↓wp_range1, ↓wp_enumA,
  ↓sq_nx, ↓sq_rt, ↓sq_bk, ↓sq_ct, ↓rt_rt, ↓rt_nx, ↓lo_nx, ↓lo_ct, ↓lo_bk, ↓lo_rt, ↓vq_fz, ↓vq_own, ↓oq_own, ↓sr_src, ↓tb_b, ↓ls_l, ↓iq_i, ↓l2_2, ↓il1_, ↓il2_, ↓op_some, ↓op_map,
  ↓o_addI, ↓o_addT, ↓o_addBI, ↓o_addBT, ↓o_addBL, ↓o_mulBI, ↓o_mulBL, ↓o_sub, ↓o_mul, ↓o_div, ↓o_mod, ↓o_pow, ↓o_lt, ↓o_le, ↓o_gt, ↓o_ge, ↓o_neg, ↓o_eqI, ↓o_neI, ↓o_neB, ↓o_isN, ↓o_notIsN, ↓o_isT, ↓o_notIsT, ↓o_ixT, ↓o_ixL, ↓o_len_l, ↓o_len_t, ↓o_abs, ↓o_max2, ↓o_min2, ↓o_int, ↓o_tup_l, ↓o_tup_t, ↓o_lst_l, ↓o_lst_t, ↓o_items_l, ↓o_items_t, ↓i_tt, ↓i_tl, ↓i_tn, ↓i_ti, ↓i_ss, ↓i_ii, ↓i_bi, ↓i_ib, ↓i_bb, ↓o_bnm, ↓o_btp, ↓o_bnil, ↓o_bcons,
  isN_n, isN_i, isN_b, isN_t, isN_l, isN_s, at_0, at_1, at_2, at_3, at_m1, at_nat, szl0, szl1, szl2, szl3, szl4, szl5, szl6, szl7, szl8, szl9, szl10, szl11, szl12, szl13, szl14, szl15, szl16, szk0, szk1, szk2, szk3, szk4, szk5, szk6, szk7, szk8, sl_d, sl_s,
  List.getElem?_cons_zero, List.getElem?_cons_succ, List.getElem?_map, List.set_cons_zero, List.set_cons_succ, List.map_cons, List.map_nil, List.length_map, List.replicate_succ, List.replicate_zero, List.cons_append, List.nil_append, List.length_cons, List.length_nil, List.isEmpty_nil, List.isEmpty_cons, Nat.reduceAdd, Nat.reduceSub, Int.cast_ofNat_Int, Int.reduceNe, Int.reduceEq, Nat.sub_zero, Nat.sub_self,
  decide_eq_true_eq, decide_eq_false_iff_not, Bool.not_eq_true', Bool.not_eq_false', Bool.not_true, Bool.not_false, Bool.true_eq_false, Bool.false_eq_true, true_and, and_true, forall_const, false_imp_iff, true_imp_iff, imp_self, forall_false, implies_true, not_true_eq_false, not_false_eq_true, true_implies, false_implies, eq_self_iff_true, reduceCtorEq])
local macro_rules | `(tactic| walk_at "wa") => `(tactic| simp only [↓ca_def, ↓wp_seq, ↓wp_asgN, ↓wp_retS, ↓wp_dropS, ↓wp_unpS, ↓wp_par2, ↓wp_parO, ↓wp_appS, ↓wp_forS, ↓wp_forNil, ↓wp_seqI, ↓wp_ret, ↓wp_cD, ↓wp_vD, ↓wp_op2, ↓wp_op1, ↓wp_callN, ↓wp_toB, ↓wp_andT, ↓wp_orT, ↓wp_notT, ↓wp_andV, ↓wp_orV, ↓wp_notV, ↓wp_ifD, ↓wp_chn, ↓wp_consL, ↓wp_consA, ↓wp_srcA, ↓wp_callD, ↓wp_tupD, ↓wp_lstD, ↓wp_someI, ↓wp_sliceD, ↓wp_rngD, ↓wp_rgM1, ↓wp_rgM2, ↓wp_range1, ↓wp_enumA,
  ↓sq_nx, ↓sq_rt, ↓sq_bk, ↓sq_ct, ↓rt_rt, ↓rt_nx, ↓lo_nx, ↓lo_ct, ↓lo_bk, ↓lo_rt, ↓vq_fz, ↓vq_own, ↓oq_own, ↓sr_src, ↓tb_b, ↓ls_l, ↓iq_i, ↓l2_2, ↓il1_, ↓il2_, ↓op_some, ↓op_map,
  ↓o_addI, ↓o_addT, ↓o_addBI, ↓o_addBT, ↓o_addBL, ↓o_mulBI, ↓o_mulBL, ↓o_sub, ↓o_mul, ↓o_div, ↓o_mod, ↓o_pow, ↓o_lt, ↓o_le, ↓o_gt, ↓o_ge, ↓o_neg, ↓o_eqI, ↓o_neI, ↓o_neB, ↓o_isN, ↓o_notIsN, ↓o_isT, ↓o_notIsT, ↓o_ixT, ↓o_ixL, ↓o_len_l, ↓o_len_t, ↓o_abs, ↓o_max2, ↓o_min2, ↓o_int, ↓o_tup_l, ↓o_tup_t, ↓o_lst_l, ↓o_lst_t, ↓o_items_l, ↓o_items_t, ↓i_tt, ↓i_tl, ↓i_tn, ↓i_ti, ↓i_ss, ↓i_ii, ↓i_bi, ↓i_ib, ↓i_bb, ↓o_bnm, ↓o_btp, ↓o_bnil, ↓o_bcons,
  isN_n, isN_i, isN_b, isN_t, isN_l, isN_s, at_0, at_1, at_2, at_3, at_m1, at_nat, szl0, szl1, szl2, szl3, szl4, szl5, szl6, szl7, szl8, szl9, szl10, szl11, szl12, szl13, szl14, szl15, szl16, szk0, szk1, szk2, szk3, szk4, szk5, szk6, szk7, szk8, sl_d, sl_s,
  List.getElem?_cons_zero, List.getElem?_cons_succ, List.getElem?_map, List.set_cons_zero, List.set_cons_succ, List.map_cons, List.map_nil, List.length_map, List.replicate_succ, List.replicate_zero, List.cons_append, List.nil_append, List.length_cons, List.length_nil, List.isEmpty_nil, List.isEmpty_cons, Nat.reduceAdd, Nat.reduceSub, Int.cast_ofNat_Int, Int.reduceNe, Int.reduceEq, Nat.sub_zero, Nat.sub_self,
  decide_eq_true_eq, decide_eq_false_iff_not, Bool.not_eq_true', Bool.not_eq_false', Bool.not_true, Bool.not_false, Bool.true_eq_false, Bool.false_eq_true, true_and, and_true, forall_const, false_imp_iff, true_imp_iff, imp_self, forall_false, implies_true, not_true_eq_false, not_false_eq_true, true_implies, false_implies, eq_self_iff_true, reduceCtorEq])
local macro_rules | `(tactic| walk_at "wd") => `(tactic| simp only [↓ca_def, ↓wp_seq, ↓wp_asg, ↓wp_asgN, ↓wp_retS, ↓wp_dropS, ↓wp_ifS, ↓wp_unpS, ↓wp_par2, ↓wp_parO, ↓wp_appS, ↓wp_forS, ↓wp_forNil, ↓wp_seqI, ↓wp_ret, ↓wp_cD, ↓wp_vD, ↓wp_op2, ↓wp_op1, ↓wp_callN, ↓wp_toB, ↓wp_andT, ↓wp_orT, ↓wp_notT, ↓wp_andV, ↓wp_orV, ↓wp_notV, ↓wp_chn, ↓wp_consL, ↓wp_consA, ↓wp_srcA, ↓wp_callD, ↓wp_tupD, ↓wp_lstD, ↓wp_someI, ↓wp_sliceD, ↓wp_rngD, ↓wp_rgM1, ↓wp_rgM2, ↓wp_range1, ↓wp_enumA,
  ↓sq_nx, ↓sq_rt, ↓sq_bk, ↓sq_ct, ↓rt_rt, ↓rt_nx, ↓lo_nx, ↓lo_ct, ↓lo_bk, ↓lo_rt, ↓vq_fz, ↓vq_own, ↓oq_own, ↓sr_src, ↓tb_b, ↓ls_l, ↓iq_i, ↓l2_2, ↓il1_, ↓il2_, ↓op_some, ↓op_map,
  ↓o_addI, ↓o_addT, ↓o_addBI, ↓o_addBT, ↓o_addBL, ↓o_mulBI, ↓o_mulBL, ↓o_sub, ↓o_mul, ↓o_div, ↓o_mod, ↓o_pow, ↓o_lt, ↓o_le, ↓o_gt, ↓o_ge, ↓o_neg, ↓o_eqI, ↓o_neI, ↓o_neB, ↓o_isN, ↓o_notIsN, ↓o_isT, ↓o_notIsT, ↓o_ixT, ↓o_ixL, ↓o_len_l, ↓o_len_t, ↓o_abs, ↓o_max2, ↓o_min2, ↓o_int, ↓o_tup_l, ↓o_tup_t, ↓o_lst_l, ↓o_lst_t, ↓o_items_l, ↓o_items_t, ↓i_tt, ↓i_tl, ↓i_tn, ↓i_ti, ↓i_ss, ↓i_ii, ↓i_bi, ↓i_ib, ↓i_bb, ↓o_bnm, ↓o_btp, ↓o_bnil, ↓o_bcons,
  isN_n, isN_i, isN_b, isN_t, isN_l, isN_s, at_0, at_1, at_2, at_3, at_m1, at_nat, szl0, szl1, szl2, szl3, szl4, szl5, szl6, szl7, szl8, szl9, szl10, szl11, szl12, szl13, szl14, szl15, szl16, szk0, szk1, szk2, szk3, szk4, szk5, szk6, szk7, szk8, sl_d, sl_s,
  List.getElem?_cons_zero, List.getElem?_cons_succ, List.getElem?_map, List.set_cons_zero, List.set_cons_succ, List.map_cons, List.map_nil, List.length_map, List.replicate_succ, List.replicate_zero, List.cons_append, List.nil_append, List.length_cons, List.length_nil, List.isEmpty_nil, List.isEmpty_cons, Nat.reduceAdd, Nat.reduceSub, Int.cast_ofNat_Int, Int.reduceNe, Int.reduceEq, Nat.sub_zero, Nat.sub_self,
  decide_eq_true_eq, decide_eq_false_iff_not, Bool.not_eq_true', Bool.not_eq_false', Bool.not_true, Bool.not_false, Bool.true_eq_false, Bool.false_eq_true, true_and, and_true, forall_const, false_imp_iff, true_imp_iff, imp_self, forall_false, implies_true, not_true_eq_false, not_false_eq_true, true_implies, false_implies, eq_self_iff_true, reduceCtorEq])
/-! ### the share of a way of a table -/
/-- a share in lowest terms, not too great -/
structure Sh (u : Int × Int) : Prop where
  ex : ∃ p q, u = shI p q ∧ 0 ≤ p ∧ 0 < q ∧ p < 2 ^ 30 ∧ q < 2 ^ 30
theorem sh11 : Sh (1, 1) := ⟨1, 1, sh_one, by decide, by decide, by decide, by decide⟩
theorem Sh.sml {u : Int × Int} (h : Sh u) : sml u.1 := by
  obtain ⟨p, q, rfl, p0, q0, p1, q1⟩ := h.ex
  exact shI_sml p0 q0 (by omega)
theorem Sh.pos {u : Int × Int} (h : Sh u) : 0 < u.2 := by
  obtain ⟨p, q, rfl, p0, q0, p1, q1⟩ := h.ex
  exact shI_pos _ q0
theorem Sh.sml2 {u : Int × Int} (h : Sh u) : K48.sml u.2 := by
  obtain ⟨p, q, rfl, p0, q0, p1, q1⟩ := h.ex
  obtain ⟨g, g0, e1, e2, n1, n2⟩ := shI_sc p0 q0
  have x2 : 1 * (shI p q).2 ≤ g * (shI p q).2 := Int.mul_le_mul_of_nonneg_right (by omega) (by omega)
  exact ⟨by omega, by omega⟩
theorem Sh.big {u : Int × Int} (h : Sh u) : Shw 100 1 (pI u) := by
  obtain ⟨p, q, rfl, p0, q0, p1, q1⟩ := h.ex
  obtain ⟨g1, g2⟩ := sh_big p0 q0 (by omega) (by omega)
  exact shw_pI g1 g2
theorem Sh.tri {u v : Int × Int} (h : Sh u) (h' : Sh v) : lt u v ∨ u = v ∨ lt v u := by
  obtain ⟨p, q, rfl, p0, q0, p1, q1⟩ := h.ex
  obtain ⟨p', q', rfl, p0', q0', p1', q1'⟩ := h'.ex
  exact sh_tri p0 q0 p0' q0'
theorem Sh.grt {u v : Int × Int} (h : Sh u) (h' : Sh v) : Sh (grt u v) := by
  unfold K48.grt
  split
  · exact h'
  · exact h
/-- not less than, not less than -/
theorem nlt_tr {x y z : Int × Int} (hx : 0 < x.2) (hy : 0 < y.2) (hz : 0 < z.2) (h1 : ¬ lt x y) (h2 : ¬ lt y z) : ¬ lt x z := by
  obtain ⟨a, b⟩ := x
  obtain ⟨c, d⟩ := y
  obtain ⟨e, f⟩ := z
  simp only [lt, Int.not_lt] at *
  have a1 : c * b * f ≤ a * d * f := Int.mul_le_mul_of_nonneg_right h1 (by omega)
  have a2 : e * d * b ≤ c * f * b := Int.mul_le_mul_of_nonneg_right h2 (by omega)
  have e1 : a * d * f = d * (a * f) := by rw [Int.mul_comm a d, Int.mul_assoc]
  have e2 : c * b * f = c * f * b := by rw [Int.mul_assoc, Int.mul_comm b f, ← Int.mul_assoc]
  have e3 : e * d * b = d * (e * b) := by rw [Int.mul_comm e d, Int.mul_assoc]
  exact Int.le_of_mul_le_mul_left (a := d) (by omega) (by omega)
theorem grt_ub {u v : Int × Int} (hu : 0 < u.2) (hv : 0 < v.2) : ¬ lt (grt u v) u ∧ ¬ lt (grt u v) v := by
  unfold grt
  by_cases c : u.1 * v.2 < v.1 * u.2
  · rw [if_pos c]
    refine ⟨fun h => ?_, lt_ir _⟩
    have := lt_tr hv hu hv h c
    exact lt_ir _ this
  · rw [if_neg c]
    exact ⟨lt_ir _, c⟩
/-- the run over costs and leasts -/
def wshL : List (Int × Int) → Int × Int → Option (Int × Int)
  | [], u => some u
  | x :: r, u => if x.2 = 0 ∧ 0 < x.1 then none else wshL r (if 0 < x.2 then grt u (shI x.1 x.2) else u)
structure Prs (ps : List (Int × Int)) : Prop where
  b : ∀ x ∈ ps, (0 ≤ x.1 ∧ x.1 < 2 ^ 30) ∧ 0 ≤ x.2 ∧ x.2 < 2 ^ 30
theorem shI_Sh {p q : Int} (h1 : 0 ≤ p) (h2 : 0 < q) (h3 : p < 2 ^ 30) (h4 : q < 2 ^ 30) : Sh (shI p q) := ⟨p, q, rfl, h1, h2, h3, h4⟩
theorem wshL_Sh : ∀ {ps : List (Int × Int)} {u v : Int × Int}, Prs ps → Sh u → wshL ps u = some v → Sh v
  | [], u, v, _, hu, h => by
    cases h
    exact hu
  | x :: r, u, v, hp, hu, h => by
    have hx := hp.b x List.mem_cons_self
    unfold wshL at h
    split at h
    · cases h
    · refine wshL_Sh (ps := r) ⟨fun y hy => hp.b y (List.mem_cons_of_mem _ hy)⟩ ?_ h
      split
      · exact hu.grt (shI_Sh hx.1.1 (by omega) hx.1.2 hx.2.2)
      · exact hu
theorem wshL_spec : ∀ {ps : List (Int × Int)} {u v : Int × Int}, Prs ps → Sh u → wshL ps u = some v → (∀ x ∈ ps, x.2 = 0 → x.1 = 0) ∧ ¬ lt v u ∧ (∀ x ∈ ps, 0 < x.2 → ¬ lt v (shI x.1 x.2)) ∧ (v = u ∨ ∃ x ∈ ps, 0 < x.2 ∧ v = shI x.1 x.2)
  | [], u, v, _, hu, h => by
    cases h
    exact ⟨fun _ h => (by cases h), lt_ir _, fun _ h => (by cases h), .inl rfl⟩
  | x :: r, u, v, hp, hu, h => by
    have hx := hp.b x List.mem_cons_self
    have hr : Prs r := ⟨fun y hy => hp.b y (List.mem_cons_of_mem _ hy)⟩
    unfold wshL at h
    split at h
    · cases h
    · next c =>
      have sv := wshL_Sh (ps := r) (u := if 0 < x.2 then grt u (shI x.1 x.2) else u) hr (by
        split
        · exact hu.grt (shI_Sh hx.1.1 (by omega) hx.1.2 hx.2.2)
        · exact hu) h
      by_cases z : 0 < x.2
      · rw [if_pos z] at h
        have sx := shI_Sh hx.1.1 z hx.1.2 hx.2.2
        obtain ⟨i1, i2, i3, i4⟩ := wshL_spec hr (hu.grt sx) h
        obtain ⟨g1, g2⟩ := grt_ub hu.pos sx.pos
        refine ⟨fun y hy => ?_, nlt_tr sv.pos (hu.grt sx).pos hu.pos i2 g1, fun y hy hy0 => ?_, ?_⟩
        · rcases List.mem_cons.mp hy with rfl | hy
          · intro e
            omega
          · exact i1 y hy
        · rcases List.mem_cons.mp hy with rfl | hy
          · exact nlt_tr sv.pos (hu.grt sx).pos sx.pos i2 g2
          · exact i3 y hy hy0
        · rcases i4 with rfl | ⟨y, hy, y1, y2⟩
          · unfold grt
            split
            · exact .inr ⟨x, List.mem_cons_self, z, rfl⟩
            · exact .inl rfl
          · exact .inr ⟨y, List.mem_cons_of_mem _ hy, y1, y2⟩
      · rw [if_neg z] at h
        obtain ⟨i1, i2, i3, i4⟩ := wshL_spec hr hu h
        refine ⟨fun y hy => ?_, i2, fun y hy hy0 => ?_, ?_⟩
        · rcases List.mem_cons.mp hy with rfl | hy
          · intro e
            omega
          · exact i1 y hy
        · rcases List.mem_cons.mp hy with rfl | hy
          · exact absurd hy0 z
          · exact i3 y hy hy0
        · rcases i4 with rfl | ⟨y, hy, y1, y2⟩
          · exact .inl rfl
          · exact .inr ⟨y, List.mem_cons_of_mem _ hy, y1, y2⟩
theorem wshL_ex : ∀ {ps : List (Int × Int)} {u : Int × Int}, (∀ x ∈ ps, x.2 = 0 → ¬ 0 < x.1) → ∃ v, wshL ps u = some v
  | [], u, _ => ⟨u, rfl⟩
  | x :: r, u, h => by
    unfold wshL
    rw [if_neg (fun c => h x List.mem_cons_self c.1 c.2)]
    exact wshL_ex fun y hy => h y (List.mem_cons_of_mem _ hy)
/-- costs beside leasts -/
def prs (rows : List (List Int)) (n k : Nat) : List (Int × Int) := (List.range n).map fun i => (en rows k i, le' rows i)
def wsh (rows : List (List Int)) (n k : Nat) : Option (Int × Int) := wshL (prs rows n k) (1, 1)
theorem prs_ok {rows : List (List Int)} {n k : Nat} (h : Tb rows n) (hk : k < rows.length) : Prs (prs rows n k) := by
  refine ⟨fun x hx => ?_⟩
  unfold prs at hx
  obtain ⟨i, hi, rfl⟩ := List.mem_map.mp hx
  have hi' := List.mem_range.mp hi
  exact ⟨en_nn h hk hi', le_bd h hi'⟩
theorem wsh_Sh {rows : List (List Int)} {n k : Nat} (h : Tb rows n) (hk : k < rows.length) {u : Int × Int} (e : wsh rows n k = some u) : Sh u := wshL_Sh (prs_ok h hk) sh11 e
/-- a way no better than another one has no less a share -/
theorem wsh_mono {rows : List (List Int)} {n k o : Nat} (h : Tb rows n) (hk : k < rows.length) (ho : o < rows.length) (hle : ∀ j, j < n → en rows k j ≤ en rows o j) {u : Int × Int} (e : wsh rows n o = some u) : ∃ v, wsh rows n k = some v ∧ ¬ lt u v := by
  obtain ⟨i1, i2, i3, i4⟩ := wshL_spec (prs_ok h ho) sh11 e
  have su := wsh_Sh h ho e
  have ex : ∃ v, wsh rows n k = some v := by
    refine wshL_ex fun x hx e0 => ?_
    unfold prs at hx
    obtain ⟨i, hi, rfl⟩ := List.mem_map.mp hx
    have hi' := List.mem_range.mp hi
    have := i1 (en rows o i, le' rows i) (List.mem_map.mpr ⟨i, hi, rfl⟩) e0
    have := hle i hi'
    simp only at *
    omega
  obtain ⟨v, ev⟩ := ex
  refine ⟨v, ev, ?_⟩
  obtain ⟨j1, j2, j3, j4⟩ := wshL_spec (prs_ok h hk) sh11 ev
  rcases j4 with rfl | ⟨x, hx, x0, rfl⟩
  · exact i2
  · unfold prs at hx
    obtain ⟨i, hi, rfl⟩ := List.mem_map.mp hx
    have hi' := List.mem_range.mp hi
    have k1 := i3 (en rows o i, le' rows i) (List.mem_map.mpr ⟨i, hi, rfl⟩) x0
    have a1 := en_nn h hk hi'
    have a2 := en_nn h ho hi'
    have a3 := le_bd h hi'
    have x0' : 0 < le' rows i := x0
    refine nlt_tr su.pos (shI_pos _ x0') (shI_pos _ x0') k1 ?_
    show ¬ lt (shI (en rows o i) (le' rows i)) (shI (en rows k i) (le' rows i))
    unfold lt
    rw [sh_lt a2.1 x0' a1.1 x0']
    have := Int.mul_le_mul_of_nonneg_right (c := le' rows i) (hle i hi') (by omega)
    omega
def oD : Option (Int × Int) → D
  | none => .none
  | some u => pI u
theorem getk {α : Type} {xs : List α} {k : Nat} (z : α) (h : k < xs.length) : xs[k]? = some (xs.getD k z) := by
  rw [List.getD_eq_getElem?_getD, List.getElem?_eq_getElem h]
  rfl
theorem E_way {rows : List (List Int)} {n k : Nat} (h : Tb rows n) (hk : k < rows.length) (s : Src) : f_way_share [.d (tbD rows), .d (.int (k : Nat))] s = some (oD (wsh rows n k), s) := by
  refine ca_eq ?_
  unfold f_way_share d_way_share
  walk_at "wp"
  refine wp_zip ?_
  walk_at "wp"
  rw [getk [] hk]
  walk_at "wp"
  refine ca_of (E_least_costs h s) ?_
  walk_at "wp"
  refine ⟨_, _, .inr rfl, ?_⟩
  rw [zipL_map, zip_at h hk]
  show WP (DL.forM _ _ ((prs rows n k).map pI)) _ _
  refine wp_for pI (fun pre S => ∃ u j3 j4, S = ⟨[.fz (tbD rows), .fz (.int (k : Nat)), .fz (pI u), j3, j4], s⟩ ∧ Sh u ∧ ∀ post, prs rows n k = pre ++ post → wsh rows n k = wshL post u) _ ⟨(1, 1), _, _, rfl, sh11, fun post e => by unfold wsh; rw [e]; rfl⟩ ?_ ?_
  · rintro pre x post S hx ⟨u, j3, j4, rfl, su, ih⟩
    have hb := (prs_ok h hk).b x (by rw [hx]; simp)
    have hw := ih (x :: post) hx
    walk_at "wp"
    have keep : (¬ (x.2 = 0 ∧ 0 < x.1)) → ∀ v, v = (if 0 < x.2 then grt u (shI x.1 x.2) else u) → ∀ post', prs rows n k = (pre ++ [x]) ++ post' → wsh rows n k = wshL post' v := fun c v hv post' e => by
      have e2 : post' = post := by
        have : pre ++ (x :: post') = pre ++ (x :: post) := by rw [← hx, e]; simp
        have := List.append_cancel_left this
        simpa using this
      rw [hw, e2, hv]
      show (if x.2 = 0 ∧ 0 < x.1 then none else _) = _
      rw [if_neg c]
    refine ⟨fun c => ⟨fun c2 => ?_, fun c2 => ?_⟩, fun c => ?_⟩
    · rw [hw]
      show PyData.none = oD (if x.2 = 0 ∧ 0 < x.1 then none else _)
      rw [if_pos ⟨c, c2⟩]
      rfl
    · have c3 : ¬ 0 < x.2 := by omega
      exact ⟨fun c4 => absurd c4 c3, fun _ => ⟨u, _, _, rfl, su, keep (fun z => c2 z.2) u (by rw [if_neg c3])⟩⟩
    · refine ⟨fun c4 => ?_, fun c4 => ⟨u, _, _, rfl, su, keep (fun z => c z.1) u (by rw [if_neg c4])⟩⟩
      refine ca_of (E_shareI hb.1.1 c4 (by omega) s) ?_
      walk_at "wp"
      refine ca_of (E_grt su.sml (shI_Sh hb.1.1 c4 hb.1.2 hb.2.2).sml s) ?_
      exact ⟨_, _, _, rfl, su.grt (shI_Sh hb.1.1 c4 hb.1.2 hb.2.2), keep (fun z => c z.1) _ (by rw [if_pos c4])⟩
  · rintro S ⟨u, j3, j4, rfl, su, ih⟩
    walk_at "wp"
    rw [ih [] (by simp)]
    rfl
theorem E_law_way {rows : List (List Int)} {n k : Nat} (h : Tb rows n) (hk : k < rows.length) (s : Src) : f__law_way [.d (tbD rows), .d (tI' (lcs rows n)), .d (.int (k : Nat))] s = some (oD (wsh rows n k), s) := by
  refine ca_eq ?_
  unfold f__law_way d__law_way
  walk_at "wp"
  refine wp_zip ?_
  walk_at "wp"
  rw [getk [] hk]
  walk_at "wp"
  refine ⟨_, _, .inr rfl, ?_⟩
  rw [zipL_map, zip_at h hk]
  show WP (DL.forM _ _ ((prs rows n k).map pI)) _ _
  refine wp_for pI (fun pre S => ∃ u j3 j4, S = ⟨[.fz (tbD rows), .fz (tI' (lcs rows n)), .fz (.int (k : Nat)), .fz (pI u), j3, j4], s⟩ ∧ Sh u ∧ ∀ post, prs rows n k = pre ++ post → wsh rows n k = wshL post u) _ ⟨(1, 1), _, _, rfl, sh11, fun post e => by unfold wsh; rw [e]; rfl⟩ ?_ ?_
  · rintro pre x post S hx ⟨u, j3, j4, rfl, su, ih⟩
    have hb := (prs_ok h hk).b x (by rw [hx]; simp)
    have hw := ih (x :: post) hx
    walk_at "wp"
    have keep : (¬ (x.2 = 0 ∧ 0 < x.1)) → ∀ v, v = (if 0 < x.2 then grt u (shI x.1 x.2) else u) → ∀ post', prs rows n k = (pre ++ [x]) ++ post' → wsh rows n k = wshL post' v := fun c v hv post' e => by
      have e2 : post' = post := by
        have : pre ++ (x :: post') = pre ++ (x :: post) := by rw [← hx, e]; simp
        have := List.append_cancel_left this
        simpa using this
      rw [hw, e2, hv]
      show (if x.2 = 0 ∧ 0 < x.1 then none else _) = _
      rw [if_neg c]
    refine ⟨fun c => ⟨fun c2 => ?_, fun c2 => ?_⟩, fun c => ?_⟩
    · rw [hw]
      show PyData.none = oD (if x.2 = 0 ∧ 0 < x.1 then none else _)
      rw [if_pos ⟨c, c2⟩]
      rfl
    · have c3 : ¬ 0 < x.2 := by omega
      exact ⟨fun c4 => absurd c4 c3, fun _ => ⟨u, _, _, rfl, su, keep (fun z => c2 z.2) u (by rw [if_neg c3])⟩⟩
    · refine ⟨fun c4 => ?_, fun c4 => ⟨u, _, _, rfl, su, keep (fun z => c z.1) u (by rw [if_neg c4])⟩⟩
      refine ca_of (E_cutI hb.1.1 c4 (by omega) s) ?_
      walk_at "wp"
      refine ca_of (E_law_grt su.sml (shI_Sh hb.1.1 c4 hb.1.2 hb.2.2).sml s) ?_
      exact ⟨_, _, _, rfl, su.grt (shI_Sh hb.1.1 c4 hb.1.2 hb.2.2), keep (fun z => c z.1) _ (by rw [if_pos c4])⟩
  · rintro S ⟨u, j3, j4, rfl, su, ih⟩
    walk_at "wp"
    rw [ih [] (by simp)]
    rfl
end K48

-- part K48r
set_option Elab.async false
set_option linter.all false
set_option maxRecDepth 100000
set_option maxHeartbeats 2000000
namespace K48
open PySem PySem.Spec PyProof.Rows L2 RZ DL
local macro_rules | `(tactic| walk_at "wp") => `(tactic| simp only [↓ca_def, ↓wp_seq, ↓wp_asg, ↓wp_asgN, ↓wp_retS, ↓wp_dropS, ↓wp_ifS, ↓wp_unpS, ↓wp_par2, ↓wp_parO, ↓wp_appS, ↓wp_forS, ↓wp_forNil, ↓wp_seqI, ↓wp_ret, ↓wp_cD, ↓wp_vD, ↓wp_op2, ↓wp_op1, ↓wp_callN, ↓wp_toB, ↓wp_andT, ↓wp_orT, ↓wp_notT, ↓wp_andV, ↓wp_orV, ↓wp_notV, ↓wp_ifD, ↓wp_chn, ↓wp_consL, ↓wp_consA, ↓wp_srcA, ↓wp_callD, ↓wp_tupD, ↓wp_lstD, ↓wp_someI, ↓wp_sliceD, ↓wp_rngD, ↓wp_rgM1, ↓wp_rgM2, ↓wp_range1, ↓wp_enumA,
  ↓sq_nx, ↓sq_rt, ↓sq_bk, ↓sq_ct, ↓rt_rt, ↓rt_nx, ↓lo_nx, ↓lo_ct, ↓lo_bk, ↓lo_rt, ↓vq_fz, ↓vq_own, ↓oq_own, ↓sr_src, ↓tb_b, ↓ls_l, ↓iq_i, ↓l2_2, ↓il1_, ↓il2_, ↓op_some, ↓op_map,
  ↓o_addI, ↓o_addT, ↓o_addBI, ↓o_addBT, ↓o_addBL, ↓o_mulBI, ↓o_mulBL, ↓o_sub, ↓o_mul, ↓o_div, ↓o_mod, ↓o_pow, ↓o_lt, ↓o_le, ↓o_gt, ↓o_ge, ↓o_neg, ↓o_eqI, ↓o_neI, ↓o_neB, ↓o_isN, ↓o_notIsN, ↓o_isT, ↓o_notIsT, ↓o_ixT, ↓o_ixL, ↓o_len_l, ↓o_len_t, ↓o_abs, ↓o_max2, ↓o_min2, ↓o_int, ↓o_tup_l, ↓o_tup_t, ↓o_lst_l, ↓o_lst_t, ↓o_items_l, ↓o_items_t, ↓i_tt, ↓i_tl, ↓i_tn, ↓i_ti, ↓i_ss, ↓i_ii, ↓i_bi, ↓i_ib, ↓i_bb, ↓o_bnm, ↓o_btp, ↓o_bnil, ↓o_bcons,
  isN_n, isN_i, isN_b, isN_t, isN_l, isN_s, at_0, at_1, at_2, at_3, at_m1, at_nat, szl0, szl1, szl2, szl3, szl4, szl5, szl6, szl7, szl8, szl9, szl10, szl11, szl12, szl13, szl14, szl15, szl16, szk0, szk1, szk2, szk3, szk4, szk5, szk6, szk7, szk8, sl_d, sl_s,
  List.getElem?_cons_zero, List.getElem?_cons_succ, List.getElem?_map, List.set_cons_zero, List.set_cons_succ, List.map_cons, List.map_nil, List.length_map, List.replicate_succ, List.replicate_zero, List.cons_append, List.nil_append, List.length_cons, List.length_nil, List.isEmpty_nil, List.isEmpty_cons, Nat.reduceAdd, Nat.reduceSub, Int.cast_ofNat_Int, Int.reduceNe, Int.reduceEq, Nat.sub_zero, Nat.sub_self,
  decide_eq_true_eq, decide_eq_false_iff_not, Bool.not_eq_true', Bool.not_eq_false', Bool.not_true, Bool.not_false, Bool.true_eq_false, Bool.false_eq_true, true_and, and_true, forall_const, false_imp_iff, true_imp_iff, imp_self, forall_false, implies_true, not_true_eq_false, not_false_eq_true, true_implies, false_implies, eq_self_iff_true, reduceCtorEq])
local macro_rules | `(tactic| walk_at "wu") => `(tactic| simp only [↓ca_def, ↓wp_seq, ↓wp_asg, ↓wp_asgN, ↓wp_retS, ↓wp_dropS, ↓wp_ifS, ↓wp_unpS, ↓wp_par2, ↓wp_parO, ↓wp_appS, ↓wp_forS, ↓wp_forNil, ↓wp_forCons, ↓wp_seqI, ↓wp_ret, ↓wp_cD, ↓wp_vD, ↓wp_op2, ↓wp_op1, ↓wp_callN, ↓wp_toB, ↓wp_andT, ↓wp_orT, ↓wp_notT, ↓wp_andV, ↓wp_orV, ↓wp_notV, ↓wp_ifD, ↓wp_chn, ↓wp_consL, ↓wp_consA, ↓wp_srcA, ↓wp_callD, ↓wp_tupD, ↓wp_lstD, ↓wp_someI, ↓wp_sliceD, ↓wp_rngD, ↓wp_rgM1, ↓wp_rgM2, ↓wp_range1, ↓wp_enumA,
  ↓sq_nx, ↓sq_rt, ↓sq_bk, ↓sq_ct, ↓rt_rt, ↓rt_nx, ↓lo_nx, ↓lo_ct, ↓lo_bk, ↓lo_rt, ↓vq_fz, ↓vq_own, ↓oq_own, ↓sr_src, ↓tb_b, ↓ls_l, ↓iq_i, ↓l2_2, ↓il1_, ↓il2_, ↓op_some, ↓op_map,
  ↓o_addI, ↓o_addT, ↓o_addBI, ↓o_addBT, ↓o_addBL, ↓o_mulBI, ↓o_mulBL, ↓o_sub, ↓o_mul, ↓o_div, ↓o_mod, ↓o_pow, ↓o_lt, ↓o_le, ↓o_gt, ↓o_ge, ↓o_neg, ↓o_eqI, ↓o_neI, ↓o_neB, ↓o_isN, ↓o_notIsN, ↓o_isT, ↓o_notIsT, ↓o_ixT, ↓o_ixL, ↓o_len_l, ↓o_len_t, ↓o_abs, ↓o_max2, ↓o_min2, ↓o_int, ↓o_tup_l, ↓o_tup_t, ↓o_lst_l, ↓o_lst_t, ↓o_items_l, ↓o_items_t, ↓i_tt, ↓i_tl, ↓i_tn, ↓i_ti, ↓i_ss, ↓i_ii, ↓i_bi, ↓i_ib, ↓i_bb, ↓o_bnm, ↓o_btp, ↓o_bnil, ↓o_bcons,
  isN_n, isN_i, isN_b, isN_t, isN_l, isN_s, at_0, at_1, at_2, at_3, at_m1, at_nat, szl0, szl1, szl2, szl3, szl4, szl5, szl6, szl7, szl8, szl9, szl10, szl11, szl12, szl13, szl14, szl15, szl16, szk0, szk1, szk2, szk3, szk4, szk5, szk6, szk7, szk8, sl_d, sl_s,
  List.getElem?_cons_zero, List.getElem?_cons_succ, List.getElem?_map, List.set_cons_zero, List.set_cons_succ, List.map_cons, List.map_nil, List.length_map, List.replicate_succ, List.replicate_zero, List.cons_append, List.nil_append, List.length_cons, List.length_nil, List.isEmpty_nil, List.isEmpty_cons, Nat.reduceAdd, Nat.reduceSub, Int.cast_ofNat_Int, Int.reduceNe, Int.reduceEq, Nat.sub_zero, Nat.sub_self,
  decide_eq_true_eq, decide_eq_false_iff_not, Bool.not_eq_true', Bool.not_eq_false', Bool.not_true, Bool.not_false, Bool.true_eq_false, Bool.false_eq_true, true_and, and_true, forall_const, false_imp_iff, true_imp_iff, imp_self, forall_false, implies_true, not_true_eq_false, not_false_eq_true, true_implies, false_implies, eq_self_iff_true, reduceCtorEq])
local macro_rules | `(tactic| walk_at "wi") => `(tactic| simp only [↓ca_def, ↓wp_seq, ↓wp_asg, ↓wp_asgN, ↓wp_retS, ↓wp_dropS, ↓wp_unpS, ↓wp_par2, ↓wp_parO, ↓wp_appS, ↓wp_forS, ↓wp_forNil, ↓wp_seqI, ↓wp_ret, ↓wp_cD, ↓wp_vD, ↓wp_op2, ↓wp_op1, ↓wp_callN, ↓wp_toB, ↓wp_andT, ↓wp_orT, ↓wp_notT, ↓wp_andV, ↓wp_orV, ↓wp_notV, ↓wp_ifD, ↓wp_chn, ↓wp_consL, ↓wp_consA, ↓wp_srcA, ↓wp_callD, ↓wp_tupD, ↓wp_lstD, ↓wp_someI, ↓wp_sliceD, ↓wp_rngD, ↓wp_rgM1, ↓wp_rgM2, ↓wp_range1, ↓wp_enumA,
  ↓sq_nx, ↓sq_rt, ↓sq_bk, ↓sq_ct, ↓rt_rt, ↓rt_nx, ↓lo_nx, ↓lo_ct, ↓lo_bk, ↓lo_rt, ↓vq_fz, ↓vq_own, ↓oq_own, ↓sr_src, ↓tb_b, ↓ls_l, ↓iq_i, ↓l2_2, ↓il1_, ↓il2_, ↓op_some, ↓op_map,
  ↓o_addI, ↓o_addT, ↓o_addBI, ↓o_addBT, ↓o_addBL, ↓o_mulBI, ↓o_mulBL, ↓o_sub, ↓o_mul, ↓o_div, ↓o_mod, ↓o_pow, ↓o_lt, ↓o_le, ↓o_gt, ↓o_ge, ↓o_neg, ↓o_eqI, ↓o_neI, ↓o_neB, ↓o_isN, ↓o_notIsN, ↓o_isT, ↓o_notIsT, ↓o_ixT, ↓o_ixL, ↓o_len_l, ↓o_len_t, ↓o_abs, ↓o_max2, ↓o_min2, ↓o_int, ↓o_tup_l, ↓o_tup_t, ↓o_lst_l, ↓o_lst_t, ↓o_items_l, ↓o_items_t, ↓i_tt, ↓i_tl, ↓i_tn, ↓i_ti, ↓i_ss, ↓i_ii, ↓i_bi, ↓i_ib, ↓i_bb, ↓o_bnm, ↓o_btp, ↓o_bnil, ↓o_bcons,
  isN_n, isN_i, isN_b, isN_t, isN_l, isN_s, at_0, at_1, at_2, at_3, at_m1, at_nat, szl0, szl1, szl2, szl3, szl4, szl5, szl6, szl7, szl8, szl9, szl10, szl11, szl12, szl13, szl14, szl15, szl16, szk0, szk1, szk2, szk3, szk4, szk5, szk6, szk7, szk8, sl_d, sl_s,
  List.getElem?_cons_zero, List.getElem?_cons_succ, List.getElem?_map, List.set_cons_zero, List.set_cons_succ, List.map_cons, List.map_nil, List.length_map, List.replicate_succ, List.replicate_zero, List.cons_append, List.nil_append, List.length_cons, List.length_nil, List.isEmpty_nil, List.isEmpty_cons, Nat.reduceAdd, Nat.reduceSub, Int.cast_ofNat_Int, Int.reduceNe, Int.reduceEq, Nat.sub_zero, Nat.sub_self,
  decide_eq_true_eq, decide_eq_false_iff_not, Bool.not_eq_true', Bool.not_eq_false', Bool.not_true, Bool.not_false, Bool.true_eq_false, Bool.false_eq_true, true_and, and_true, forall_const, false_imp_iff, true_imp_iff, imp_self, forall_false, implies_true, not_true_eq_false, not_false_eq_true, true_implies, false_implies, eq_self_iff_true, reduceCtorEq])
local macro_rules | `(tactic| walk_at "wa") => `(tactic| simp only [↓ca_def, ↓wp_seq, ↓wp_asgN, ↓wp_retS, ↓wp_dropS, ↓wp_unpS, ↓wp_par2, ↓wp_parO, ↓wp_appS, ↓wp_forS, ↓wp_forNil, ↓wp_seqI, ↓wp_ret, ↓wp_cD, ↓wp_vD, ↓wp_op2, ↓wp_op1, ↓wp_callN, ↓wp_toB, ↓wp_andT, ↓wp_orT, ↓wp_notT, ↓wp_andV, ↓wp_orV, ↓wp_notV, ↓wp_ifD, ↓wp_chn, ↓wp_consL, ↓wp_consA, ↓wp_srcA, ↓wp_callD, ↓wp_tupD, ↓wp_lstD, ↓wp_someI, ↓wp_sliceD, ↓wp_rngD, ↓wp_rgM1, ↓wp_rgM2, ↓wp_range1, ↓wp_enumA,
  ↓sq_nx, ↓sq_rt, ↓sq_bk, ↓sq_ct, ↓rt_rt, ↓rt_nx, ↓lo_nx, ↓lo_ct, ↓lo_bk, ↓lo_rt, ↓vq_fz, ↓vq_own, ↓oq_own, ↓sr_src, ↓tb_b, ↓ls_l, ↓iq_i, ↓l2_2, ↓il1_, ↓il2_, ↓op_some, ↓op_map,
  ↓o_addI, ↓o_addT, ↓o_addBI, ↓o_addBT, ↓o_addBL, ↓o_mulBI, ↓o_mulBL, ↓o_sub, ↓o_mul, ↓o_div, ↓o_mod, ↓o_pow, ↓o_lt, ↓o_le, ↓o_gt, ↓o_ge, ↓o_neg, ↓o_eqI, ↓o_neI, ↓o_neB, ↓o_isN, ↓o_notIsN, ↓o_isT, ↓o_notIsT, ↓o_ixT, ↓o_ixL, ↓o_len_l, ↓o_len_t, ↓o_abs, ↓o_max2, ↓o_min2, ↓o_int, ↓o_tup_l, ↓o_tup_t, ↓o_lst_l, ↓o_lst_t, ↓o_items_l, ↓o_items_t, ↓i_tt, ↓i_tl, ↓i_tn, ↓i_ti, ↓i_ss, ↓i_ii, ↓i_bi, ↓i_ib, ↓i_bb, ↓o_bnm, ↓o_btp, ↓o_bnil, ↓o_bcons,
  isN_n, isN_i, isN_b, isN_t, isN_l, isN_s, at_0, at_1, at_2, at_3, at_m1, at_nat, szl0, szl1, szl2, szl3, szl4, szl5, szl6, szl7, szl8, szl9, szl10, szl11, szl12, szl13, szl14, szl15, szl16, szk0, szk1, szk2, szk3, szk4, szk5, szk6, szk7, szk8, sl_d, sl_s,
  List.getElem?_cons_zero, List.getElem?_cons_succ, List.getElem?_map, List.set_cons_zero, List.set_cons_succ, List.map_cons, List.map_nil, List.length_map, List.replicate_succ, List.replicate_zero, List.cons_append, List.nil_append, List.length_cons, List.length_nil, List.isEmpty_nil, List.isEmpty_cons, Nat.reduceAdd, Nat.reduceSub, Int.cast_ofNat_Int, Int.reduceNe, Int.reduceEq, Nat.sub_zero, Nat.sub_self,
  decide_eq_true_eq, decide_eq_false_iff_not, Bool.not_eq_true', Bool.not_eq_false', Bool.not_true, Bool.not_false, Bool.true_eq_false, Bool.false_eq_true, true_and, and_true, forall_const, false_imp_iff, true_imp_iff, imp_self, forall_false, implies_true, not_true_eq_false, not_false_eq_true, true_implies, false_implies, eq_self_iff_true, reduceCtorEq])
local macro_rules | `(tactic| walk_at "wd") => `(tactic| simp only [↓ca_def, ↓wp_seq, ↓wp_asg, ↓wp_asgN, ↓wp_retS, ↓wp_dropS, ↓wp_ifS, ↓wp_unpS, ↓wp_par2, ↓wp_parO, ↓wp_appS, ↓wp_forS, ↓wp_forNil, ↓wp_seqI, ↓wp_ret, ↓wp_cD, ↓wp_vD, ↓wp_op2, ↓wp_op1, ↓wp_callN, ↓wp_toB, ↓wp_andT, ↓wp_orT, ↓wp_notT, ↓wp_andV, ↓wp_orV, ↓wp_notV, ↓wp_chn, ↓wp_consL, ↓wp_consA, ↓wp_srcA, ↓wp_callD, ↓wp_tupD, ↓wp_lstD, ↓wp_someI, ↓wp_sliceD, ↓wp_rngD, ↓wp_rgM1, ↓wp_rgM2, ↓wp_range1, ↓wp_enumA,
  ↓sq_nx, ↓sq_rt, ↓sq_bk, ↓sq_ct, ↓rt_rt, ↓rt_nx, ↓lo_nx, ↓lo_ct, ↓lo_bk, ↓lo_rt, ↓vq_fz, ↓vq_own, ↓oq_own, ↓sr_src, ↓tb_b, ↓ls_l, ↓iq_i, ↓l2_2, ↓il1_, ↓il2_, ↓op_some, ↓op_map,
  ↓o_addI, ↓o_addT, ↓o_addBI, ↓o_addBT, ↓o_addBL, ↓o_mulBI, ↓o_mulBL, ↓o_sub, ↓o_mul, ↓o_div, ↓o_mod, ↓o_pow, ↓o_lt, ↓o_le, ↓o_gt, ↓o_ge, ↓o_neg, ↓o_eqI, ↓o_neI, ↓o_neB, ↓o_isN, ↓o_notIsN, ↓o_isT, ↓o_notIsT, ↓o_ixT, ↓o_ixL, ↓o_len_l, ↓o_len_t, ↓o_abs, ↓o_max2, ↓o_min2, ↓o_int, ↓o_tup_l, ↓o_tup_t, ↓o_lst_l, ↓o_lst_t, ↓o_items_l, ↓o_items_t, ↓i_tt, ↓i_tl, ↓i_tn, ↓i_ti, ↓i_ss, ↓i_ii, ↓i_bi, ↓i_ib, ↓i_bb, ↓o_bnm, ↓o_btp, ↓o_bnil, ↓o_bcons,
  isN_n, isN_i, isN_b, isN_t, isN_l, isN_s, at_0, at_1, at_2, at_3, at_m1, at_nat, szl0, szl1, szl2, szl3, szl4, szl5, szl6, szl7, szl8, szl9, szl10, szl11, szl12, szl13, szl14, szl15, szl16, szk0, szk1, szk2, szk3, szk4, szk5, szk6, szk7, szk8, sl_d, sl_s,
  List.getElem?_cons_zero, List.getElem?_cons_succ, List.getElem?_map, List.set_cons_zero, List.set_cons_succ, List.map_cons, List.map_nil, List.length_map, List.replicate_succ, List.replicate_zero, List.cons_append, List.nil_append, List.length_cons, List.length_nil, List.isEmpty_nil, List.isEmpty_cons, Nat.reduceAdd, Nat.reduceSub, Int.cast_ofNat_Int, Int.reduceNe, Int.reduceEq, Nat.sub_zero, Nat.sub_self,
  decide_eq_true_eq, decide_eq_false_iff_not, Bool.not_eq_true', Bool.not_eq_false', Bool.not_true, Bool.not_false, Bool.true_eq_false, Bool.false_eq_true, true_and, and_true, forall_const, false_imp_iff, true_imp_iff, imp_self, forall_false, implies_true, not_true_eq_false, not_false_eq_true, true_implies, false_implies, eq_self_iff_true, reduceCtorEq])
def oN : Option Nat → D
  | none => .none
  | some k => .int (k : Nat)
/-- the first way with the least share, of the first i -/
structure Bst (rows : List (List Int)) (n i k : Nat) (u : Int × Int) : Prop where
  lt : k < i
  e : wsh rows n k = some u
  mn : ∀ j v, j < i → wsh rows n j = some v → ¬ K48.lt v u
  fs : ∀ j v, j < k → wsh rows n j = some v → K48.lt u v
theorem E_best_way {rows : List (List Int)} {n : Nat} (h : Tb rows n) (s : Src) : ∃ r : Option Nat, f_best_way [.d (tbD rows)] s = some (oN r, s) ∧ ((r = none ∧ ∀ j, j < rows.length → wsh rows n j = none) ∨ ∃ k u, r = some k ∧ Bst rows n rows.length k u) := by
  have h3 := h.len
  have key : CA f_best_way [.d (tbD rows)] s fun d s' => s' = s ∧ ∃ r : Option Nat, d = oN r ∧ ((r = none ∧ ∀ j, j < rows.length → wsh rows n j = none) ∨ ∃ k u, r = some k ∧ Bst rows n rows.length k u) := by
    unfold f_best_way d_best_way
    walk_at "wp"
    refine ⟨by omega, ?_⟩
    rw [ir_natD]
    refine wp_forN _ (fun i S => ∃ r b j3 j4, S = ⟨[.fz (tbD rows), .fz (oN r), .fz b, j3, j4], s⟩ ∧ ((r = none ∧ b = .none ∧ ∀ j, j < i → wsh rows n j = none) ∨ ∃ k u, r = some k ∧ b = pI u ∧ Bst rows n i k u)) rows.length ⟨none, .none, _, _, rfl, .inl ⟨rfl, rfl, fun j hj => absurd hj (Nat.not_lt_zero j)⟩⟩ ?_ ?_
    · rintro i S hi ⟨r, b, j3, j4, rfl, hc⟩
      walk_at "wp"
      refine ca_of (E_way h hi s) ?_
      walk_at "wp"
      cases hw : wsh rows n i with
      | none =>
        simp only [oD]
        walk_at "wp"
        refine ⟨r, b, _, _, rfl, ?_⟩
        rcases hc with ⟨h1, h2, h4⟩ | ⟨k, u, h1, h2, h4⟩
        · refine .inl ⟨h1, h2, fun j hj => ?_⟩
          by_cases e : j = i
          · rw [e]; exact hw
          · exact h4 j (by omega)
        · refine .inr ⟨k, u, h1, h2, ⟨by have := h4.lt; omega, h4.e, fun j v hj e => ?_, h4.fs⟩⟩
          by_cases z : j = i
          · rw [z, hw] at e; cases e
          · exact h4.mn j v (by omega) e
      | some v =>
        have sv := wsh_Sh h hi hw
        simp only [oD]
        walk_at "wp"
        rcases hc with ⟨h1, h2, h4⟩ | ⟨k, u, h1, h2, h4⟩
        · subst h2
          walk_at "wp"
          refine ⟨some i, pI v, _, _, rfl, .inr ⟨i, v, rfl, rfl, ⟨by omega, hw, fun j x hj e => ?_, fun j x hj e => ?_⟩⟩⟩
          · by_cases z : j = i
            · rw [z, hw] at e
              cases e
              exact lt_ir _
            · rw [h4 j (by omega)] at e
              cases e
          · rw [h4 j (by omega)] at e
            cases e
        · subst h2
          have su := wsh_Sh h (show k < rows.length by have := h4.lt; omega) h4.e
          walk_at "wp"
          refine ca_of (E_less sv.sml su.sml s) ?_
          walk_at "wp"
          refine ⟨fun c => ⟨some i, pI v, _, _, rfl, .inr ⟨i, v, rfl, rfl, ⟨by omega, hw, fun j x hj e => ?_, fun j x hj e => ?_⟩⟩⟩, fun c => ⟨r, pI u, _, _, rfl, .inr ⟨k, u, h1, rfl, ⟨by have := h4.lt; omega, h4.e, fun j x hj e => ?_, h4.fs⟩⟩⟩⟩
          · by_cases z : j = i
            · rw [z, hw] at e
              cases e
              exact lt_ir _
            · have sx := wsh_Sh h (show j < rows.length by omega) e
              exact fun q => h4.mn j x (by omega) e (lt_tr sx.pos sv.pos su.pos q c)
          · have sx := wsh_Sh h (show j < rows.length by omega) e
            rcases sv.tri sx with q | q | q
            · exact q
            · rw [← q] at e sx
              exact absurd c (h4.mn j v hj e)
            · exact absurd (lt_tr sx.pos sv.pos su.pos q c) (h4.mn j x hj e)
          · by_cases z : j = i
            · rw [z, hw] at e
              cases e
              exact c
            · exact h4.mn j x (by omega) e
    · rintro S ⟨r, b, j3, j4, rfl, hc⟩
      walk_at "wp"
      refine ⟨r, rfl, ?_⟩
      rcases hc with ⟨h1, h2, h4⟩ | ⟨k, u, h1, h2, h4⟩
      · exact .inl ⟨h1, h4⟩
      · exact .inr ⟨k, u, h1, h4⟩
  obtain ⟨d, s', e, rfl, r, rfl, q⟩ := key
  exact ⟨r, e, q⟩
theorem E_least_share {rows : List (List Int)} {n : Nat} (h : Tb rows n) (s : Src) {r : Option Nat} (e : f_best_way [.d (tbD rows)] s = some (oN r, s)) (hr : ∀ k, r = some k → k < rows.length) : f_least_share [.d (tbD rows)] s = some (oD (r.bind (wsh rows n)), s) := by
  refine ca_eq ?_
  unfold f_least_share d_least_share
  walk_at "wp"
  refine ca_of e ?_
  walk_at "wp"
  cases r with
  | none =>
    simp only [oN]
    walk_at "wp"
    rfl
  | some k =>
    simp only [oN]
    walk_at "wp"
    refine ca_of (E_way h (hr k rfl) s) ?_
    walk_at "wp"
    rfl
/-! ### papers -/
def hd (rows : List (List Int)) (n k : Nat) (c0 c1 : Int) : Option Nat := (ca rows n k c0 c1).head?
theorem hd_none {rows : List (List Int)} {n k : Nat} {c0 c1 : Int} : hd rows n k c0 c1 = none ↔ ca rows n k c0 c1 = [] := List.head?_eq_none_iff
theorem hd_mem {rows : List (List Int)} {n k i : Nat} {c0 c1 : Int} (h : hd rows n k c0 c1 = some i) : i ∈ ca rows n k c0 c1 ∧ i < n := by
  have m := List.mem_of_head? h
  exact ⟨m, List.mem_range.mp (List.mem_filter.mp m).1⟩
theorem o_ww {K : D → Prop} : OP (eqD (.str "way") (.str "way")) K = K (.bool true) := (o_eqS0 _ _ (by decide +kernel) (by decide +kernel)).trans (by rw [show (("way" : Str) == "way") = true from by decide +kernel])
theorem o_bw {K : D → Prop} : OP (eqD (.str "bars") (.str "way")) K = K (.bool false) := (o_eqS0 _ _ (by decide +kernel) (by decide +kernel)).trans (by rw [show (("bars" : Str) == "way") = false from by decide +kernel])
theorem o_nwb {K : D → Prop} : OP (neD (.str "way") (.str "bars")) K = K (.bool true) := (o_neS0 _ _ (by decide +kernel) (by decide +kernel)).trans (by rw [show (!(("way" : Str) == "bars")) = true from by decide +kernel])
theorem o_nbb {K : D → Prop} : OP (neD (.str "bars") (.str "bars")) K = K (.bool false) := (o_neS0 _ _ (by decide +kernel) (by decide +kernel)).trans (by rw [show (!(("bars" : Str) == "bars")) = false from by decide +kernel])
theorem ok_lN (st : List Nat) : okD (lN st) = true := (ok_map (fun (k : Nat) => PyData.int (k : Int)) (fun _ => rfl) 0 (by decide) (fun _ => Nat.le_refl _) st).1
theorem lN_empty (st : List Nat) : (st.map fun (k : Nat) => PyData.int (k : Int)).isEmpty = st.isEmpty := by cases st <;> rfl
theorem J_way {rows : List (List Int)} {n : Nat} (h : Tb rows n) {k : Nat} (hk : k < rows.length) {c0 c1 : Int} (h0 : sml c0) (h1 : sml c1) (s : Src) :
    f_judge_share [.d (tbD rows), .d (pI (c0, c1)), .d (.tuple [.str "way", .int (k : Nat)])] s = some ((match hd rows n k c0 c1 with | none => .none | some i => .tuple [.str "case", .int (i : Nat)]), s) := by
  refine ca_eq ?_
  unfold f_judge_share d_judge_share
  walk_at "wp"
  rw [o_ww]
  walk_at "wp"
  refine ca_of (E_is_cost (k : Int) (by omega) s) ?_
  walk_at "wp"
  refine ⟨fun c => ?_, fun c => by omega⟩
  refine ca_of (E_cases_above h hk h0 h1 s) ?_
  walk_at "wp"
  rw [o_neNil (ok_lN _), lN_empty]
  walk_at "wp"
  unfold hd
  cases hca : ca rows n k c0 c1 with
  | nil => simp
  | cons a r =>
    simp only [List.isEmpty_cons, List.map_cons]
    walk_at "wp"
    rfl
theorem compN {vs : List Nat} {i : MV (List D)} {p : Pat} {t : MV Bool} {env : List Slot} {s : Src} : True := trivial
theorem E_is_case {rows : List (List Int)} {n : Nat} (h : Tb rows n) (row : List Int) (hl : row.length = rows.length) (hr : ∀ x ∈ row, 0 ≤ x) (s : Src) :
    f_is_case_row [.d (tbD rows), .d (tI' row)] s = some (.bool (row.all fun x => decide (x < n)), s) := by
  have h3 := h.len
  have hpos : 0 < rows.length := List.length_pos_iff.mpr h.ne
  refine ca_eq ?_
  unfold f_is_case_row d_is_case_row
  walk_at "wp"
  refine ⟨fun c => absurd (by rw [hl]) c, fun _ => ?_⟩
  refine wp_compA row PyData.int (fun x => .bool (decide (x < n))) (s := s) ?_ ?_ ?_ ?_
  · walk_at "wp"
  · intro x hx
    simp only [wipeE]
    walk_at "wp"
    refine ca_of (E_is_cost x (hr x hx) s) ?_
    walk_at "wp"
    rw [show rows[0]? = some (rows.getD 0 []) from getk [] hpos]
    walk_at "wp"
    rw [row_len h hpos]
  · omega
  · walk_at "wp"
    have e : (row.map fun (x : Int) => PyData.bool (decide (x < (n : Int)))) = (row.map fun (x : Int) => decide (x < (n : Int))).map PyData.bool := by rw [List.map_map]; rfl
    rw [e, ev_all]
    walk_at "wp"
    simp [List.all_map]
/-- the ways whose told case is none at which they cost more -/
def off (rows : List (List Int)) (n : Nat) (row : List Int) (c0 c1 : Int) : List Nat := (List.range rows.length).filter fun k => !(ca rows n k c0 c1).contains (row.getD k 0).toNat
theorem o_notinN {K : D → Prop} (x : Nat) (st : List Nat) : OP (notInD (.int (x : Nat)) (lN st)) K = K (.bool (!st.contains x)) := by
  have e : notInD (.int (x : Nat)) (lN st) = some (.bool (!st.contains x)) := by
    show (if okD (lN st) = true ∧ okD (.int (x : Nat)) = true then some (PyData.bool (!(st.map fun (k : Nat) => PyData.int (k : Int)).any fun y => PyData.eqv y (.int (x : Nat)))) else none) = _
    rw [if_pos ⟨ok_lN _, by rfl⟩]
    congr 3
    rw [List.any_map]
    induction st with
    | nil => rfl
    | cons a r ih =>
      have e2 : PyData.eqv (PyData.int (a : Int)) (.int (x : Nat)) = (x == a) := by
        show ((a : Int) == (x : Int)) = (x == a)
        by_cases z : a = x
        · subst z
          simp
        · have z2 : ¬ (a : Int) = (x : Int) := by omega
          have z3 : ¬ x = a := fun e => z e.symm
          rw [beq_eq_false_iff_ne.mpr z2, beq_eq_false_iff_ne.mpr z3]
      rw [List.any_cons, ih, List.contains_cons]
      show (PyData.eqv (PyData.int (a : Int)) (.int (x : Nat)) || _) = _
      rw [e2]
  rw [e]
  exact op_some _ _
end K48

-- part K48s
set_option Elab.async false
set_option linter.all false
set_option maxRecDepth 100000
set_option maxHeartbeats 2000000
namespace K48
open PySem PySem.Spec PyProof.Rows L2 RZ DL
local macro_rules | `(tactic| walk_at "wp") => `(tactic| simp only [↓ca_def, ↓wp_seq, ↓wp_asg, ↓wp_asgN, ↓wp_retS, ↓wp_dropS, ↓wp_ifS, ↓wp_unpS, ↓wp_par2, ↓wp_parO, ↓wp_appS, ↓wp_forS, ↓wp_forNil, ↓wp_seqI, ↓wp_ret, ↓wp_cD, ↓wp_vD, ↓wp_op2, ↓wp_op1, ↓wp_callN, ↓wp_toB, ↓wp_andT, ↓wp_orT, ↓wp_notT, ↓wp_andV, ↓wp_orV, ↓wp_notV, ↓wp_ifD, ↓wp_chn, ↓wp_consL, ↓wp_consA, ↓wp_srcA, ↓wp_callD, ↓wp_tupD, ↓wp_lstD, ↓wp_someI, ↓wp_sliceD, ↓wp_rngD, ↓wp_rgM1, ↓wp_rgM2, ↓wp_range1, ↓wp_enumA,
  ↓sq_nx, ↓sq_rt, ↓sq_bk, ↓sq_ct, ↓rt_rt, ↓rt_nx, ↓lo_nx, ↓lo_ct, ↓lo_bk, ↓lo_rt, ↓vq_fz, ↓vq_own, ↓oq_own, ↓sr_src, ↓tb_b, ↓ls_l, ↓iq_i, ↓l2_2, ↓il1_, ↓il2_, ↓op_some, ↓op_map,
  ↓o_addI, ↓o_addT, ↓o_addBI, ↓o_addBT, ↓o_addBL, ↓o_mulBI, ↓o_mulBL, ↓o_sub, ↓o_mul, ↓o_div, ↓o_mod, ↓o_pow, ↓o_lt, ↓o_le, ↓o_gt, ↓o_ge, ↓o_neg, ↓o_eqI, ↓o_neI, ↓o_neB, ↓o_isN, ↓o_notIsN, ↓o_isT, ↓o_notIsT, ↓o_ixT, ↓o_ixL, ↓o_len_l, ↓o_len_t, ↓o_abs, ↓o_max2, ↓o_min2, ↓o_int, ↓o_tup_l, ↓o_tup_t, ↓o_lst_l, ↓o_lst_t, ↓o_items_l, ↓o_items_t, ↓i_tt, ↓i_tl, ↓i_tn, ↓i_ti, ↓i_ss, ↓i_ii, ↓i_bi, ↓i_ib, ↓i_bb, ↓o_bnm, ↓o_btp, ↓o_bnil, ↓o_bcons,
  isN_n, isN_i, isN_b, isN_t, isN_l, isN_s, at_0, at_1, at_2, at_3, at_m1, at_nat, szl0, szl1, szl2, szl3, szl4, szl5, szl6, szl7, szl8, szl9, szl10, szl11, szl12, szl13, szl14, szl15, szl16, szk0, szk1, szk2, szk3, szk4, szk5, szk6, szk7, szk8, sl_d, sl_s,
  List.getElem?_cons_zero, List.getElem?_cons_succ, List.getElem?_map, List.set_cons_zero, List.set_cons_succ, List.map_cons, List.map_nil, List.length_map, List.replicate_succ, List.replicate_zero, List.cons_append, List.nil_append, List.length_cons, List.length_nil, List.isEmpty_nil, List.isEmpty_cons, Nat.reduceAdd, Nat.reduceSub, Int.cast_ofNat_Int, Int.reduceNe, Int.reduceEq, Nat.sub_zero, Nat.sub_self,
  decide_eq_true_eq, decide_eq_false_iff_not, Bool.not_eq_true', Bool.not_eq_false', Bool.not_true, Bool.not_false, Bool.true_eq_false, Bool.false_eq_true, true_and, and_true, forall_const, false_imp_iff, true_imp_iff, imp_self, forall_false, implies_true, not_true_eq_false, not_false_eq_true, true_implies, false_implies, eq_self_iff_true, reduceCtorEq])
local macro_rules | `(tactic| walk_at "wu") => `(tactic| simp only [↓ca_def, ↓wp_seq, ↓wp_asg, ↓wp_asgN, ↓wp_retS, ↓wp_dropS, ↓wp_ifS, ↓wp_unpS, ↓wp_par2, ↓wp_parO, ↓wp_appS, ↓wp_forS, ↓wp_forNil, ↓wp_forCons, ↓wp_seqI, ↓wp_ret, ↓wp_cD, ↓wp_vD, ↓wp_op2, ↓wp_op1, ↓wp_callN, ↓wp_toB, ↓wp_andT, ↓wp_orT, ↓wp_notT, ↓wp_andV, ↓wp_orV, ↓wp_notV, ↓wp_ifD, ↓wp_chn, ↓wp_consL, ↓wp_consA, ↓wp_srcA, ↓wp_callD, ↓wp_tupD, ↓wp_lstD, ↓wp_someI, ↓wp_sliceD, ↓wp_rngD, ↓wp_rgM1, ↓wp_rgM2, ↓wp_range1, ↓wp_enumA,
  ↓sq_nx, ↓sq_rt, ↓sq_bk, ↓sq_ct, ↓rt_rt, ↓rt_nx, ↓lo_nx, ↓lo_ct, ↓lo_bk, ↓lo_rt, ↓vq_fz, ↓vq_own, ↓oq_own, ↓sr_src, ↓tb_b, ↓ls_l, ↓iq_i, ↓l2_2, ↓il1_, ↓il2_, ↓op_some, ↓op_map,
  ↓o_addI, ↓o_addT, ↓o_addBI, ↓o_addBT, ↓o_addBL, ↓o_mulBI, ↓o_mulBL, ↓o_sub, ↓o_mul, ↓o_div, ↓o_mod, ↓o_pow, ↓o_lt, ↓o_le, ↓o_gt, ↓o_ge, ↓o_neg, ↓o_eqI, ↓o_neI, ↓o_neB, ↓o_isN, ↓o_notIsN, ↓o_isT, ↓o_notIsT, ↓o_ixT, ↓o_ixL, ↓o_len_l, ↓o_len_t, ↓o_abs, ↓o_max2, ↓o_min2, ↓o_int, ↓o_tup_l, ↓o_tup_t, ↓o_lst_l, ↓o_lst_t, ↓o_items_l, ↓o_items_t, ↓i_tt, ↓i_tl, ↓i_tn, ↓i_ti, ↓i_ss, ↓i_ii, ↓i_bi, ↓i_ib, ↓i_bb, ↓o_bnm, ↓o_btp, ↓o_bnil, ↓o_bcons,
  isN_n, isN_i, isN_b, isN_t, isN_l, isN_s, at_0, at_1, at_2, at_3, at_m1, at_nat, szl0, szl1, szl2, szl3, szl4, szl5, szl6, szl7, szl8, szl9, szl10, szl11, szl12, szl13, szl14, szl15, szl16, szk0, szk1, szk2, szk3, szk4, szk5, szk6, szk7, szk8, sl_d, sl_s,
  List.getElem?_cons_zero, List.getElem?_cons_succ, List.getElem?_map, List.set_cons_zero, List.set_cons_succ, List.map_cons, List.map_nil, List.length_map, List.replicate_succ, List.replicate_zero, List.cons_append, List.nil_append, List.length_cons, List.length_nil, List.isEmpty_nil, List.isEmpty_cons, Nat.reduceAdd, Nat.reduceSub, Int.cast_ofNat_Int, Int.reduceNe, Int.reduceEq, Nat.sub_zero, Nat.sub_self,
  decide_eq_true_eq, decide_eq_false_iff_not, Bool.not_eq_true', Bool.not_eq_false', Bool.not_true, Bool.not_false, Bool.true_eq_false, Bool.false_eq_true, true_and, and_true, forall_const, false_imp_iff, true_imp_iff, imp_self, forall_false, implies_true, not_true_eq_false, not_false_eq_true, true_implies, false_implies, eq_self_iff_true, reduceCtorEq])
local macro_rules | `(tactic| walk_at "wi") => `(tactic| simp only [↓ca_def, ↓wp_seq, ↓wp_asg, ↓wp_asgN, ↓wp_retS, ↓wp_dropS, ↓wp_unpS, ↓wp_par2, ↓wp_parO, ↓wp_appS, ↓wp_forS, ↓wp_forNil, ↓wp_seqI, ↓wp_ret, ↓wp_cD, ↓wp_vD, ↓wp_op2, ↓wp_op1, ↓wp_callN, ↓wp_toB, ↓wp_andT, ↓wp_orT, ↓wp_notT, ↓wp_andV, ↓wp_orV, ↓wp_notV, ↓wp_ifD, ↓wp_chn, ↓wp_consL, ↓wp_consA, ↓wp_srcA, ↓wp_callD, ↓wp_tupD, ↓wp_lstD, ↓wp_someI, ↓wp_sliceD, ↓wp_rngD, ↓wp_rgM1, ↓wp_rgM2, ↓wp_range1, ↓wp_enumA,
  ↓sq_nx, ↓sq_rt, ↓sq_bk, ↓sq_ct, ↓rt_rt, ↓rt_nx, ↓lo_nx, ↓lo_ct, ↓lo_bk, ↓lo_rt, ↓vq_fz, ↓vq_own, ↓oq_own, ↓sr_src, ↓tb_b, ↓ls_l, ↓iq_i, ↓l2_2, ↓il1_, ↓il2_, ↓op_some, ↓op_map,
  ↓o_addI, ↓o_addT, ↓o_addBI, ↓o_addBT, ↓o_addBL, ↓o_mulBI, ↓o_mulBL, ↓o_sub, ↓o_mul, ↓o_div, ↓o_mod, ↓o_pow, ↓o_lt, ↓o_le, ↓o_gt, ↓o_ge, ↓o_neg, ↓o_eqI, ↓o_neI, ↓o_neB, ↓o_isN, ↓o_notIsN, ↓o_isT, ↓o_notIsT, ↓o_ixT, ↓o_ixL, ↓o_len_l, ↓o_len_t, ↓o_abs, ↓o_max2, ↓o_min2, ↓o_int, ↓o_tup_l, ↓o_tup_t, ↓o_lst_l, ↓o_lst_t, ↓o_items_l, ↓o_items_t, ↓i_tt, ↓i_tl, ↓i_tn, ↓i_ti, ↓i_ss, ↓i_ii, ↓i_bi, ↓i_ib, ↓i_bb, ↓o_bnm, ↓o_btp, ↓o_bnil, ↓o_bcons,
  isN_n, isN_i, isN_b, isN_t, isN_l, isN_s, at_0, at_1, at_2, at_3, at_m1, at_nat, szl0, szl1, szl2, szl3, szl4, szl5, szl6, szl7, szl8, szl9, szl10, szl11, szl12, szl13, szl14, szl15, szl16, szk0, szk1, szk2, szk3, szk4, szk5, szk6, szk7, szk8, sl_d, sl_s,
  List.getElem?_cons_zero, List.getElem?_cons_succ, List.getElem?_map, List.set_cons_zero, List.set_cons_succ, List.map_cons, List.map_nil, List.length_map, List.replicate_succ, List.replicate_zero, List.cons_append, List.nil_append, List.length_cons, List.length_nil, List.isEmpty_nil, List.isEmpty_cons, Nat.reduceAdd, Nat.reduceSub, Int.cast_ofNat_Int, Int.reduceNe, Int.reduceEq, Nat.sub_zero, Nat.sub_self,
  decide_eq_true_eq, decide_eq_false_iff_not, Bool.not_eq_true', Bool.not_eq_false', Bool.not_true, Bool.not_false, Bool.true_eq_false, Bool.false_eq_true, true_and, and_true, forall_const, false_imp_iff, true_imp_iff, imp_self, forall_false, implies_true, not_true_eq_false, not_false_eq_true, true_implies, false_implies, eq_self_iff_true, reduceCtorEq])
local macro_rules | `(tactic| walk_at "wa") => `(tactic| simp only [↓ca_def, ↓wp_seq, ↓wp_asgN, ↓wp_retS, ↓wp_dropS, ↓wp_unpS, ↓wp_par2, ↓wp_parO, ↓wp_appS, ↓wp_forS, ↓wp_forNil, ↓wp_seqI, ↓wp_ret, ↓wp_cD, ↓wp_vD, ↓wp_op2, ↓wp_op1, ↓wp_callN, ↓wp_toB, ↓wp_andT, ↓wp_orT, ↓wp_notT, ↓wp_andV, ↓wp_orV, ↓wp_notV, ↓wp_ifD, ↓wp_chn, ↓wp_consL, ↓wp_consA, ↓wp_srcA, ↓wp_callD, ↓wp_tupD, ↓wp_lstD, ↓wp_someI, ↓wp_sliceD, ↓wp_rngD, ↓wp_rgM1, ↓wp_rgM2, ↓wp_range1, ↓wp_enumA,
  ↓sq_nx, ↓sq_rt, ↓sq_bk, ↓sq_ct, ↓rt_rt, ↓rt_nx, ↓lo_nx, ↓lo_ct, ↓lo_bk, ↓lo_rt, ↓vq_fz, ↓vq_own, ↓oq_own, ↓sr_src, ↓tb_b, ↓ls_l, ↓iq_i, ↓l2_2, ↓il1_, ↓il2_, ↓op_some, ↓op_map,
  ↓o_addI, ↓o_addT, ↓o_addBI, ↓o_addBT, ↓o_addBL, ↓o_mulBI, ↓o_mulBL, ↓o_sub, ↓o_mul, ↓o_div, ↓o_mod, ↓o_pow, ↓o_lt, ↓o_le, ↓o_gt, ↓o_ge, ↓o_neg, ↓o_eqI, ↓o_neI, ↓o_neB, ↓o_isN, ↓o_notIsN, ↓o_isT, ↓o_notIsT, ↓o_ixT, ↓o_ixL, ↓o_len_l, ↓o_len_t, ↓o_abs, ↓o_max2, ↓o_min2, ↓o_int, ↓o_tup_l, ↓o_tup_t, ↓o_lst_l, ↓o_lst_t, ↓o_items_l, ↓o_items_t, ↓i_tt, ↓i_tl, ↓i_tn, ↓i_ti, ↓i_ss, ↓i_ii, ↓i_bi, ↓i_ib, ↓i_bb, ↓o_bnm, ↓o_btp, ↓o_bnil, ↓o_bcons,
  isN_n, isN_i, isN_b, isN_t, isN_l, isN_s, at_0, at_1, at_2, at_3, at_m1, at_nat, szl0, szl1, szl2, szl3, szl4, szl5, szl6, szl7, szl8, szl9, szl10, szl11, szl12, szl13, szl14, szl15, szl16, szk0, szk1, szk2, szk3, szk4, szk5, szk6, szk7, szk8, sl_d, sl_s,
  List.getElem?_cons_zero, List.getElem?_cons_succ, List.getElem?_map, List.set_cons_zero, List.set_cons_succ, List.map_cons, List.map_nil, List.length_map, List.replicate_succ, List.replicate_zero, List.cons_append, List.nil_append, List.length_cons, List.length_nil, List.isEmpty_nil, List.isEmpty_cons, Nat.reduceAdd, Nat.reduceSub, Int.cast_ofNat_Int, Int.reduceNe, Int.reduceEq, Nat.sub_zero, Nat.sub_self,
  decide_eq_true_eq, decide_eq_false_iff_not, Bool.not_eq_true', Bool.not_eq_false', Bool.not_true, Bool.not_false, Bool.true_eq_false, Bool.false_eq_true, true_and, and_true, forall_const, false_imp_iff, true_imp_iff, imp_self, forall_false, implies_true, not_true_eq_false, not_false_eq_true, true_implies, false_implies, eq_self_iff_true, reduceCtorEq])
local macro_rules | `(tactic| walk_at "wd") => `(tactic| simp only [↓ca_def, ↓wp_seq, ↓wp_asg, ↓wp_asgN, ↓wp_retS, ↓wp_dropS, ↓wp_ifS, ↓wp_unpS, ↓wp_par2, ↓wp_parO, ↓wp_appS, ↓wp_forS, ↓wp_forNil, ↓wp_seqI, ↓wp_ret, ↓wp_cD, ↓wp_vD, ↓wp_op2, ↓wp_op1, ↓wp_callN, ↓wp_toB, ↓wp_andT, ↓wp_orT, ↓wp_notT, ↓wp_andV, ↓wp_orV, ↓wp_notV, ↓wp_chn, ↓wp_consL, ↓wp_consA, ↓wp_srcA, ↓wp_callD, ↓wp_tupD, ↓wp_lstD, ↓wp_someI, ↓wp_sliceD, ↓wp_rngD, ↓wp_rgM1, ↓wp_rgM2, ↓wp_range1, ↓wp_enumA,
  ↓sq_nx, ↓sq_rt, ↓sq_bk, ↓sq_ct, ↓rt_rt, ↓rt_nx, ↓lo_nx, ↓lo_ct, ↓lo_bk, ↓lo_rt, ↓vq_fz, ↓vq_own, ↓oq_own, ↓sr_src, ↓tb_b, ↓ls_l, ↓iq_i, ↓l2_2, ↓il1_, ↓il2_, ↓op_some, ↓op_map,
  ↓o_addI, ↓o_addT, ↓o_addBI, ↓o_addBT, ↓o_addBL, ↓o_mulBI, ↓o_mulBL, ↓o_sub, ↓o_mul, ↓o_div, ↓o_mod, ↓o_pow, ↓o_lt, ↓o_le, ↓o_gt, ↓o_ge, ↓o_neg, ↓o_eqI, ↓o_neI, ↓o_neB, ↓o_isN, ↓o_notIsN, ↓o_isT, ↓o_notIsT, ↓o_ixT, ↓o_ixL, ↓o_len_l, ↓o_len_t, ↓o_abs, ↓o_max2, ↓o_min2, ↓o_int, ↓o_tup_l, ↓o_tup_t, ↓o_lst_l, ↓o_lst_t, ↓o_items_l, ↓o_items_t, ↓i_tt, ↓i_tl, ↓i_tn, ↓i_ti, ↓i_ss, ↓i_ii, ↓i_bi, ↓i_ib, ↓i_bb, ↓o_bnm, ↓o_btp, ↓o_bnil, ↓o_bcons,
  isN_n, isN_i, isN_b, isN_t, isN_l, isN_s, at_0, at_1, at_2, at_3, at_m1, at_nat, szl0, szl1, szl2, szl3, szl4, szl5, szl6, szl7, szl8, szl9, szl10, szl11, szl12, szl13, szl14, szl15, szl16, szk0, szk1, szk2, szk3, szk4, szk5, szk6, szk7, szk8, sl_d, sl_s,
  List.getElem?_cons_zero, List.getElem?_cons_succ, List.getElem?_map, List.set_cons_zero, List.set_cons_succ, List.map_cons, List.map_nil, List.length_map, List.replicate_succ, List.replicate_zero, List.cons_append, List.nil_append, List.length_cons, List.length_nil, List.isEmpty_nil, List.isEmpty_cons, Nat.reduceAdd, Nat.reduceSub, Int.cast_ofNat_Int, Int.reduceNe, Int.reduceEq, Nat.sub_zero, Nat.sub_self,
  decide_eq_true_eq, decide_eq_false_iff_not, Bool.not_eq_true', Bool.not_eq_false', Bool.not_true, Bool.not_false, Bool.true_eq_false, Bool.false_eq_true, true_and, and_true, forall_const, false_imp_iff, true_imp_iff, imp_self, forall_false, implies_true, not_true_eq_false, not_false_eq_true, true_implies, false_implies, eq_self_iff_true, reduceCtorEq])
theorem o_neLN {K : D → Prop} (st : List Nat) : OP (neD (lN st) (.list [])) K = K (.bool (!st.isEmpty)) := by
  rw [o_neNil (ok_lN _), lN_empty]
theorem o_eqLN {K : D → Prop} (st : List Nat) : OP (eqD (lN st) (.list [])) K = K (.bool st.isEmpty) := by
  rw [o_eqNil (ok_lN _), lN_empty]
theorem J_bars {rows : List (List Int)} {n : Nat} (h : Tb rows n) (row : List Int) (hl : row.length = rows.length) (hr : ∀ x ∈ row, 0 ≤ x ∧ x < n) {c0 c1 : Int} (h0 : sml c0) (h1 : sml c1) (s : Src) :
    f_judge_share [.d (tbD rows), .d (pI (c0, c1)), .d (.tuple [.str "bars", tI' row])] s = some ((match (off rows n row c0 c1).head? with | none => .none | some i => .tuple [.str "within", .int (i : Nat)]), s) := by
  have h3 := h.len
  refine ca_eq ?_
  unfold f_judge_share d_judge_share
  walk_at "wp"
  rw [o_bw]
  walk_at "wp"
  rw [o_nbb]
  walk_at "wp"
  refine ca_of (E_is_case h row hl (fun x hx => (hr x hx).1) s) ?_
  have e1 : (row.all fun x => decide (x < (n : Int))) = true := by
    rw [List.all_eq_true]
    intro x hx
    exact decide_eq_true (hr x hx).2
  rw [e1]
  walk_at "wp"
  refine wp_comp (List.range row.length) (fun (k : Nat) => PyData.tuple [.int k, .int (row.getD k 0)]) (fun k => !(ca rows n k c0 c1).contains (row.getD k 0).toNat) (fun (k : Nat) => PyData.int (k : Int)) (s := s) ?_ ?_ ?_ ?_
  · walk_at "wp"
    rw [enumL_ints]
  · intro k hk
    have hk' : k < rows.length := by rw [← hl]; exact List.mem_range.mp hk
    have hx := hr (row.getD k 0) (by rw [List.getD_eq_getElem?_getD, List.getElem?_eq_getElem (by omega)]; exact List.getElem_mem _)
    simp only [wipeE]
    walk_at "wp"
    refine ca_of (E_cases_above h hk' h0 h1 s) ?_
    try walk_at "wp"
    obtain ⟨j, hj⟩ : ∃ j : Nat, row.getD k 0 = (j : Int) := ⟨_, (Int.toNat_of_nonneg hx.1).symm⟩
    rw [hj, o_notinN]
    walk_at "wp"
    simp
  · simp; omega
  · have e2 : ((List.range row.length).filter fun k => !(ca rows n k c0 c1).contains (row.getD k 0).toNat) = off rows n row c0 c1 := by rw [hl]; rfl
    rw [e2]
    walk_at "wp"
    rw [o_neLN]
    cases ho : off rows n row c0 c1 with
    | nil =>
      walk_at "wp"
      try simp
    | cons a r =>
      walk_at "wp"
      try simp
theorem J_nobars {rows : List (List Int)} {n : Nat} {v : D} {c : Int × Int} (s : Src) (hv : f_is_case_row [.d (tbD rows), .d v] s = some (.bool false, s)) :
    f_judge_share [.d (tbD rows), .d (pI c), .d (.tuple [.str "bars", v])] s = some (.tuple [.str "form"], s) := by
  refine ca_eq ?_
  unfold f_judge_share d_judge_share
  walk_at "wp"
  rw [o_bw]
  walk_at "wp"
  rw [o_nbb]
  walk_at "wp"
  refine ca_of hv ?_
  walk_at "wp"
theorem J_noway {rows : List (List Int)} {n : Nat} {v : D} {c : Int × Int} (s : Src) (hv : f_is_cost [.d v] s = some (.bool false, s) ∨ ∃ k : Int, v = .int k ∧ 0 ≤ k ∧ rows.length ≤ k) :
    f_judge_share [.d (tbD rows), .d (pI c), .d (.tuple [.str "way", v])] s = some (.tuple [.str "form"], s) := by
  refine ca_eq ?_
  unfold f_judge_share d_judge_share
  walk_at "wp"
  rw [o_ww]
  walk_at "wp"
  rcases hv with hv | ⟨k, rfl, k0, k1⟩
  · refine ca_of hv ?_
    walk_at "wp"
    rw [o_nwb]
    walk_at "wp"
  · refine ca_of (E_is_cost k k0 s) ?_
    walk_at "wp"
    refine ⟨fun z => by omega, fun _ => ?_⟩
    rw [o_nwb]
    walk_at "wp"
/-- what is no paper -/
def badL (m n : Nat) : List D := [.tuple [.str "way", .int (m : Nat)], .tuple [.str "way", .bool true], .tuple [.str "bars", .tuple (List.replicate (m + 1) (.int 0))], .tuple [.str "bars", .list (List.replicate m (.int 0))], .tuple [.str "way", .int 0, .int 0], .none, .tuple [.str "bars", .tuple (List.replicate m (.int (n : Nat)))]]
theorem J_bad {rows : List (List Int)} {n : Nat} (h : Tb rows n) (c : Int × Int) (s : Src) : ∀ v ∈ badL rows.length n, f_judge_share [.d (tbD rows), .d (pI c), .d v] s = some (.tuple [.str "form"], s) := by
  have hpos : 0 < rows.length := List.length_pos_iff.mpr h.ne
  intro v hv
  simp only [badL, List.mem_cons, List.not_mem_nil, or_false] at hv
  rcases hv with rfl | rfl | rfl | rfl | rfl | rfl | rfl
  · exact J_noway (n := n) s (.inr ⟨_, rfl, by omega, by omega⟩)
  · refine J_noway (n := n) s (.inl (ca_eq ?_))
    unfold f_is_cost d_is_cost
    walk_at "wp"
  · refine J_nobars (n := n) s (ca_eq ?_)
    unfold f_is_case_row d_is_case_row
    walk_at "wp"
    simp
    omega
  · refine J_nobars (n := n) s (ca_eq ?_)
    unfold f_is_case_row d_is_case_row
    walk_at "wp"
  · refine ca_eq ?_
    unfold f_judge_share d_judge_share
    walk_at "wp"
  · refine ca_eq ?_
    unfold f_judge_share d_judge_share
    walk_at "wp"
  · refine J_nobars (n := n) s ?_
    have e := E_is_case h (List.replicate rows.length (n : Int)) (by simp) (fun x hx => by rw [List.eq_of_mem_replicate hx]; omega) s
    have e2 : (List.replicate rows.length (n : Int)).map PyData.int = List.replicate rows.length (PyData.int (n : Nat)) := by simp
    have e3 : ((List.replicate rows.length (n : Int)).all fun x => decide (x < (n : Int))) = false := by
      rw [List.all_eq_false]
      exact ⟨(n : Int), List.mem_replicate.mpr ⟨by omega, rfl⟩, by simp⟩
    rw [e3] at e
    unfold tI' at e
    rw [e2] at e
    exact e
/-- the first of some numbers -/
theorem range_find (p : Nat → Bool) (m : Nat) : (List.range m).findIdx? p = ((List.range m).filter p).head? := by
  rw [List.head?_filter]
  induction m with
  | zero => rfl
  | succ m ih =>
    rw [List.range_succ, List.findIdx?_append, List.find?_append, ih, List.length_range]
    congr 1
    cases hp : p m <;> simp [List.findIdx?_cons, hp]
def paper (rows : List (List Int)) (n : Nat) (c0 c1 : Int) : D := match ((List.range rows.length).filter fun k => (ca rows n k c0 c1).isEmpty).head? with
  | some k => .tuple [.str "way", .int (k : Nat)]
  | none => .tuple [.str "bars", .tuple ((List.range rows.length).map fun k => oN (hd rows n k c0 c1))]
theorem E_paper {rows : List (List Int)} {n : Nat} (h : Tb rows n) {c0 c1 : Int} (h0 : sml c0) (h1 : sml c1) (s : Src) : f_share_paper [.d (tbD rows), .d (pI (c0, c1))] s = some (paper rows n c0 c1, s) := by
  have h3 := h.len
  refine ca_eq ?_
  unfold f_share_paper d_share_paper
  walk_at "wp"
  refine wp_compA (List.range rows.length) (fun (k : Nat) => PyData.int (k : Int)) (fun k => lN (ca rows n k c0 c1)) (s := s) ?_ ?_ ?_ ?_
  · walk_at "wp"
    rw [ir_natD]
    refine ⟨by omega, rfl⟩
  · intro k hk
    simp only [wipeE]
    walk_at "wp"
    refine ca_of (E_cases_above h (List.mem_range.mp hk) h0 h1 s) ?_
    simp only [and_self]
  · simp; omega
  · walk_at "wp"
    refine wp_fzEnum rfl ?_
    simp only [List.set_cons_zero, List.set_cons_succ]
    refine wp_comp (List.range rows.length) (fun (k : Nat) => PyData.tuple [.int k, lN (ca rows n k c0 c1)]) (fun k => (ca rows n k c0 c1).isEmpty) (fun (k : Nat) => PyData.int (k : Int)) (s := s) ?_ ?_ ?_ ?_
    · refine wp_enum ?_
      walk_at "wp"
      refine ⟨_, rfl, ?_⟩
      rw [enumL_map _ _ 0, List.length_range]
      refine List.map_congr_left fun k hk => ?_
      have hk' := List.mem_range.mp hk
      rw [List.getD_eq_getElem?_getD, List.getElem?_range hk']
      rfl
    · intro k hk
      simp only [wipeE]
      walk_at "wp"
      rw [o_eqLN]
      walk_at "wp"
      try simp
    · simp; omega
    · walk_at "wp"
      rw [o_neLN]
      unfold paper
      cases ho : (List.range rows.length).filter fun k => (ca rows n k c0 c1).isEmpty with
      | cons a r =>
        walk_at "wp"
        simp
      | nil =>
        walk_at "wp"
        have all : ∀ k, k < rows.length → ∃ i, hd rows n k c0 c1 = some i := fun k hk => by
          have := List.filter_eq_nil_iff.mp ho k (List.mem_range.mpr hk)
          cases hh : hd rows n k c0 c1 with
          | none =>
            rw [hd_none.mp hh] at this
            simp at this
          | some i => exact ⟨i, rfl⟩
        try simp only [List.isEmpty_nil]
        try walk_at "wp"
        refine wp_compA (List.range rows.length) (fun k => lN (ca rows n k c0 c1)) (fun k => oN (hd rows n k c0 c1)) (s := s) ?_ ?_ ?_ ?_
        · walk_at "wp"
        · intro k hk
          obtain ⟨i, hi⟩ := all k (List.mem_range.mp hk)
          simp only [wipeE]
          walk_at "wp"
          unfold hd at hi
          rw [List.head?_eq_getElem?] at hi
          rw [hi]
          walk_at "wp"
          unfold hd
          rw [List.head?_eq_getElem?, hi]
          simp [oN]
        · simp; omega
        · walk_at "wp"
          simp
end K48

-- part K48t
set_option Elab.async false
set_option linter.all false
set_option maxRecDepth 100000
set_option maxHeartbeats 2000000
namespace K48
open PySem PySem.Spec PyProof.Rows L2 RZ DL
local macro_rules | `(tactic| walk_at "wp") => `(tactic| simp only [↓ca_def, ↓wp_seq, ↓wp_asg, ↓wp_asgN, ↓wp_retS, ↓wp_dropS, ↓wp_ifS, ↓wp_unpS, ↓wp_par2, ↓wp_parO, ↓wp_appS, ↓wp_forS, ↓wp_forNil, ↓wp_seqI, ↓wp_ret, ↓wp_cD, ↓wp_vD, ↓wp_op2, ↓wp_op1, ↓wp_callN, ↓wp_toB, ↓wp_andT, ↓wp_orT, ↓wp_notT, ↓wp_andV, ↓wp_orV, ↓wp_notV, ↓wp_ifD, ↓wp_chn, ↓wp_consL, ↓wp_consA, ↓wp_srcA, ↓wp_callD, ↓wp_tupD, ↓wp_lstD, ↓wp_someI, ↓wp_sliceD, ↓wp_rngD, ↓wp_rgM1, ↓wp_rgM2, ↓wp_range1, ↓wp_enumA,
  ↓sq_nx, ↓sq_rt, ↓sq_bk, ↓sq_ct, ↓rt_rt, ↓rt_nx, ↓lo_nx, ↓lo_ct, ↓lo_bk, ↓lo_rt, ↓vq_fz, ↓vq_own, ↓oq_own, ↓sr_src, ↓tb_b, ↓ls_l, ↓iq_i, ↓l2_2, ↓il1_, ↓il2_, ↓op_some, ↓op_map,
  ↓o_addI, ↓o_addT, ↓o_addBI, ↓o_addBT, ↓o_addBL, ↓o_mulBI, ↓o_mulBL, ↓o_sub, ↓o_mul, ↓o_div, ↓o_mod, ↓o_pow, ↓o_lt, ↓o_le, ↓o_gt, ↓o_ge, ↓o_neg, ↓o_eqI, ↓o_neI, ↓o_neB, ↓o_isN, ↓o_notIsN, ↓o_isT, ↓o_notIsT, ↓o_ixT, ↓o_ixL, ↓o_len_l, ↓o_len_t, ↓o_abs, ↓o_max2, ↓o_min2, ↓o_int, ↓o_tup_l, ↓o_tup_t, ↓o_lst_l, ↓o_lst_t, ↓o_items_l, ↓o_items_t, ↓i_tt, ↓i_tl, ↓i_tn, ↓i_ti, ↓i_ss, ↓i_ii, ↓i_bi, ↓i_ib, ↓i_bb, ↓o_bnm, ↓o_btp, ↓o_bnil, ↓o_bcons,
  isN_n, isN_i, isN_b, isN_t, isN_l, isN_s, at_0, at_1, at_2, at_3, at_m1, at_nat, szl0, szl1, szl2, szl3, szl4, szl5, szl6, szl7, szl8, szl9, szl10, szl11, szl12, szl13, szl14, szl15, szl16, szk0, szk1, szk2, szk3, szk4, szk5, szk6, szk7, szk8, sl_d, sl_s,
  List.getElem?_cons_zero, List.getElem?_cons_succ, List.getElem?_map, List.set_cons_zero, List.set_cons_succ, List.map_cons, List.map_nil, List.length_map, List.replicate_succ, List.replicate_zero, List.cons_append, List.nil_append, List.length_cons, List.length_nil, List.isEmpty_nil, List.isEmpty_cons, Nat.reduceAdd, Nat.reduceSub, Int.cast_ofNat_Int, Int.reduceNe, Int.reduceEq, Nat.sub_zero, Nat.sub_self,
  decide_eq_true_eq, decide_eq_false_iff_not, Bool.not_eq_true', Bool.not_eq_false', Bool.not_true, Bool.not_false, Bool.true_eq_false, Bool.false_eq_true, true_and, and_true, forall_const, false_imp_iff, true_imp_iff, imp_self, forall_false, implies_true, not_true_eq_false, not_false_eq_true, true_implies, false_implies, eq_self_iff_true, reduceCtorEq])
local macro_rules | `(tactic| walk_at "wu") => `(tactic| simp only [↓ca_def, ↓wp_seq, ↓wp_asg, ↓wp_asgN, ↓wp_retS, ↓wp_dropS, ↓wp_ifS, ↓wp_unpS, ↓wp_par2, ↓wp_parO, ↓wp_appS, ↓wp_forS, ↓wp_forNil, ↓wp_forCons, ↓wp_seqI, ↓wp_ret, ↓wp_cD, ↓wp_vD, ↓wp_op2, ↓wp_op1, ↓wp_callN, ↓wp_toB, ↓wp_andT, ↓wp_orT, ↓wp_notT, ↓wp_andV, ↓wp_orV, ↓wp_notV, ↓wp_ifD, ↓wp_chn, ↓wp_consL, ↓wp_consA, ↓wp_srcA, ↓wp_callD, ↓wp_tupD, ↓wp_lstD, ↓wp_someI, ↓wp_sliceD, ↓wp_rngD, ↓wp_rgM1, ↓wp_rgM2, ↓wp_range1, ↓wp_enumA,
  ↓sq_nx, ↓sq_rt, ↓sq_bk, ↓sq_ct, ↓rt_rt, ↓rt_nx, ↓lo_nx, ↓lo_ct, ↓lo_bk, ↓lo_rt, ↓vq_fz, ↓vq_own, ↓oq_own, ↓sr_src, ↓tb_b, ↓ls_l, ↓iq_i, ↓l2_2, ↓il1_, ↓il2_, ↓op_some, ↓op_map,
  ↓o_addI, ↓o_addT, ↓o_addBI, ↓o_addBT, ↓o_addBL, ↓o_mulBI, ↓o_mulBL, ↓o_sub, ↓o_mul, ↓o_div, ↓o_mod, ↓o_pow, ↓o_lt, ↓o_le, ↓o_gt, ↓o_ge, ↓o_neg, ↓o_eqI, ↓o_neI, ↓o_neB, ↓o_isN, ↓o_notIsN, ↓o_isT, ↓o_notIsT, ↓o_ixT, ↓o_ixL, ↓o_len_l, ↓o_len_t, ↓o_abs, ↓o_max2, ↓o_min2, ↓o_int, ↓o_tup_l, ↓o_tup_t, ↓o_lst_l, ↓o_lst_t, ↓o_items_l, ↓o_items_t, ↓i_tt, ↓i_tl, ↓i_tn, ↓i_ti, ↓i_ss, ↓i_ii, ↓i_bi, ↓i_ib, ↓i_bb, ↓o_bnm, ↓o_btp, ↓o_bnil, ↓o_bcons,
  isN_n, isN_i, isN_b, isN_t, isN_l, isN_s, at_0, at_1, at_2, at_3, at_m1, at_nat, szl0, szl1, szl2, szl3, szl4, szl5, szl6, szl7, szl8, szl9, szl10, szl11, szl12, szl13, szl14, szl15, szl16, szk0, szk1, szk2, szk3, szk4, szk5, szk6, szk7, szk8, sl_d, sl_s,
  List.getElem?_cons_zero, List.getElem?_cons_succ, List.getElem?_map, List.set_cons_zero, List.set_cons_succ, List.map_cons, List.map_nil, List.length_map, List.replicate_succ, List.replicate_zero, List.cons_append, List.nil_append, List.length_cons, List.length_nil, List.isEmpty_nil, List.isEmpty_cons, Nat.reduceAdd, Nat.reduceSub, Int.cast_ofNat_Int, Int.reduceNe, Int.reduceEq, Nat.sub_zero, Nat.sub_self,
  decide_eq_true_eq, decide_eq_false_iff_not, Bool.not_eq_true', Bool.not_eq_false', Bool.not_true, Bool.not_false, Bool.true_eq_false, Bool.false_eq_true, true_and, and_true, forall_const, false_imp_iff, true_imp_iff, imp_self, forall_false, implies_true, not_true_eq_false, not_false_eq_true, true_implies, false_implies, eq_self_iff_true, reduceCtorEq])
local macro_rules | `(tactic| walk_at "wi") => `(tactic| simp only [↓ca_def, ↓wp_seq, ↓wp_asg, ↓wp_asgN, ↓wp_retS, ↓wp_dropS, ↓wp_unpS, ↓wp_par2, ↓wp_parO, ↓wp_appS, ↓wp_forS, ↓wp_forNil, ↓wp_seqI, ↓wp_ret, ↓wp_cD, ↓wp_vD, ↓wp_op2, ↓wp_op1, ↓wp_callN, ↓wp_toB, ↓wp_andT, ↓wp_orT, ↓wp_notT, ↓wp_andV, ↓wp_orV, ↓wp_notV, ↓wp_ifD, ↓wp_chn, ↓wp_consL, ↓wp_consA, ↓wp_srcA, ↓wp_callD, ↓wp_tupD, ↓wp_lstD, ↓wp_someI, ↓wp_sliceD, ↓wp_rngD, ↓wp_rgM1, ↓wp_rgM2, ↓wp_range1, ↓wp_enumA,
  ↓sq_nx, ↓sq_rt, ↓sq_bk, ↓sq_ct, ↓rt_rt, ↓rt_nx, ↓lo_nx, ↓lo_ct, ↓lo_bk, ↓lo_rt, ↓vq_fz, ↓vq_own, ↓oq_own, ↓sr_src, ↓tb_b, ↓ls_l, ↓iq_i, ↓l2_2, ↓il1_, ↓il2_, ↓op_some, ↓op_map,
  ↓o_addI, ↓o_addT, ↓o_addBI, ↓o_addBT, ↓o_addBL, ↓o_mulBI, ↓o_mulBL, ↓o_sub, ↓o_mul, ↓o_div, ↓o_mod, ↓o_pow, ↓o_lt, ↓o_le, ↓o_gt, ↓o_ge, ↓o_neg, ↓o_eqI, ↓o_neI, ↓o_neB, ↓o_isN, ↓o_notIsN, ↓o_isT, ↓o_notIsT, ↓o_ixT, ↓o_ixL, ↓o_len_l, ↓o_len_t, ↓o_abs, ↓o_max2, ↓o_min2, ↓o_int, ↓o_tup_l, ↓o_tup_t, ↓o_lst_l, ↓o_lst_t, ↓o_items_l, ↓o_items_t, ↓i_tt, ↓i_tl, ↓i_tn, ↓i_ti, ↓i_ss, ↓i_ii, ↓i_bi, ↓i_ib, ↓i_bb, ↓o_bnm, ↓o_btp, ↓o_bnil, ↓o_bcons,
  isN_n, isN_i, isN_b, isN_t, isN_l, isN_s, at_0, at_1, at_2, at_3, at_m1, at_nat, szl0, szl1, szl2, szl3, szl4, szl5, szl6, szl7, szl8, szl9, szl10, szl11, szl12, szl13, szl14, szl15, szl16, szk0, szk1, szk2, szk3, szk4, szk5, szk6, szk7, szk8, sl_d, sl_s,
  List.getElem?_cons_zero, List.getElem?_cons_succ, List.getElem?_map, List.set_cons_zero, List.set_cons_succ, List.map_cons, List.map_nil, List.length_map, List.replicate_succ, List.replicate_zero, List.cons_append, List.nil_append, List.length_cons, List.length_nil, List.isEmpty_nil, List.isEmpty_cons, Nat.reduceAdd, Nat.reduceSub, Int.cast_ofNat_Int, Int.reduceNe, Int.reduceEq, Nat.sub_zero, Nat.sub_self,
  decide_eq_true_eq, decide_eq_false_iff_not, Bool.not_eq_true', Bool.not_eq_false', Bool.not_true, Bool.not_false, Bool.true_eq_false, Bool.false_eq_true, true_and, and_true, forall_const, false_imp_iff, true_imp_iff, imp_self, forall_false, implies_true, not_true_eq_false, not_false_eq_true, true_implies, false_implies, eq_self_iff_true, reduceCtorEq])
local macro_rules | `(tactic| walk_at "wa") => `(tactic| simp only [↓ca_def, ↓wp_seq, ↓wp_asgN, ↓wp_retS, ↓wp_dropS, ↓wp_unpS, ↓wp_par2, ↓wp_parO, ↓wp_appS, ↓wp_forS, ↓wp_forNil, ↓wp_seqI, ↓wp_ret, ↓wp_cD, ↓wp_vD, ↓wp_op2, ↓wp_op1, ↓wp_callN, ↓wp_toB, ↓wp_andT, ↓wp_orT, ↓wp_notT, ↓wp_andV, ↓wp_orV, ↓wp_notV, ↓wp_ifD, ↓wp_chn, ↓wp_consL, ↓wp_consA, ↓wp_srcA, ↓wp_callD, ↓wp_tupD, ↓wp_lstD, ↓wp_someI, ↓wp_sliceD, ↓wp_rngD, ↓wp_rgM1, ↓wp_rgM2, ↓wp_range1, ↓wp_enumA,
  ↓sq_nx, ↓sq_rt, ↓sq_bk, ↓sq_ct, ↓rt_rt, ↓rt_nx, ↓lo_nx, ↓lo_ct, ↓lo_bk, ↓lo_rt, ↓vq_fz, ↓vq_own, ↓oq_own, ↓sr_src, ↓tb_b, ↓ls_l, ↓iq_i, ↓l2_2, ↓il1_, ↓il2_, ↓op_some, ↓op_map,
  ↓o_addI, ↓o_addT, ↓o_addBI, ↓o_addBT, ↓o_addBL, ↓o_mulBI, ↓o_mulBL, ↓o_sub, ↓o_mul, ↓o_div, ↓o_mod, ↓o_pow, ↓o_lt, ↓o_le, ↓o_gt, ↓o_ge, ↓o_neg, ↓o_eqI, ↓o_neI, ↓o_neB, ↓o_isN, ↓o_notIsN, ↓o_isT, ↓o_notIsT, ↓o_ixT, ↓o_ixL, ↓o_len_l, ↓o_len_t, ↓o_abs, ↓o_max2, ↓o_min2, ↓o_int, ↓o_tup_l, ↓o_tup_t, ↓o_lst_l, ↓o_lst_t, ↓o_items_l, ↓o_items_t, ↓i_tt, ↓i_tl, ↓i_tn, ↓i_ti, ↓i_ss, ↓i_ii, ↓i_bi, ↓i_ib, ↓i_bb, ↓o_bnm, ↓o_btp, ↓o_bnil, ↓o_bcons,
  isN_n, isN_i, isN_b, isN_t, isN_l, isN_s, at_0, at_1, at_2, at_3, at_m1, at_nat, szl0, szl1, szl2, szl3, szl4, szl5, szl6, szl7, szl8, szl9, szl10, szl11, szl12, szl13, szl14, szl15, szl16, szk0, szk1, szk2, szk3, szk4, szk5, szk6, szk7, szk8, sl_d, sl_s,
  List.getElem?_cons_zero, List.getElem?_cons_succ, List.getElem?_map, List.set_cons_zero, List.set_cons_succ, List.map_cons, List.map_nil, List.length_map, List.replicate_succ, List.replicate_zero, List.cons_append, List.nil_append, List.length_cons, List.length_nil, List.isEmpty_nil, List.isEmpty_cons, Nat.reduceAdd, Nat.reduceSub, Int.cast_ofNat_Int, Int.reduceNe, Int.reduceEq, Nat.sub_zero, Nat.sub_self,
  decide_eq_true_eq, decide_eq_false_iff_not, Bool.not_eq_true', Bool.not_eq_false', Bool.not_true, Bool.not_false, Bool.true_eq_false, Bool.false_eq_true, true_and, and_true, forall_const, false_imp_iff, true_imp_iff, imp_self, forall_false, implies_true, not_true_eq_false, not_false_eq_true, true_implies, false_implies, eq_self_iff_true, reduceCtorEq])
local macro_rules | `(tactic| walk_at "wd") => `(tactic| simp only [↓ca_def, ↓wp_seq, ↓wp_asg, ↓wp_asgN, ↓wp_retS, ↓wp_dropS, ↓wp_ifS, ↓wp_unpS, ↓wp_par2, ↓wp_parO, ↓wp_appS, ↓wp_forS, ↓wp_forNil, ↓wp_seqI, ↓wp_ret, ↓wp_cD, ↓wp_vD, ↓wp_op2, ↓wp_op1, ↓wp_callN, ↓wp_toB, ↓wp_andT, ↓wp_orT, ↓wp_notT, ↓wp_andV, ↓wp_orV, ↓wp_notV, ↓wp_chn, ↓wp_consL, ↓wp_consA, ↓wp_srcA, ↓wp_callD, ↓wp_tupD, ↓wp_lstD, ↓wp_someI, ↓wp_sliceD, ↓wp_rngD, ↓wp_rgM1, ↓wp_rgM2, ↓wp_range1, ↓wp_enumA,
  ↓sq_nx, ↓sq_rt, ↓sq_bk, ↓sq_ct, ↓rt_rt, ↓rt_nx, ↓lo_nx, ↓lo_ct, ↓lo_bk, ↓lo_rt, ↓vq_fz, ↓vq_own, ↓oq_own, ↓sr_src, ↓tb_b, ↓ls_l, ↓iq_i, ↓l2_2, ↓il1_, ↓il2_, ↓op_some, ↓op_map,
  ↓o_addI, ↓o_addT, ↓o_addBI, ↓o_addBT, ↓o_addBL, ↓o_mulBI, ↓o_mulBL, ↓o_sub, ↓o_mul, ↓o_div, ↓o_mod, ↓o_pow, ↓o_lt, ↓o_le, ↓o_gt, ↓o_ge, ↓o_neg, ↓o_eqI, ↓o_neI, ↓o_neB, ↓o_isN, ↓o_notIsN, ↓o_isT, ↓o_notIsT, ↓o_ixT, ↓o_ixL, ↓o_len_l, ↓o_len_t, ↓o_abs, ↓o_max2, ↓o_min2, ↓o_int, ↓o_tup_l, ↓o_tup_t, ↓o_lst_l, ↓o_lst_t, ↓o_items_l, ↓o_items_t, ↓i_tt, ↓i_tl, ↓i_tn, ↓i_ti, ↓i_ss, ↓i_ii, ↓i_bi, ↓i_ib, ↓i_bb, ↓o_bnm, ↓o_btp, ↓o_bnil, ↓o_bcons,
  isN_n, isN_i, isN_b, isN_t, isN_l, isN_s, at_0, at_1, at_2, at_3, at_m1, at_nat, szl0, szl1, szl2, szl3, szl4, szl5, szl6, szl7, szl8, szl9, szl10, szl11, szl12, szl13, szl14, szl15, szl16, szk0, szk1, szk2, szk3, szk4, szk5, szk6, szk7, szk8, sl_d, sl_s,
  List.getElem?_cons_zero, List.getElem?_cons_succ, List.getElem?_map, List.set_cons_zero, List.set_cons_succ, List.map_cons, List.map_nil, List.length_map, List.replicate_succ, List.replicate_zero, List.cons_append, List.nil_append, List.length_cons, List.length_nil, List.isEmpty_nil, List.isEmpty_cons, Nat.reduceAdd, Nat.reduceSub, Int.cast_ofNat_Int, Int.reduceNe, Int.reduceEq, Nat.sub_zero, Nat.sub_self,
  decide_eq_true_eq, decide_eq_false_iff_not, Bool.not_eq_true', Bool.not_eq_false', Bool.not_true, Bool.not_false, Bool.true_eq_false, Bool.false_eq_true, true_and, and_true, forall_const, false_imp_iff, true_imp_iff, imp_self, forall_false, implies_true, not_true_eq_false, not_false_eq_true, true_implies, false_implies, eq_self_iff_true, reduceCtorEq])
theorem lcs_get {rows : List (List Int)} {n i : Nat} (hi : i < n) : (lcs rows n)[i]? = some (le' rows i) := by
  rw [getk 0 (by rw [lcs_len]; exact hi), lcs_le hi]
theorem E_law_bars {rows : List (List Int)} {n k : Nat} (h : Tb rows n) (hk : k < rows.length) {c0 c1 : Int} (h0 : sml c0) (h1 : sml c1) (s : Src) :
    f__law_bars [.d (tbD rows), .d (tI' (lcs rows n)), .d (pI (c0, c1)), .d (.int (k : Nat))] s = some (oN (hd rows n k c0 c1), s) := by
  have h2 := h.n2
  have hl := row_len h hk
  refine ca_eq ?_
  unfold f__law_bars d__law_bars
  walk_at "wp"
  refine wp_comp (List.range n) (fun (i : Nat) => PyData.tuple [.int i, .int (en rows k i)]) (fun i => decide (le' rows i * c0 < en rows k i * c1)) (fun (i : Nat) => PyData.int (i : Int)) (s := s) ?_ ?_ ?_ ?_
  · walk_at "wp"
    rw [getk [] hk]
    walk_at "wp"
    rw [enumL_ints, hl]
    rfl
  · intro i hi
    have hi' := List.mem_range.mp hi
    simp only [wipeE]
    walk_at "wp"
    refine ⟨.inr (by unfold sml at h1; omega), ?_⟩
    rw [lcs_get hi']
    walk_at "wp"
    refine ⟨sml_mul h0, ?_⟩
    rw [Int.mul_comm c0]
  · simp; omega
  · walk_at "wp"
    rw [show ((List.range n).filter fun i => decide (le' rows i * c0 < en rows k i * c1)) = ca rows n k c0 c1 from rfl, o_neLN]
    unfold hd
    cases hc : ca rows n k c0 c1 with
    | nil =>
      walk_at "wp"
      simp [oN]
    | cons a r =>
      walk_at "wp"
      simp [oN]
theorem E_law_table (s : Src) : CA f__law_table [.src] s fun d _ => ∃ rows n, d = tbD rows ∧ Tb rows n ∧ rows.length ≤ 40 ∧ n ≤ 60 := by
  unfold f__law_table d__law_table
  walk_at "wp"
  refine (C_pick (by decide) _).imp ?_
  rintro _ s1 ⟨k1, rfl, k10, k11⟩
  walk_at "wp"
  refine (C_pick (by decide) _).imp ?_
  rintro _ s2 ⟨k2, rfl, k20, k21⟩
  walk_at "wp"
  refine ⟨by decide, (C_of (by simp) (by simp) _).imp ?_⟩
  intro d0 s3 hd0
  obtain ⟨z, rfl, z1, z2⟩ : ∃ z : Int, d0 = .int z ∧ 4 ≤ z ∧ z ≤ 1000000000 := by
    simp only [List.mem_cons, List.not_mem_nil, or_false] at hd0
    rcases hd0 with rfl | rfl | rfl
    · exact ⟨_, rfl, by decide, by decide⟩
    · exact ⟨_, rfl, by decide, by decide⟩
    · exact ⟨_, rfl, by decide, by decide⟩
  clear hd0
  obtain ⟨m, hm⟩ : ∃ m : Nat, 1 + k1 = (m : Int) := ⟨(1 + k1).toNat, by omega⟩
  obtain ⟨n, hn⟩ : ∃ n : Nat, 1 + k2 = (n : Int) := ⟨(1 + k2).toNat, by omega⟩
  rw [hm, hn]
  walk_at "wp"
  refine ⟨by omega, ?_⟩
  rw [ir_natD]
  refine wp_forN _ (fun i S => ∃ rows s' j5, S = ⟨[.src, .fz (.int m), .fz (.int n), .fz (.int z), .own (rows.map tI'), j5, .un], s'⟩ ∧ rows.length = i ∧ (∀ r ∈ rows, r.length = n ∧ ∀ x ∈ r, 0 ≤ x ∧ x < 2 ^ 30)) m ⟨[], _, _, rfl, rfl, fun r hr => by cases hr⟩ ?_ ?_
  · rintro i S hi ⟨rows, s4, j5, rfl, hl, hr⟩
    walk_at "wp"
    refine wp_compS (ir 0 (n : Int)) PyData.int (fun pre ys _ => ∃ row : List Int, ys = row.map PyData.int ∧ row.length = pre.length ∧ ∀ x ∈ row, 0 ≤ x ∧ x < 2 ^ 30) (s := s4) ?_ ⟨[], rfl, rfl, fun _ h => by cases h⟩ ?_ ?_ ?_
    · walk_at "wp"
      omega
    · rintro pre x post ys s5 hx ⟨row, rfl, rl, rr⟩
      simp only [wipeE]
      walk_at "wp"
      refine (C_pick (by decide) _).imp ?_
      rintro _ s6 ⟨k3, rfl, k30, k31⟩
      walk_at "wp"
      refine ⟨fun _ => ?_, fun _ => ?_⟩
      · refine (C_pick (by omega) _).imp ?_
        rintro _ s7 ⟨k4, rfl, k40, k41⟩
        walk_at "wp"
        refine ⟨row ++ [1 + k4], by simp, by simp [rl], fun x hx => ?_⟩
        rcases List.mem_append.mp hx with hx | hx
        · exact rr x hx
        · rw [List.mem_singleton.mp hx]
          omega
      · refine (C_pick (by decide) _).imp ?_
        rintro _ s7 ⟨k4, rfl, k40, k41⟩
        walk_at "wp"
        refine ⟨row ++ [k4], by simp, by simp [rl], fun x hx => ?_⟩
        rcases List.mem_append.mp hx with hx | hx
        · exact rr x hx
        · rw [List.mem_singleton.mp hx]
          omega
    · rw [ir_len]; omega
    · rintro ys s5 ⟨row, rfl, rl, rr⟩
      walk_at "wp"
      refine ⟨sz_lt (by omega), rows ++ [row], s5, .fz (.int (i : Nat)), by simp, by simp [hl], fun r hr' => ?_⟩
      rcases List.mem_append.mp hr' with hr' | hr'
      · exact hr r hr'
      · rw [List.mem_singleton.mp hr']
        refine ⟨?_, rr⟩
        rw [rl, ir_len]
        omega
  · rintro S ⟨rows, s4, j5, rfl, hl, hr⟩
    walk_at "wp"
    refine ⟨rows, n, rfl, ⟨fun e => ?_, by omega, fun r hr' => (hr r hr').1, by omega, by omega, fun r hr' => (hr r hr').2⟩, by omega, by omega⟩
    rw [e] at hl
    simp at hl
    omega
end K48

-- part K48u
set_option Elab.async false
set_option linter.all false
set_option maxRecDepth 100000
set_option maxHeartbeats 2000000
namespace K48
open PySem PySem.Spec PyProof.Rows L2 RZ DL
local macro_rules | `(tactic| walk_at "wp") => `(tactic| simp only [↓ca_def, ↓wp_seq, ↓wp_asg, ↓wp_asgN, ↓wp_retS, ↓wp_dropS, ↓wp_ifS, ↓wp_unpS, ↓wp_par2, ↓wp_parO, ↓wp_appS, ↓wp_forS, ↓wp_forNil, ↓wp_seqI, ↓wp_ret, ↓wp_cD, ↓wp_vD, ↓wp_op2, ↓wp_op1, ↓wp_callN, ↓wp_toB, ↓wp_andT, ↓wp_orT, ↓wp_notT, ↓wp_andV, ↓wp_orV, ↓wp_notV, ↓wp_ifD, ↓wp_chn, ↓wp_consL, ↓wp_consA, ↓wp_srcA, ↓wp_callD, ↓wp_tupD, ↓wp_lstD, ↓wp_someI, ↓wp_sliceD, ↓wp_rngD, ↓wp_rgM1, ↓wp_rgM2, ↓wp_range1, ↓wp_enumA,
  ↓sq_nx, ↓sq_rt, ↓sq_bk, ↓sq_ct, ↓rt_rt, ↓rt_nx, ↓lo_nx, ↓lo_ct, ↓lo_bk, ↓lo_rt, ↓vq_fz, ↓vq_own, ↓oq_own, ↓sr_src, ↓tb_b, ↓ls_l, ↓iq_i, ↓l2_2, ↓il1_, ↓il2_, ↓op_some, ↓op_map,
  ↓o_addI, ↓o_addT, ↓o_addBI, ↓o_addBT, ↓o_addBL, ↓o_mulBI, ↓o_mulBL, ↓o_sub, ↓o_mul, ↓o_div, ↓o_mod, ↓o_pow, ↓o_lt, ↓o_le, ↓o_gt, ↓o_ge, ↓o_neg, ↓o_eqI, ↓o_neI, ↓o_neB, ↓o_isN, ↓o_notIsN, ↓o_isT, ↓o_notIsT, ↓o_ixT, ↓o_ixL, ↓o_len_l, ↓o_len_t, ↓o_abs, ↓o_max2, ↓o_min2, ↓o_int, ↓o_tup_l, ↓o_tup_t, ↓o_lst_l, ↓o_lst_t, ↓o_items_l, ↓o_items_t, ↓i_tt, ↓i_tl, ↓i_tn, ↓i_ti, ↓i_ss, ↓i_ii, ↓i_bi, ↓i_ib, ↓i_bb, ↓o_bnm, ↓o_btp, ↓o_bnil, ↓o_bcons,
  isN_n, isN_i, isN_b, isN_t, isN_l, isN_s, at_0, at_1, at_2, at_3, at_m1, at_nat, szl0, szl1, szl2, szl3, szl4, szl5, szl6, szl7, szl8, szl9, szl10, szl11, szl12, szl13, szl14, szl15, szl16, szk0, szk1, szk2, szk3, szk4, szk5, szk6, szk7, szk8, sl_d, sl_s,
  List.getElem?_cons_zero, List.getElem?_cons_succ, List.getElem?_map, List.set_cons_zero, List.set_cons_succ, List.map_cons, List.map_nil, List.length_map, List.replicate_succ, List.replicate_zero, List.cons_append, List.nil_append, List.length_cons, List.length_nil, List.isEmpty_nil, List.isEmpty_cons, Nat.reduceAdd, Nat.reduceSub, Int.cast_ofNat_Int, Int.reduceNe, Int.reduceEq, Nat.sub_zero, Nat.sub_self,
  decide_eq_true_eq, decide_eq_false_iff_not, Bool.not_eq_true', Bool.not_eq_false', Bool.not_true, Bool.not_false, Bool.true_eq_false, Bool.false_eq_true, true_and, and_true, forall_const, false_imp_iff, true_imp_iff, imp_self, forall_false, implies_true, not_true_eq_false, not_false_eq_true, true_implies, false_implies, eq_self_iff_true, reduceCtorEq])
local macro_rules | `(tactic| walk_at "wu") => `(tactic| simp only [↓ca_def, ↓wp_seq, ↓wp_asg, ↓wp_asgN, ↓wp_retS, ↓wp_dropS, ↓wp_ifS, ↓wp_unpS, ↓wp_par2, ↓wp_parO, ↓wp_appS, ↓wp_forS, ↓wp_forNil, ↓wp_forCons, ↓wp_seqI, ↓wp_ret, ↓wp_cD, ↓wp_vD, ↓wp_op2, ↓wp_op1, ↓wp_callN, ↓wp_toB, ↓wp_andT, ↓wp_orT, ↓wp_notT, ↓wp_andV, ↓wp_orV, ↓wp_notV, ↓wp_ifD, ↓wp_chn, ↓wp_consL, ↓wp_consA, ↓wp_srcA, ↓wp_callD, ↓wp_tupD, ↓wp_lstD, ↓wp_someI, ↓wp_sliceD, ↓wp_rngD, ↓wp_rgM1, ↓wp_rgM2, ↓wp_range1, ↓wp_enumA,
  ↓sq_nx, ↓sq_rt, ↓sq_bk, ↓sq_ct, ↓rt_rt, ↓rt_nx, ↓lo_nx, ↓lo_ct, ↓lo_bk, ↓lo_rt, ↓vq_fz, ↓vq_own, ↓oq_own, ↓sr_src, ↓tb_b, ↓ls_l, ↓iq_i, ↓l2_2, ↓il1_, ↓il2_, ↓op_some, ↓op_map,
  ↓o_addI, ↓o_addT, ↓o_addBI, ↓o_addBT, ↓o_addBL, ↓o_mulBI, ↓o_mulBL, ↓o_sub, ↓o_mul, ↓o_div, ↓o_mod, ↓o_pow, ↓o_lt, ↓o_le, ↓o_gt, ↓o_ge, ↓o_neg, ↓o_eqI, ↓o_neI, ↓o_neB, ↓o_isN, ↓o_notIsN, ↓o_isT, ↓o_notIsT, ↓o_ixT, ↓o_ixL, ↓o_len_l, ↓o_len_t, ↓o_abs, ↓o_max2, ↓o_min2, ↓o_int, ↓o_tup_l, ↓o_tup_t, ↓o_lst_l, ↓o_lst_t, ↓o_items_l, ↓o_items_t, ↓i_tt, ↓i_tl, ↓i_tn, ↓i_ti, ↓i_ss, ↓i_ii, ↓i_bi, ↓i_ib, ↓i_bb, ↓o_bnm, ↓o_btp, ↓o_bnil, ↓o_bcons,
  isN_n, isN_i, isN_b, isN_t, isN_l, isN_s, at_0, at_1, at_2, at_3, at_m1, at_nat, szl0, szl1, szl2, szl3, szl4, szl5, szl6, szl7, szl8, szl9, szl10, szl11, szl12, szl13, szl14, szl15, szl16, szk0, szk1, szk2, szk3, szk4, szk5, szk6, szk7, szk8, sl_d, sl_s,
  List.getElem?_cons_zero, List.getElem?_cons_succ, List.getElem?_map, List.set_cons_zero, List.set_cons_succ, List.map_cons, List.map_nil, List.length_map, List.replicate_succ, List.replicate_zero, List.cons_append, List.nil_append, List.length_cons, List.length_nil, List.isEmpty_nil, List.isEmpty_cons, Nat.reduceAdd, Nat.reduceSub, Int.cast_ofNat_Int, Int.reduceNe, Int.reduceEq, Nat.sub_zero, Nat.sub_self,
  decide_eq_true_eq, decide_eq_false_iff_not, Bool.not_eq_true', Bool.not_eq_false', Bool.not_true, Bool.not_false, Bool.true_eq_false, Bool.false_eq_true, true_and, and_true, forall_const, false_imp_iff, true_imp_iff, imp_self, forall_false, implies_true, not_true_eq_false, not_false_eq_true, true_implies, false_implies, eq_self_iff_true, reduceCtorEq])
local macro_rules | `(tactic| walk_at "wi") => `(tactic| simp only [↓ca_def, ↓wp_seq, ↓wp_asg, ↓wp_asgN, ↓wp_retS, ↓wp_dropS, ↓wp_unpS, ↓wp_par2, ↓wp_parO, ↓wp_appS, ↓wp_forS, ↓wp_forNil, ↓wp_seqI, ↓wp_ret, ↓wp_cD, ↓wp_vD, ↓wp_op2, ↓wp_op1, ↓wp_callN, ↓wp_toB, ↓wp_andT, ↓wp_orT, ↓wp_notT, ↓wp_andV, ↓wp_orV, ↓wp_notV, ↓wp_ifD, ↓wp_chn, ↓wp_consL, ↓wp_consA, ↓wp_srcA, ↓wp_callD, ↓wp_tupD, ↓wp_lstD, ↓wp_someI, ↓wp_sliceD, ↓wp_rngD, ↓wp_rgM1, ↓wp_rgM2, ↓wp_range1, ↓wp_enumA,
  ↓sq_nx, ↓sq_rt, ↓sq_bk, ↓sq_ct, ↓rt_rt, ↓rt_nx, ↓lo_nx, ↓lo_ct, ↓lo_bk, ↓lo_rt, ↓vq_fz, ↓vq_own, ↓oq_own, ↓sr_src, ↓tb_b, ↓ls_l, ↓iq_i, ↓l2_2, ↓il1_, ↓il2_, ↓op_some, ↓op_map,
  ↓o_addI, ↓o_addT, ↓o_addBI, ↓o_addBT, ↓o_addBL, ↓o_mulBI, ↓o_mulBL, ↓o_sub, ↓o_mul, ↓o_div, ↓o_mod, ↓o_pow, ↓o_lt, ↓o_le, ↓o_gt, ↓o_ge, ↓o_neg, ↓o_eqI, ↓o_neI, ↓o_neB, ↓o_isN, ↓o_notIsN, ↓o_isT, ↓o_notIsT, ↓o_ixT, ↓o_ixL, ↓o_len_l, ↓o_len_t, ↓o_abs, ↓o_max2, ↓o_min2, ↓o_int, ↓o_tup_l, ↓o_tup_t, ↓o_lst_l, ↓o_lst_t, ↓o_items_l, ↓o_items_t, ↓i_tt, ↓i_tl, ↓i_tn, ↓i_ti, ↓i_ss, ↓i_ii, ↓i_bi, ↓i_ib, ↓i_bb, ↓o_bnm, ↓o_btp, ↓o_bnil, ↓o_bcons,
  isN_n, isN_i, isN_b, isN_t, isN_l, isN_s, at_0, at_1, at_2, at_3, at_m1, at_nat, szl0, szl1, szl2, szl3, szl4, szl5, szl6, szl7, szl8, szl9, szl10, szl11, szl12, szl13, szl14, szl15, szl16, szk0, szk1, szk2, szk3, szk4, szk5, szk6, szk7, szk8, sl_d, sl_s,
  List.getElem?_cons_zero, List.getElem?_cons_succ, List.getElem?_map, List.set_cons_zero, List.set_cons_succ, List.map_cons, List.map_nil, List.length_map, List.replicate_succ, List.replicate_zero, List.cons_append, List.nil_append, List.length_cons, List.length_nil, List.isEmpty_nil, List.isEmpty_cons, Nat.reduceAdd, Nat.reduceSub, Int.cast_ofNat_Int, Int.reduceNe, Int.reduceEq, Nat.sub_zero, Nat.sub_self,
  decide_eq_true_eq, decide_eq_false_iff_not, Bool.not_eq_true', Bool.not_eq_false', Bool.not_true, Bool.not_false, Bool.true_eq_false, Bool.false_eq_true, true_and, and_true, forall_const, false_imp_iff, true_imp_iff, imp_self, forall_false, implies_true, not_true_eq_false, not_false_eq_true, true_implies, false_implies, eq_self_iff_true, reduceCtorEq])
local macro_rules | `(tactic| walk_at "wa") => `(tactic| simp only [↓ca_def, ↓wp_seq, ↓wp_asgN, ↓wp_retS, ↓wp_dropS, ↓wp_unpS, ↓wp_par2, ↓wp_parO, ↓wp_appS, ↓wp_forS, ↓wp_forNil, ↓wp_seqI, ↓wp_ret, ↓wp_cD, ↓wp_vD, ↓wp_op2, ↓wp_op1, ↓wp_callN, ↓wp_toB, ↓wp_andT, ↓wp_orT, ↓wp_notT, ↓wp_andV, ↓wp_orV, ↓wp_notV, ↓wp_ifD, ↓wp_chn, ↓wp_consL, ↓wp_consA, ↓wp_srcA, ↓wp_callD, ↓wp_tupD, ↓wp_lstD, ↓wp_someI, ↓wp_sliceD, ↓wp_rngD, ↓wp_rgM1, ↓wp_rgM2, ↓wp_range1, ↓wp_enumA,
  ↓sq_nx, ↓sq_rt, ↓sq_bk, ↓sq_ct, ↓rt_rt, ↓rt_nx, ↓lo_nx, ↓lo_ct, ↓lo_bk, ↓lo_rt, ↓vq_fz, ↓vq_own, ↓oq_own, ↓sr_src, ↓tb_b, ↓ls_l, ↓iq_i, ↓l2_2, ↓il1_, ↓il2_, ↓op_some, ↓op_map,
  ↓o_addI, ↓o_addT, ↓o_addBI, ↓o_addBT, ↓o_addBL, ↓o_mulBI, ↓o_mulBL, ↓o_sub, ↓o_mul, ↓o_div, ↓o_mod, ↓o_pow, ↓o_lt, ↓o_le, ↓o_gt, ↓o_ge, ↓o_neg, ↓o_eqI, ↓o_neI, ↓o_neB, ↓o_isN, ↓o_notIsN, ↓o_isT, ↓o_notIsT, ↓o_ixT, ↓o_ixL, ↓o_len_l, ↓o_len_t, ↓o_abs, ↓o_max2, ↓o_min2, ↓o_int, ↓o_tup_l, ↓o_tup_t, ↓o_lst_l, ↓o_lst_t, ↓o_items_l, ↓o_items_t, ↓i_tt, ↓i_tl, ↓i_tn, ↓i_ti, ↓i_ss, ↓i_ii, ↓i_bi, ↓i_ib, ↓i_bb, ↓o_bnm, ↓o_btp, ↓o_bnil, ↓o_bcons,
  isN_n, isN_i, isN_b, isN_t, isN_l, isN_s, at_0, at_1, at_2, at_3, at_m1, at_nat, szl0, szl1, szl2, szl3, szl4, szl5, szl6, szl7, szl8, szl9, szl10, szl11, szl12, szl13, szl14, szl15, szl16, szk0, szk1, szk2, szk3, szk4, szk5, szk6, szk7, szk8, sl_d, sl_s,
  List.getElem?_cons_zero, List.getElem?_cons_succ, List.getElem?_map, List.set_cons_zero, List.set_cons_succ, List.map_cons, List.map_nil, List.length_map, List.replicate_succ, List.replicate_zero, List.cons_append, List.nil_append, List.length_cons, List.length_nil, List.isEmpty_nil, List.isEmpty_cons, Nat.reduceAdd, Nat.reduceSub, Int.cast_ofNat_Int, Int.reduceNe, Int.reduceEq, Nat.sub_zero, Nat.sub_self,
  decide_eq_true_eq, decide_eq_false_iff_not, Bool.not_eq_true', Bool.not_eq_false', Bool.not_true, Bool.not_false, Bool.true_eq_false, Bool.false_eq_true, true_and, and_true, forall_const, false_imp_iff, true_imp_iff, imp_self, forall_false, implies_true, not_true_eq_false, not_false_eq_true, true_implies, false_implies, eq_self_iff_true, reduceCtorEq])
local macro_rules | `(tactic| walk_at "wd") => `(tactic| simp only [↓ca_def, ↓wp_seq, ↓wp_asg, ↓wp_asgN, ↓wp_retS, ↓wp_dropS, ↓wp_ifS, ↓wp_unpS, ↓wp_par2, ↓wp_parO, ↓wp_appS, ↓wp_forS, ↓wp_forNil, ↓wp_seqI, ↓wp_ret, ↓wp_cD, ↓wp_vD, ↓wp_op2, ↓wp_op1, ↓wp_callN, ↓wp_toB, ↓wp_andT, ↓wp_orT, ↓wp_notT, ↓wp_andV, ↓wp_orV, ↓wp_notV, ↓wp_chn, ↓wp_consL, ↓wp_consA, ↓wp_srcA, ↓wp_callD, ↓wp_tupD, ↓wp_lstD, ↓wp_someI, ↓wp_sliceD, ↓wp_rngD, ↓wp_rgM1, ↓wp_rgM2, ↓wp_range1, ↓wp_enumA,
  ↓sq_nx, ↓sq_rt, ↓sq_bk, ↓sq_ct, ↓rt_rt, ↓rt_nx, ↓lo_nx, ↓lo_ct, ↓lo_bk, ↓lo_rt, ↓vq_fz, ↓vq_own, ↓oq_own, ↓sr_src, ↓tb_b, ↓ls_l, ↓iq_i, ↓l2_2, ↓il1_, ↓il2_, ↓op_some, ↓op_map,
  ↓o_addI, ↓o_addT, ↓o_addBI, ↓o_addBT, ↓o_addBL, ↓o_mulBI, ↓o_mulBL, ↓o_sub, ↓o_mul, ↓o_div, ↓o_mod, ↓o_pow, ↓o_lt, ↓o_le, ↓o_gt, ↓o_ge, ↓o_neg, ↓o_eqI, ↓o_neI, ↓o_neB, ↓o_isN, ↓o_notIsN, ↓o_isT, ↓o_notIsT, ↓o_ixT, ↓o_ixL, ↓o_len_l, ↓o_len_t, ↓o_abs, ↓o_max2, ↓o_min2, ↓o_int, ↓o_tup_l, ↓o_tup_t, ↓o_lst_l, ↓o_lst_t, ↓o_items_l, ↓o_items_t, ↓i_tt, ↓i_tl, ↓i_tn, ↓i_ti, ↓i_ss, ↓i_ii, ↓i_bi, ↓i_ib, ↓i_bb, ↓o_bnm, ↓o_btp, ↓o_bnil, ↓o_bcons,
  isN_n, isN_i, isN_b, isN_t, isN_l, isN_s, at_0, at_1, at_2, at_3, at_m1, at_nat, szl0, szl1, szl2, szl3, szl4, szl5, szl6, szl7, szl8, szl9, szl10, szl11, szl12, szl13, szl14, szl15, szl16, szk0, szk1, szk2, szk3, szk4, szk5, szk6, szk7, szk8, sl_d, sl_s,
  List.getElem?_cons_zero, List.getElem?_cons_succ, List.getElem?_map, List.set_cons_zero, List.set_cons_succ, List.map_cons, List.map_nil, List.length_map, List.replicate_succ, List.replicate_zero, List.cons_append, List.nil_append, List.length_cons, List.length_nil, List.isEmpty_nil, List.isEmpty_cons, Nat.reduceAdd, Nat.reduceSub, Int.cast_ofNat_Int, Int.reduceNe, Int.reduceEq, Nat.sub_zero, Nat.sub_self,
  decide_eq_true_eq, decide_eq_false_iff_not, Bool.not_eq_true', Bool.not_eq_false', Bool.not_true, Bool.not_false, Bool.true_eq_false, Bool.false_eq_true, true_and, and_true, forall_const, false_imp_iff, true_imp_iff, imp_self, forall_false, implies_true, not_true_eq_false, not_false_eq_true, true_implies, false_implies, eq_self_iff_true, reduceCtorEq])
abbrev W (rows : List (List Int)) (n : Nat) : List (Option (Int × Int)) := (List.range rows.length).map (wsh rows n)
theorem oD_none {x : Option (Int × Int)} : isNone (oD x) = x.isNone := by cases x <;> rfl
/-- the shares that are there -/
def sms (rows : List (List Int)) (n : Nat) : List (Int × Int) := (List.range rows.length).filterMap (wsh rows n)
theorem sms_mem {rows : List (List Int)} {n : Nat} {u : Int × Int} : u ∈ sms rows n ↔ ∃ k, k < rows.length ∧ wsh rows n k = some u := by
  unfold sms
  rw [List.mem_filterMap]
  constructor
  · rintro ⟨k, hk, e⟩
    exact ⟨k, List.mem_range.mp hk, e⟩
  · rintro ⟨k, hk, e⟩
    exact ⟨k, List.mem_range.mpr hk, e⟩
theorem sms_map (rows : List (List Int)) (n : Nat) : ((List.range rows.length).filter fun k => (wsh rows n k).isSome).map (fun k => oD (wsh rows n k)) = (sms rows n).map pI := by
  unfold sms
  induction List.range rows.length with
  | nil => rfl
  | cons k r ih =>
    cases h : wsh rows n k with
    | none =>
      rw [List.filter_cons, List.filterMap_cons, h]
      simpa using ih
    | some u =>
      rw [List.filter_cons, List.filterMap_cons, h]
      simp only [Option.isSome_some, if_true, List.map_cons, h]
      rw [ih]
      rfl
theorem ok_oD (x : Option (Int × Int)) : okD (oD x) = true := by
  cases x with
  | none => rfl
  | some u => exact ok_pI u
theorem lay_oD (x : Option (Int × Int)) : (oD x).canLay0 = true := by
  cases x with
  | none => rfl
  | some u => simp [oD, PyData.canLay0, PyData.canLayAll0]
theorem dep_oD (x : Option (Int × Int)) : (oD x).depth ≤ 1 := by
  cases x with
  | none => exact Nat.zero_le _
  | some u => simp [oD, PyData.depth, PyData.depthAll]
theorem eqv_oD (x y : Option (Int × Int)) : PyData.eqv (oD x) (oD y) = decide (x = y) := by
  cases x <;> cases y
  · simp [oD, PyData.eqv]
  · simp [oD, PyData.eqv]
  · simp [oD, PyData.eqv]
  · simp only [oD, eqv_pI, Option.some.injEq]
theorem lay_oN (x : Option Nat) : (oN x).canLay0 = true := by cases x <;> rfl
theorem dep_oN (x : Option Nat) : (oN x).depth ≤ 0 := by cases x <;> exact Nat.le_refl _
theorem eqv_oN (x : Option Nat) : PyData.eqv (oN x) .none = x.isNone := by cases x <;> rfl
/-- the place of the first of the best -/
theorem o_ixW {K : D → Prop} {rows : List (List Int)} {n k : Nat} {u : Int × Int} (hb : Bst rows n rows.length k u) : OP (ixOfD (.list ((List.range rows.length).map fun k => oD (wsh rows n k))) (pI u)) K = K (.int (k : Nat)) := by
  have e : ixOfD (.list ((List.range rows.length).map fun k => oD (wsh rows n k))) (pI u) = some (.int (k : Nat)) := by
    show (if okD (pI u) = true ∧ okD (.list ((List.range rows.length).map fun k => oD (wsh rows n k))) = true then _ else none) = _
    rw [if_pos ⟨ok_pI _, (ok_map _ (fun x => lay_oD _) 1 (by decide) (fun x => dep_oD _) _).1⟩]
    have f : ((List.range rows.length).map fun k => oD (wsh rows n k)).findIdx? (fun z => PyData.eqv z (pI u)) = some k := by
      rw [List.findIdx?_eq_some_iff_getElem]
      refine ⟨by simpa using hb.lt, ?_, fun j hj => ?_⟩
      · rw [List.getElem_map, List.getElem_range, show pI u = oD (some u) from rfl, eqv_oD, hb.e]
        simp
      · have hj' : j < rows.length := by have := hb.lt; omega
        rw [List.getElem_map, List.getElem_range, show pI u = oD (some u) from rfl, eqv_oD]
        have : wsh rows n j ≠ some u := fun e => lt_ir _ (hb.fs j u hj e)
        simp [this]
    rw [f]
    rfl
  rw [e]
  exact op_some _ _
theorem o_ixB {K : D → Prop} {rows : List (List Int)} {n : Nat} {c0 c1 : Int} {k : Nat} (h : ((List.range rows.length).filter fun k => (ca rows n k c0 c1).isEmpty).head? = some k) : OP (ixOfD (.list ((List.range rows.length).map fun k => oN (hd rows n k c0 c1))) .none) K = K (.int (k : Nat)) := by
  have e : ixOfD (.list ((List.range rows.length).map fun k => oN (hd rows n k c0 c1))) .none = some (.int (k : Nat)) := by
    show (if okD .none = true ∧ okD (.list ((List.range rows.length).map fun k => oN (hd rows n k c0 c1))) = true then _ else none) = _
    rw [if_pos ⟨rfl, (ok_map _ (fun x => lay_oN _) 0 (by decide) (fun x => dep_oN _) _).1⟩]
    have f : ((List.range rows.length).map fun k => oN (hd rows n k c0 c1)).findIdx? (fun z => PyData.eqv z .none) = some k := by
      rw [List.findIdx?_map, ← h, ← range_find]
      congr 1
      funext k
      show PyData.eqv (oN (hd rows n k c0 c1)) .none = _
      rw [eqv_oN]
      unfold hd
      cases ca rows n k c0 c1 <;> rfl
    rw [f]
    rfl
  rw [e]
  exact op_some _ _
theorem o_inB {K : D → Prop} {rows : List (List Int)} {n : Nat} {c0 c1 : Int} : OP (inD .none (.list ((List.range rows.length).map fun k => oN (hd rows n k c0 c1)))) K = K (.bool ((List.range rows.length).filter fun k => (ca rows n k c0 c1).isEmpty).head?.isSome) := by
  have e : inD .none (.list ((List.range rows.length).map fun k => oN (hd rows n k c0 c1))) = some (.bool ((List.range rows.length).filter fun k => (ca rows n k c0 c1).isEmpty).head?.isSome) := by
    show (if okD (.list ((List.range rows.length).map fun k => oN (hd rows n k c0 c1))) = true ∧ okD .none = true then some (PyData.bool (((List.range rows.length).map fun k => oN (hd rows n k c0 c1)).any fun y => PyData.eqv y .none)) else none) = _
    rw [if_pos ⟨(ok_map _ (fun x => lay_oN _) 0 (by decide) (fun x => dep_oN _) _).1, rfl⟩]
    congr 2
    rw [List.any_map]
    induction List.range rows.length with
    | nil => rfl
    | cons k r ih =>
      rw [List.any_cons, ih, List.filter_cons]
      show (PyData.eqv (oN (hd rows n k c0 c1)) .none || _) = _
      rw [eqv_oN]
      unfold hd
      cases ca rows n k c0 c1 <;> simp
  rw [e]
  exact op_some _ _
theorem shw_oD {x : Option (Int × Int)} (h : ∀ u, x = some u → Sh u) : Shw 100 1 (oD x) := by
  cases x with
  | none => exact shw_none.mono (by decide) (by decide)
  | some u => exact (h u rfl).big
theorem shw_oN {x : Option Nat} (h : ∀ k, x = some k → k < 10 ^ 12) : Shw 40 0 (oN x) := by
  cases x with
  | none => exact shw_none.mono (by decide) (by decide)
  | some k => exact shw_int (by have := h k rfl; simp; omega)
theorem shw_str (x : Str) (h1 : PyData.leavesShort 13 (.str x) = true := by decide +kernel) (h2 : PyData.strOk (reprText x) = true := by decide +kernel) (h3 : x.cps.size ≤ 20 := by decide +kernel) : Shw 20 0 (.str x) := ⟨h1, rfl, rfl, h2, h3, Nat.le_refl _⟩
theorem Sh.mem {rows : List (List Int)} {n : Nat} (h : Tb rows n) : ∀ u ∈ sms rows n, Sh u := fun u hu => by
  obtain ⟨k, hk, e⟩ := sms_mem.mp hu
  exact wsh_Sh h hk e
/-- the law's own best: the first, then each less one -/
def lawBest (rows : List (List Int)) (n : Nat) : Option (Int × Int) := match sms rows n with
  | [] => none
  | u :: r => some ((u :: r).foldl (fun b v => if lt v b then v else b) u)
theorem fold_best : ∀ (l : List (Int × Int)) (u : Int × Int), (∀ v ∈ l, Sh v) → Sh u → (l.foldl (fun b v => if lt v b then v else b) u = u ∨ l.foldl (fun b v => if lt v b then v else b) u ∈ l) ∧ ¬ lt u (l.foldl (fun b v => if lt v b then v else b) u) ∧ ∀ v ∈ l, ¬ lt v (l.foldl (fun b v => if lt v b then v else b) u)
  | [], u, _, _ => ⟨.inl rfl, lt_ir _, fun _ h => by cases h⟩
  | w :: r, u, hl, hu => by
    have hw := hl w List.mem_cons_self
    have hr : ∀ v ∈ r, Sh v := fun v hv => hl v (List.mem_cons_of_mem _ hv)
    rw [List.foldl_cons]
    by_cases c : lt w u
    · rw [if_pos c]
      obtain ⟨i1, i2, i3⟩ := fold_best r w hr hw
      have sf : Sh (r.foldl (fun b v => if lt v b then v else b) w) := by
        rcases i1 with e | e
        · rw [e]; exact hw
        · exact hr _ e
      refine ⟨.inr ?_, fun z => i2 (lt_tr hw.pos hu.pos sf.pos c z), fun v hv => ?_⟩
      · rcases i1 with e | e
        · rw [e]; exact List.mem_cons_self
        · exact List.mem_cons_of_mem _ e
      · rcases List.mem_cons.mp hv with rfl | hv
        · exact i2
        · exact i3 v hv
    · rw [if_neg c]
      obtain ⟨i1, i2, i3⟩ := fold_best r u hr hu
      have sf : Sh (r.foldl (fun b v => if lt v b then v else b) u) := by
        rcases i1 with e | e
        · rw [e]; exact hu
        · exact hr _ e
      refine ⟨?_, i2, fun v hv => ?_⟩
      · rcases i1 with e | e
        · exact .inl e
        · exact .inr (List.mem_cons_of_mem _ e)
      · rcases List.mem_cons.mp hv with rfl | hv
        · exact nlt_tr hw.pos hu.pos sf.pos c i2
        · exact i3 v hv
theorem law_best {rows : List (List Int)} {n k : Nat} {u : Int × Int} (h : Tb rows n) (hb : Bst rows n rows.length k u) : lawBest rows n = some u := by
  have hu : u ∈ sms rows n := sms_mem.mpr ⟨k, hb.lt, hb.e⟩
  have su := wsh_Sh h hb.lt hb.e
  unfold lawBest
  cases hs : sms rows n with
  | nil => rw [hs] at hu; cases hu
  | cons w r =>
    have hm : ∀ v ∈ w :: r, Sh v := fun v hv => Sh.mem h v (by rw [hs]; exact hv)
    obtain ⟨i1, i2, i3⟩ := fold_best (w :: r) w hm (hm w List.mem_cons_self)
    show some ((w :: r).foldl (fun b v => if lt v b then v else b) w) = some u
    generalize (w :: r).foldl (fun b v => if lt v b then v else b) w = x at i1 i2 i3 ⊢
    have hx : x ∈ w :: r := by
      rcases i1 with e | e
      · rw [e]; exact List.mem_cons_self
      · exact e
    obtain ⟨j, hj, ej⟩ := sms_mem.mp (show x ∈ sms rows n by rw [hs]; exact hx)
    have n1 := hb.mn j x hj ej
    have n2 := i3 u (by rw [hs] at hu; exact hu)
    congr 1
    rcases su.tri (hm x hx) with z | z | z
    · exact absurd z n2
    · exact z.symm
    · exact absurd z n1
theorem law_best_none {rows : List (List Int)} {n : Nat} (h : ∀ j, j < rows.length → wsh rows n j = none) : lawBest rows n = none ∧ sms rows n = [] := by
  have : sms rows n = [] := by
    refine List.eq_nil_iff_forall_not_mem.mpr fun u hu => ?_
    obtain ⟨k, hk, e⟩ := sms_mem.mp hu
    rw [h k hk] at e
    cases e
  exact ⟨by unfold lawBest; rw [this], this⟩
end K48

-- part K48v
set_option Elab.async false
set_option linter.all false
set_option maxRecDepth 100000
set_option maxHeartbeats 2000000
namespace K48
open PySem PySem.Spec PyProof.Rows L2 RZ DL
local macro_rules | `(tactic| walk_at "wp") => `(tactic| simp only [↓ca_def, ↓wp_seq, ↓wp_asg, ↓wp_asgN, ↓wp_retS, ↓wp_dropS, ↓wp_ifS, ↓wp_unpS, ↓wp_par2, ↓wp_parO, ↓wp_appS, ↓wp_forS, ↓wp_forNil, ↓wp_seqI, ↓wp_ret, ↓wp_cD, ↓wp_vD, ↓wp_op2, ↓wp_op1, ↓wp_callN, ↓wp_toB, ↓wp_andT, ↓wp_orT, ↓wp_notT, ↓wp_andV, ↓wp_orV, ↓wp_notV, ↓wp_ifD, ↓wp_chn, ↓wp_consL, ↓wp_consA, ↓wp_srcA, ↓wp_callD, ↓wp_tupD, ↓wp_lstD, ↓wp_someI, ↓wp_sliceD, ↓wp_rngD, ↓wp_rgM1, ↓wp_rgM2, ↓wp_range1, ↓wp_enumA,
  ↓sq_nx, ↓sq_rt, ↓sq_bk, ↓sq_ct, ↓rt_rt, ↓rt_nx, ↓lo_nx, ↓lo_ct, ↓lo_bk, ↓lo_rt, ↓vq_fz, ↓vq_own, ↓oq_own, ↓sr_src, ↓tb_b, ↓ls_l, ↓iq_i, ↓l2_2, ↓il1_, ↓il2_, ↓op_some, ↓op_map,
  ↓o_addI, ↓o_addT, ↓o_addBI, ↓o_addBT, ↓o_addBL, ↓o_mulBI, ↓o_mulBL, ↓o_sub, ↓o_mul, ↓o_div, ↓o_mod, ↓o_pow, ↓o_lt, ↓o_le, ↓o_gt, ↓o_ge, ↓o_neg, ↓o_eqI, ↓o_neI, ↓o_neB, ↓o_isN, ↓o_notIsN, ↓o_isT, ↓o_notIsT, ↓o_ixT, ↓o_ixL, ↓o_len_l, ↓o_len_t, ↓o_abs, ↓o_max2, ↓o_min2, ↓o_int, ↓o_tup_l, ↓o_tup_t, ↓o_lst_l, ↓o_lst_t, ↓o_items_l, ↓o_items_t, ↓i_tt, ↓i_tl, ↓i_tn, ↓i_ti, ↓i_ss, ↓i_ii, ↓i_bi, ↓i_ib, ↓i_bb, ↓o_bnm, ↓o_btp, ↓o_bnil, ↓o_bcons,
  isN_n, isN_i, isN_b, isN_t, isN_l, isN_s, at_0, at_1, at_2, at_3, at_m1, at_nat, szl0, szl1, szl2, szl3, szl4, szl5, szl6, szl7, szl8, szl9, szl10, szl11, szl12, szl13, szl14, szl15, szl16, szk0, szk1, szk2, szk3, szk4, szk5, szk6, szk7, szk8, sl_d, sl_s,
  List.getElem?_cons_zero, List.getElem?_cons_succ, List.getElem?_map, List.set_cons_zero, List.set_cons_succ, List.map_cons, List.map_nil, List.length_map, List.replicate_succ, List.replicate_zero, List.cons_append, List.nil_append, List.length_cons, List.length_nil, List.isEmpty_nil, List.isEmpty_cons, Nat.reduceAdd, Nat.reduceSub, Int.cast_ofNat_Int, Int.reduceNe, Int.reduceEq, Nat.sub_zero, Nat.sub_self,
  decide_eq_true_eq, decide_eq_false_iff_not, Bool.not_eq_true', Bool.not_eq_false', Bool.not_true, Bool.not_false, Bool.true_eq_false, Bool.false_eq_true, true_and, and_true, forall_const, false_imp_iff, true_imp_iff, imp_self, forall_false, implies_true, not_true_eq_false, not_false_eq_true, true_implies, false_implies, eq_self_iff_true, reduceCtorEq])
local macro_rules | `(tactic| walk_at "wu") => `(tactic| simp only [↓ca_def, ↓wp_seq, ↓wp_asg, ↓wp_asgN, ↓wp_retS, ↓wp_dropS, ↓wp_ifS, ↓wp_unpS, ↓wp_par2, ↓wp_parO, ↓wp_appS, ↓wp_forS, ↓wp_forNil, ↓wp_forCons, ↓wp_seqI, ↓wp_ret, ↓wp_cD, ↓wp_vD, ↓wp_op2, ↓wp_op1, ↓wp_callN, ↓wp_toB, ↓wp_andT, ↓wp_orT, ↓wp_notT, ↓wp_andV, ↓wp_orV, ↓wp_notV, ↓wp_ifD, ↓wp_chn, ↓wp_consL, ↓wp_consA, ↓wp_srcA, ↓wp_callD, ↓wp_tupD, ↓wp_lstD, ↓wp_someI, ↓wp_sliceD, ↓wp_rngD, ↓wp_rgM1, ↓wp_rgM2, ↓wp_range1, ↓wp_enumA,
  ↓sq_nx, ↓sq_rt, ↓sq_bk, ↓sq_ct, ↓rt_rt, ↓rt_nx, ↓lo_nx, ↓lo_ct, ↓lo_bk, ↓lo_rt, ↓vq_fz, ↓vq_own, ↓oq_own, ↓sr_src, ↓tb_b, ↓ls_l, ↓iq_i, ↓l2_2, ↓il1_, ↓il2_, ↓op_some, ↓op_map,
  ↓o_addI, ↓o_addT, ↓o_addBI, ↓o_addBT, ↓o_addBL, ↓o_mulBI, ↓o_mulBL, ↓o_sub, ↓o_mul, ↓o_div, ↓o_mod, ↓o_pow, ↓o_lt, ↓o_le, ↓o_gt, ↓o_ge, ↓o_neg, ↓o_eqI, ↓o_neI, ↓o_neB, ↓o_isN, ↓o_notIsN, ↓o_isT, ↓o_notIsT, ↓o_ixT, ↓o_ixL, ↓o_len_l, ↓o_len_t, ↓o_abs, ↓o_max2, ↓o_min2, ↓o_int, ↓o_tup_l, ↓o_tup_t, ↓o_lst_l, ↓o_lst_t, ↓o_items_l, ↓o_items_t, ↓i_tt, ↓i_tl, ↓i_tn, ↓i_ti, ↓i_ss, ↓i_ii, ↓i_bi, ↓i_ib, ↓i_bb, ↓o_bnm, ↓o_btp, ↓o_bnil, ↓o_bcons,
  isN_n, isN_i, isN_b, isN_t, isN_l, isN_s, at_0, at_1, at_2, at_3, at_m1, at_nat, szl0, szl1, szl2, szl3, szl4, szl5, szl6, szl7, szl8, szl9, szl10, szl11, szl12, szl13, szl14, szl15, szl16, szk0, szk1, szk2, szk3, szk4, szk5, szk6, szk7, szk8, sl_d, sl_s,
  List.getElem?_cons_zero, List.getElem?_cons_succ, List.getElem?_map, List.set_cons_zero, List.set_cons_succ, List.map_cons, List.map_nil, List.length_map, List.replicate_succ, List.replicate_zero, List.cons_append, List.nil_append, List.length_cons, List.length_nil, List.isEmpty_nil, List.isEmpty_cons, Nat.reduceAdd, Nat.reduceSub, Int.cast_ofNat_Int, Int.reduceNe, Int.reduceEq, Nat.sub_zero, Nat.sub_self,
  decide_eq_true_eq, decide_eq_false_iff_not, Bool.not_eq_true', Bool.not_eq_false', Bool.not_true, Bool.not_false, Bool.true_eq_false, Bool.false_eq_true, true_and, and_true, forall_const, false_imp_iff, true_imp_iff, imp_self, forall_false, implies_true, not_true_eq_false, not_false_eq_true, true_implies, false_implies, eq_self_iff_true, reduceCtorEq])
local macro_rules | `(tactic| walk_at "wi") => `(tactic| simp only [↓ca_def, ↓wp_seq, ↓wp_asg, ↓wp_asgN, ↓wp_retS, ↓wp_dropS, ↓wp_unpS, ↓wp_par2, ↓wp_parO, ↓wp_appS, ↓wp_forS, ↓wp_forNil, ↓wp_seqI, ↓wp_ret, ↓wp_cD, ↓wp_vD, ↓wp_op2, ↓wp_op1, ↓wp_callN, ↓wp_toB, ↓wp_andT, ↓wp_orT, ↓wp_notT, ↓wp_andV, ↓wp_orV, ↓wp_notV, ↓wp_ifD, ↓wp_chn, ↓wp_consL, ↓wp_consA, ↓wp_srcA, ↓wp_callD, ↓wp_tupD, ↓wp_lstD, ↓wp_someI, ↓wp_sliceD, ↓wp_rngD, ↓wp_rgM1, ↓wp_rgM2, ↓wp_range1, ↓wp_enumA,
  ↓sq_nx, ↓sq_rt, ↓sq_bk, ↓sq_ct, ↓rt_rt, ↓rt_nx, ↓lo_nx, ↓lo_ct, ↓lo_bk, ↓lo_rt, ↓vq_fz, ↓vq_own, ↓oq_own, ↓sr_src, ↓tb_b, ↓ls_l, ↓iq_i, ↓l2_2, ↓il1_, ↓il2_, ↓op_some, ↓op_map,
  ↓o_addI, ↓o_addT, ↓o_addBI, ↓o_addBT, ↓o_addBL, ↓o_mulBI, ↓o_mulBL, ↓o_sub, ↓o_mul, ↓o_div, ↓o_mod, ↓o_pow, ↓o_lt, ↓o_le, ↓o_gt, ↓o_ge, ↓o_neg, ↓o_eqI, ↓o_neI, ↓o_neB, ↓o_isN, ↓o_notIsN, ↓o_isT, ↓o_notIsT, ↓o_ixT, ↓o_ixL, ↓o_len_l, ↓o_len_t, ↓o_abs, ↓o_max2, ↓o_min2, ↓o_int, ↓o_tup_l, ↓o_tup_t, ↓o_lst_l, ↓o_lst_t, ↓o_items_l, ↓o_items_t, ↓i_tt, ↓i_tl, ↓i_tn, ↓i_ti, ↓i_ss, ↓i_ii, ↓i_bi, ↓i_ib, ↓i_bb, ↓o_bnm, ↓o_btp, ↓o_bnil, ↓o_bcons,
  isN_n, isN_i, isN_b, isN_t, isN_l, isN_s, at_0, at_1, at_2, at_3, at_m1, at_nat, szl0, szl1, szl2, szl3, szl4, szl5, szl6, szl7, szl8, szl9, szl10, szl11, szl12, szl13, szl14, szl15, szl16, szk0, szk1, szk2, szk3, szk4, szk5, szk6, szk7, szk8, sl_d, sl_s,
  List.getElem?_cons_zero, List.getElem?_cons_succ, List.getElem?_map, List.set_cons_zero, List.set_cons_succ, List.map_cons, List.map_nil, List.length_map, List.replicate_succ, List.replicate_zero, List.cons_append, List.nil_append, List.length_cons, List.length_nil, List.isEmpty_nil, List.isEmpty_cons, Nat.reduceAdd, Nat.reduceSub, Int.cast_ofNat_Int, Int.reduceNe, Int.reduceEq, Nat.sub_zero, Nat.sub_self,
  decide_eq_true_eq, decide_eq_false_iff_not, Bool.not_eq_true', Bool.not_eq_false', Bool.not_true, Bool.not_false, Bool.true_eq_false, Bool.false_eq_true, true_and, and_true, forall_const, false_imp_iff, true_imp_iff, imp_self, forall_false, implies_true, not_true_eq_false, not_false_eq_true, true_implies, false_implies, eq_self_iff_true, reduceCtorEq])
local macro_rules | `(tactic| walk_at "wa") => `(tactic| simp only [↓ca_def, ↓wp_seq, ↓wp_asgN, ↓wp_retS, ↓wp_dropS, ↓wp_unpS, ↓wp_par2, ↓wp_parO, ↓wp_appS, ↓wp_forS, ↓wp_forNil, ↓wp_seqI, ↓wp_ret, ↓wp_cD, ↓wp_vD, ↓wp_op2, ↓wp_op1, ↓wp_callN, ↓wp_toB, ↓wp_andT, ↓wp_orT, ↓wp_notT, ↓wp_andV, ↓wp_orV, ↓wp_notV, ↓wp_ifD, ↓wp_chn, ↓wp_consL, ↓wp_consA, ↓wp_srcA, ↓wp_callD, ↓wp_tupD, ↓wp_lstD, ↓wp_someI, ↓wp_sliceD, ↓wp_rngD, ↓wp_rgM1, ↓wp_rgM2, ↓wp_range1, ↓wp_enumA,
  ↓sq_nx, ↓sq_rt, ↓sq_bk, ↓sq_ct, ↓rt_rt, ↓rt_nx, ↓lo_nx, ↓lo_ct, ↓lo_bk, ↓lo_rt, ↓vq_fz, ↓vq_own, ↓oq_own, ↓sr_src, ↓tb_b, ↓ls_l, ↓iq_i, ↓l2_2, ↓il1_, ↓il2_, ↓op_some, ↓op_map,
  ↓o_addI, ↓o_addT, ↓o_addBI, ↓o_addBT, ↓o_addBL, ↓o_mulBI, ↓o_mulBL, ↓o_sub, ↓o_mul, ↓o_div, ↓o_mod, ↓o_pow, ↓o_lt, ↓o_le, ↓o_gt, ↓o_ge, ↓o_neg, ↓o_eqI, ↓o_neI, ↓o_neB, ↓o_isN, ↓o_notIsN, ↓o_isT, ↓o_notIsT, ↓o_ixT, ↓o_ixL, ↓o_len_l, ↓o_len_t, ↓o_abs, ↓o_max2, ↓o_min2, ↓o_int, ↓o_tup_l, ↓o_tup_t, ↓o_lst_l, ↓o_lst_t, ↓o_items_l, ↓o_items_t, ↓i_tt, ↓i_tl, ↓i_tn, ↓i_ti, ↓i_ss, ↓i_ii, ↓i_bi, ↓i_ib, ↓i_bb, ↓o_bnm, ↓o_btp, ↓o_bnil, ↓o_bcons,
  isN_n, isN_i, isN_b, isN_t, isN_l, isN_s, at_0, at_1, at_2, at_3, at_m1, at_nat, szl0, szl1, szl2, szl3, szl4, szl5, szl6, szl7, szl8, szl9, szl10, szl11, szl12, szl13, szl14, szl15, szl16, szk0, szk1, szk2, szk3, szk4, szk5, szk6, szk7, szk8, sl_d, sl_s,
  List.getElem?_cons_zero, List.getElem?_cons_succ, List.getElem?_map, List.set_cons_zero, List.set_cons_succ, List.map_cons, List.map_nil, List.length_map, List.replicate_succ, List.replicate_zero, List.cons_append, List.nil_append, List.length_cons, List.length_nil, List.isEmpty_nil, List.isEmpty_cons, Nat.reduceAdd, Nat.reduceSub, Int.cast_ofNat_Int, Int.reduceNe, Int.reduceEq, Nat.sub_zero, Nat.sub_self,
  decide_eq_true_eq, decide_eq_false_iff_not, Bool.not_eq_true', Bool.not_eq_false', Bool.not_true, Bool.not_false, Bool.true_eq_false, Bool.false_eq_true, true_and, and_true, forall_const, false_imp_iff, true_imp_iff, imp_self, forall_false, implies_true, not_true_eq_false, not_false_eq_true, true_implies, false_implies, eq_self_iff_true, reduceCtorEq])
local macro_rules | `(tactic| walk_at "wd") => `(tactic| simp only [↓ca_def, ↓wp_seq, ↓wp_asg, ↓wp_asgN, ↓wp_retS, ↓wp_dropS, ↓wp_ifS, ↓wp_unpS, ↓wp_par2, ↓wp_parO, ↓wp_appS, ↓wp_forS, ↓wp_forNil, ↓wp_seqI, ↓wp_ret, ↓wp_cD, ↓wp_vD, ↓wp_op2, ↓wp_op1, ↓wp_callN, ↓wp_toB, ↓wp_andT, ↓wp_orT, ↓wp_notT, ↓wp_andV, ↓wp_orV, ↓wp_notV, ↓wp_chn, ↓wp_consL, ↓wp_consA, ↓wp_srcA, ↓wp_callD, ↓wp_tupD, ↓wp_lstD, ↓wp_someI, ↓wp_sliceD, ↓wp_rngD, ↓wp_rgM1, ↓wp_rgM2, ↓wp_range1, ↓wp_enumA,
  ↓sq_nx, ↓sq_rt, ↓sq_bk, ↓sq_ct, ↓rt_rt, ↓rt_nx, ↓lo_nx, ↓lo_ct, ↓lo_bk, ↓lo_rt, ↓vq_fz, ↓vq_own, ↓oq_own, ↓sr_src, ↓tb_b, ↓ls_l, ↓iq_i, ↓l2_2, ↓il1_, ↓il2_, ↓op_some, ↓op_map,
  ↓o_addI, ↓o_addT, ↓o_addBI, ↓o_addBT, ↓o_addBL, ↓o_mulBI, ↓o_mulBL, ↓o_sub, ↓o_mul, ↓o_div, ↓o_mod, ↓o_pow, ↓o_lt, ↓o_le, ↓o_gt, ↓o_ge, ↓o_neg, ↓o_eqI, ↓o_neI, ↓o_neB, ↓o_isN, ↓o_notIsN, ↓o_isT, ↓o_notIsT, ↓o_ixT, ↓o_ixL, ↓o_len_l, ↓o_len_t, ↓o_abs, ↓o_max2, ↓o_min2, ↓o_int, ↓o_tup_l, ↓o_tup_t, ↓o_lst_l, ↓o_lst_t, ↓o_items_l, ↓o_items_t, ↓i_tt, ↓i_tl, ↓i_tn, ↓i_ti, ↓i_ss, ↓i_ii, ↓i_bi, ↓i_ib, ↓i_bb, ↓o_bnm, ↓o_btp, ↓o_bnil, ↓o_bcons,
  isN_n, isN_i, isN_b, isN_t, isN_l, isN_s, at_0, at_1, at_2, at_3, at_m1, at_nat, szl0, szl1, szl2, szl3, szl4, szl5, szl6, szl7, szl8, szl9, szl10, szl11, szl12, szl13, szl14, szl15, szl16, szk0, szk1, szk2, szk3, szk4, szk5, szk6, szk7, szk8, sl_d, sl_s,
  List.getElem?_cons_zero, List.getElem?_cons_succ, List.getElem?_map, List.set_cons_zero, List.set_cons_succ, List.map_cons, List.map_nil, List.length_map, List.replicate_succ, List.replicate_zero, List.cons_append, List.nil_append, List.length_cons, List.length_nil, List.isEmpty_nil, List.isEmpty_cons, Nat.reduceAdd, Nat.reduceSub, Int.cast_ofNat_Int, Int.reduceNe, Int.reduceEq, Nat.sub_zero, Nat.sub_self,
  decide_eq_true_eq, decide_eq_false_iff_not, Bool.not_eq_true', Bool.not_eq_false', Bool.not_true, Bool.not_false, Bool.true_eq_false, Bool.false_eq_true, true_and, and_true, forall_const, false_imp_iff, true_imp_iff, imp_self, forall_false, implies_true, not_true_eq_false, not_false_eq_true, true_implies, false_implies, eq_self_iff_true, reduceCtorEq])
theorem oD_s (u : Int × Int) : oD (some u) = pI u := rfl
theorem oD_n : oD none = .none := rfl
theorem oN_s (k : Nat) : oN (some k) = .int (k : Nat) := rfl
theorem oN_n : oN none = .none := rfl
theorem no_filter {α : Type} (l : List α) : (l.filter fun _ => false) = [] := by simp
theorem shw_paper {rows : List (List Int)} {n : Nat} (hm : rows.length ≤ 40) (hn : n ≤ 60) {c0 c1 : Int} : Shw 3000 2 (paper rows n c0 c1) := by
  unfold paper
  cases hh : ((List.range rows.length).filter fun k => (ca rows n k c0 c1).isEmpty).head? with
  | some k =>
    have hk := List.mem_range.mp (List.mem_filter.mp (List.mem_of_head? hh)).1
    exact (shw_tup (shws_cons (shw_str "way") (shws_cons (shw_int (i := (k : Nat)) (by simp; omega)) shws_nil))).mono (by decide) (by decide)
  | none =>
    refine (shw_tup (shws_cons (shw_str "bars") (shws_cons (shw_tup (shws_map (n := 40) (m := 0) (fun k => oN (hd rows n k c0 c1)) (List.range rows.length) fun k hk => ?_)) shws_nil))).mono ?_ (by decide)
    · exact shw_oN fun i hi => by have := (hd_mem hi).2; omega
    · rw [List.length_range]; omega
theorem J_paper {rows : List (List Int)} {n : Nat} (h : Tb rows n) {c0 c1 : Int} (h0 : sml c0) (h1 : sml c1) (s : Src) : f_judge_share [.d (tbD rows), .d (pI (c0, c1)), .d (paper rows n c0 c1)] s = some (.none, s) := by
  unfold paper
  cases hh : ((List.range rows.length).filter fun k => (ca rows n k c0 c1).isEmpty).head? with
  | some k =>
    have hm := List.mem_filter.mp (List.mem_of_head? hh)
    have hk := List.mem_range.mp hm.1
    have e := J_way h hk h0 h1 s
    have e2 : hd rows n k c0 c1 = none := hd_none.mpr (by simpa using hm.2)
    rw [e2] at e
    exact e
  | none =>
    have ho : ∀ k, k < rows.length → ∃ i, hd rows n k c0 c1 = some i := fun k hk => by
      have := List.filter_eq_nil_iff.mp (List.head?_eq_none_iff.mp hh) k (List.mem_range.mpr hk)
      cases h2 : hd rows n k c0 c1 with
      | none =>
        rw [hd_none.mp h2] at this
        simp at this
      | some i => exact ⟨i, rfl⟩
    have e := J_bars h ((List.range rows.length).map fun k => (((hd rows n k c0 c1).getD 0 : Nat) : Int)) (by simp) (fun x hx => by
      obtain ⟨k, hk, rfl⟩ := List.mem_map.mp hx
      obtain ⟨i, hi⟩ := ho k (List.mem_range.mp hk)
      rw [hi]
      have := (hd_mem hi).2
      simp
      omega) h0 h1 s
    have e2 : off rows n ((List.range rows.length).map fun k => (((hd rows n k c0 c1).getD 0 : Nat) : Int)) c0 c1 = [] := by
      unfold off
      rw [List.filter_eq_nil_iff]
      intro k hk
      obtain ⟨i, hi⟩ := ho k (List.mem_range.mp hk)
      rw [List.getD_eq_getElem?_getD, List.getElem?_map, List.getElem?_range (List.mem_range.mp hk)]
      simp only [Option.map_some, Option.getD_some, hi, Int.toNat_natCast]
      have := (hd_mem hi).1
      simpa using this
    rw [e2] at e
    have e3 : ((List.range rows.length).map fun k => (((hd rows n k c0 c1).getD 0 : Nat) : Int)).map PyData.int = (List.range rows.length).map fun k => oN (hd rows n k c0 c1) := by
      rw [List.map_map]
      refine List.map_congr_left fun k hk => ?_
      obtain ⟨i, hi⟩ := ho k (List.mem_range.mp hk)
      simp only [Function.comp, hi]
      rfl
    unfold tI' at e
    rw [e3] at e
    exact e
def tagD (t : Str) : Option Nat → D
  | none => .none
  | some i => .tuple [.str t, .int (i : Nat)]
theorem shw_tag {t : Str} (ht : Shw 20 0 (.str t)) {x : Option Nat} (h : ∀ i, x = some i → i < 10 ^ 9) : Shw 100 1 (tagD t x) := by
  cases x with
  | none => exact shw_none.mono (by decide) (by decide)
  | some i => exact (shw_tup (shws_cons ht (shws_cons (shw_int (i := (i : Nat)) (by have := h i rfl; simp; omega)) shws_nil))).mono (by decide) (by decide)
theorem J_way2 {rows : List (List Int)} {n : Nat} (h : Tb rows n) {k : Nat} (hk : k < rows.length) {c0 c1 : Int} (h0 : sml c0) (h1 : sml c1) (s : Src) :
    f_judge_share [.d (tbD rows), .d (pI (c0, c1)), .d (.tuple [.str "way", .int (k : Nat)])] s = some (tagD "case" (hd rows n k c0 c1), s) := by
  rw [J_way h hk h0 h1 s]
  cases hd rows n k c0 c1 <;> rfl
theorem J_bars2 {rows : List (List Int)} {n : Nat} (h : Tb rows n) (row : List Int) (hl : row.length = rows.length) (hr : ∀ x ∈ row, 0 ≤ x ∧ x < n) {c0 c1 : Int} (h0 : sml c0) (h1 : sml c1) (s : Src) :
    f_judge_share [.d (tbD rows), .d (pI (c0, c1)), .d (.tuple [.str "bars", tI' row])] s = some (tagD "within" (off rows n row c0 c1).head?, s) := by
  rw [J_bars h row hl hr h0 h1 s]
  cases (off rows n row c0 c1).head? <;> rfl
theorem rep1 {α : Type} (a : α) : ∀ k : Nat, (List.replicate k [a]).flatten = List.replicate k a
  | 0 => rfl
  | k + 1 => by rw [List.replicate_succ, List.flatten_cons, rep1 a k, List.replicate_succ]; rfl
theorem o_neForm {K : D → Prop} : OP (neD (.tuple [.str "form"]) (.tuple [.str "form"])) K = K (.bool false) := by
  have e : neD (.tuple [.str "form"]) (.tuple [.str "form"]) = some (.bool false) := by
    unfold neD
    rw [if_pos ⟨by decide +kernel, by decide +kernel⟩]
    simp [PyData.eqv, PyData.eqvAll]
  rw [e]
  exact op_some _ _
theorem o_inW {K : D → Prop} {rows : List (List Int)} {n : Nat} (left : List Nat) (u : Int × Int) : OP (inD (pI u) (.list (left.map fun k => oD (wsh rows n k)))) K = K (.bool (left.any fun k => decide (wsh rows n k = some u))) := by
  have e : inD (pI u) (.list (left.map fun k => oD (wsh rows n k))) = some (.bool (left.any fun k => decide (wsh rows n k = some u))) := by
    show (if okD (.list (left.map fun k => oD (wsh rows n k))) = true ∧ okD (pI u) = true then some (PyData.bool ((left.map fun k => oD (wsh rows n k)).any fun y => PyData.eqv y (pI u))) else none) = _
    rw [if_pos ⟨(ok_map _ (fun x => lay_oD _) 1 (by decide) (fun x => dep_oD _) _).1, ok_pI _⟩]
    congr 2
    rw [List.any_map]
    congr 1
    funext k
    show PyData.eqv (oD (wsh rows n k)) (oD (some u)) = _
    rw [eqv_oD]
  rw [e]
  exact op_some _ _
theorem ca_has {rows : List (List Int)} {n k j : Nat} {c0 c1 : Int} (hj : j < n) : decide (en rows k j * c1 ≤ c0 * le' rows j) = !(ca rows n k c0 c1).contains j := by
  unfold ca
  rw [Int.mul_comm c0]
  by_cases z : le' rows j * c0 < en rows k j * c1
  · have : j ∈ (List.range n).filter fun i => decide (le' rows i * c0 < en rows k i * c1) := List.mem_filter.mpr ⟨List.mem_range.mpr hj, by simpa using z⟩
    rw [List.contains_iff_mem.mpr this]
    simp
    omega
  · have : j ∉ (List.range n).filter fun i => decide (le' rows i * c0 < en rows k i * c1) := fun q => z (by simpa using (List.mem_filter.mp q).2)
    have e : ((List.range n).filter fun i => decide (le' rows i * c0 < en rows k i * c1)).contains j = false := by
      rw [← Bool.not_eq_true, List.contains_iff_mem]
      exact this
    rw [e]
    simp
    omega
theorem E_papers (s : Src) : CA f__law_papers_right [.src] s fun d _ => d = .bool true := by
  unfold f__law_papers_right d__law_papers_right
  walk_at "wp"
  refine (E_law_table s).imp ?_
  rintro _ s1 ⟨rows, n, rfl, h, hm, hn⟩
  have h1 := h.n1
  have hpos : 0 < rows.length := List.length_pos_iff.mpr h.ne
  walk_at "wp"
  refine wp_compA (List.range n) (fun (i : Nat) => PyData.int (i : Int)) (fun i => .int (le' rows i)) (s := s1) ?_ ?_ ?_ ?_
  · walk_at "wp"
    rw [show rows[0]? = some (rows.getD 0 []) from getk [] hpos]
    walk_at "wp"
    rw [row_len h hpos, ir_natD]
    refine ⟨by omega, rfl⟩
  · intro i hi
    have hi' := List.mem_range.mp hi
    simp only [wipeE]
    walk_at "wp"
    refine wp_compA rows tI' (fun r => .int (r.getD i 0)) (s := s1) ?_ ?_ ?_ ?_
    · walk_at "wp"
    · intro r hr
      simp only [wipeE]
      walk_at "wp"
      rw [show r[i]? = some (r.getD i 0) from getk 0 (by rw [h.wid r hr]; exact hi')]
      walk_at "wp"
    · omega
    · walk_at "wp"
      have e : (rows.map fun r => PyData.int (r.getD i 0)) = (rows.map fun r => r.getD i 0).map PyData.int := by rw [List.map_map]; rfl
      rw [e]
      refine op_of (ev_minL (m := le' rows i) ((mn_spec (by simp [h.ne])).1)) ?_
      simp only [and_self]
  · simp; omega
  walk_at "wp"
  have el : ((List.range n).map fun i => PyData.int (le' rows i)) = (lcs rows n).map PyData.int := by
    unfold lcs
    rw [List.map_map]
    rfl
  rw [el]
  refine wp_compA (List.range rows.length) (fun (k : Nat) => PyData.int (k : Int)) (fun k => oD (wsh rows n k)) (s := s1) ?_ ?_ ?_ ?_
  · walk_at "wp"
    rw [ir_natD]
    refine ⟨by omega, rfl⟩
  · intro k hk
    simp only [wipeE]
    walk_at "wp"
    refine ca_of (E_law_way h (List.mem_range.mp hk) s1) ?_
    simp only [and_self]
  · simp; omega
  walk_at "wp"
  refine wp_fzSeq rfl ?_
  simp only [List.set_cons_zero, List.set_cons_succ]
  refine wp_comp (List.range rows.length) (fun k => oD (wsh rows n k)) (fun k => (wsh rows n k).isSome) (fun k => oD (wsh rows n k)) (s := s1) ?_ ?_ ?_ ?_
  · walk_at "wp"
  · intro k hk
    simp only [wipeE]
    walk_at "wp"
    rw [oD_none]
    cases wsh rows n k <;> simp
  · simp; omega
  rw [sms_map]
  walk_at "wa"
  have okS1 : okD (.list ((sms rows n).map pI)) = true := (ok_map _ (fun x => lay_oD (some x)) 1 (by decide) (fun x => dep_oD (some x)) _).1
  have lS : (sms rows n).length ≤ 40 := by
    unfold sms
    have := List.length_filterMap_le (wsh rows n) (List.range rows.length)
    rw [List.length_range] at this
    omega
  refine wp_asgJ (oD (sms rows n).head?) ⟨[.src, .fz (tbD rows), .fz (.tuple ((lcs rows n).map PyData.int)), .fz (.list ((List.range rows.length).map fun k => oD (wsh rows n k))), .fz (.list ((sms rows n).map pI)), .un, .un, .un, .un, .un, .un, .un, .un, .un, .un, .un, .un, .un, .un], s1⟩ ?_ ?_
  · walk_at "wp"
    rw [o_neNil okS1]
    cases hs : sms rows n with
    | nil =>
      walk_at "wp"
      simp [oD]
    | cons u r =>
      walk_at "wp"
      simp [oD]
  walk_at "wp"
  refine wp_for pI (fun pre S => ∃ j6, S = ⟨[.src, .fz (tbD rows), .fz (.tuple ((lcs rows n).map PyData.int)), .fz (.list ((List.range rows.length).map fun k => oD (wsh rows n k))), .fz (.list ((sms rows n).map pI)), .fz (oD ((sms rows n).head?.map fun u => pre.foldl (fun b v => if lt v b then v else b) u)), j6, .un, .un, .un, .un, .un, .un, .un, .un, .un, .un, .un, .un], s1⟩) (sms rows n) ⟨.un, by cases (sms rows n).head? <;> rfl⟩ ?_ ?_
  · rintro pre v post S hv ⟨j6, rfl⟩
    have sv := Sh.mem h v (by rw [hv]; simp)
    cases hh : (sms rows n).head? with
    | none =>
      rw [List.head?_eq_none_iff] at hh
      rw [hh] at hv
      simp at hv
    | some u =>
      have su := Sh.mem h u (List.mem_of_head? hh)
      have hpre : ∀ x ∈ pre, Sh x := fun x hx => Sh.mem h x (by rw [hv]; simp [hx])
      have sf : Sh (pre.foldl (fun b v => if lt v b then v else b) u) := by
        rcases (fold_best pre u hpre su).1 with e | e
        · rw [e]; exact su
        · exact hpre _ e
      simp only [Option.map_some, oD]
      walk_at "wp"
      refine ca_of (E_law_before sv.sml sf.sml s1) ?_
      walk_at "wp"
      rw [List.foldl_append, List.foldl_cons, List.foldl_nil]
      refine ⟨fun c => ⟨.fz (pI v), ?_⟩, fun c => ⟨.fz (pI v), ?_⟩⟩
      · rw [if_pos (show lt v _ from c)]
      · rw [if_neg (show ¬ lt v _ from c)]
  rintro S ⟨j6, rfl⟩
  have eb : ((sms rows n).head?.map fun u => (sms rows n).foldl (fun b v => if lt v b then v else b) u) = lawBest rows n := by
    unfold lawBest
    cases sms rows n <;> rfl
  rw [eb]
  walk_at "wp"
  refine ca_of (E_least_costs h s1) ?_
  walk_at "wp"
  obtain ⟨r, er, hr⟩ := E_best_way h s1
  have els := E_least_share h s1 er (fun k e => by
    rcases hr with ⟨e1, _⟩ | ⟨k', u, e1, hb⟩
    · rw [e1] at e; cases e
    · rw [e1] at e; cases e; exact hb.lt)
  have eq1 : r.bind (wsh rows n) = lawBest rows n := by
    rcases hr with ⟨rfl, e1⟩ | ⟨k', u, rfl, hb⟩
    · rw [(law_best_none e1).1]; rfl
    · rw [law_best h hb]; exact hb.e
  rw [eq1] at els
  refine ca_of els ?_
  walk_at "wp"
  refine ca_of er ?_
  walk_at "wp"
  have sB : ∀ u, lawBest rows n = some u → Sh u := fun u e => by
    rcases hr with ⟨rfl, e1⟩ | ⟨k', v, rfl, hb⟩
    · rw [(law_best_none e1).1] at e; cases e
    · rw [law_best h hb] at e; cases e; exact wsh_Sh h hb.lt hb.e
  have rB : ∀ k, r = some k → k < 10 ^ 12 := fun k e => by
    rcases hr with ⟨rfl, e1⟩ | ⟨k', v, rfl, hb⟩
    · cases e
    · cases e; have := hb.lt; omega
  have shT : Shw 2600 1 (.tuple ((lcs rows n).map PyData.int)) := by
    refine (shw_tup (shws_map (n := 40) (m := 0) PyData.int (lcs rows n) fun x hx => ?_)).mono (by rw [lcs_len]; omega) (by decide)
    unfold lcs at hx
    obtain ⟨i, hi, rfl⟩ := List.mem_map.mp hx
    have := le_bd h (List.mem_range.mp hi)
    exact shw_int (by unfold le' at this; omega)
  have sh1 : Shw 3000 2 (.list [.tuple ((lcs rows n).map PyData.int), oD (lawBest rows n), oN r]) := (shw_lst (shws_cons shT (shws_cons (shw_oD sB) (shws_cons (shw_oN rB) shws_nil)))).mono (by decide) (by decide)
  refine o_repr sh1 ?_
  walk_at "wd"
  refine wp_ifDJ (oN r) ?_ ?_
  · rcases hr with ⟨rfl, e1⟩ | ⟨k', u, rfl, hb⟩
    · rw [(law_best_none e1).1]
      simp only [oD_n, oN_n]
      walk_at "wp"
    · rw [law_best h hb]
      simp only [oD_s, oN_s]
      walk_at "wp"
      rw [o_ixW hb]
      walk_at "wp"
  walk_at "wp"
  refine o_repr sh1 ?_
  rw [o_neS sh1]
  walk_at "wp"
  refine wp_comp (List.range rows.length) (fun (k : Nat) => PyData.int (k : Int)) (fun _ => false) (fun (k : Nat) => PyData.int (k : Int)) (s := s1) ?_ ?_ ?_ ?_
  · walk_at "wp"
    rw [ir_natD]
    refine ⟨by omega, rfl⟩
  · intro k hk
    have hk' := List.mem_range.mp hk
    simp only [wipeE]
    walk_at "wp"
    refine ca_of (E_way h hk' s1) ?_
    walk_at "wp"
    have sw : Shw 100 1 (oD (wsh rows n k)) := shw_oD fun u e => wsh_Sh h hk' e
    refine o_repr sw ?_
    walk_at "wp"
    rw [List.getElem?_range hk']
    walk_at "wp"
    refine o_repr sw ?_
    rw [o_neS sw]
    walk_at "wp"
  · simp; omega
  rw [no_filter, List.map_nil]
  walk_at "wp"
  rw [o_neNil (by rfl)]
  walk_at "wp"
  refine (C_pick (by decide) _).imp ?_
  rintro _ s2 ⟨k3, rfl, k30, k31⟩
  walk_at "wp"
  refine ca_of (E_cutI (by omega) (by decide) (by decide) s2) ?_
  walk_at "wp"
  refine ⟨sz_of (by simp; omega), (C_of (by simp) (by simp; omega) _).imp ?_⟩
  intro d0 s3 hd0
  obtain ⟨⟨c0, c1⟩, rfl, sc⟩ : ∃ c : Int × Int, d0 = pI c ∧ Sh c := by
    rw [List.mem_append] at hd0
    rcases hd0 with hd0 | hd0
    · obtain ⟨u, hu, rfl⟩ := List.mem_map.mp hd0
      exact ⟨u, rfl, Sh.mem h u hu⟩
    · simp only [List.mem_cons, List.not_mem_nil, or_false] at hd0
      rcases hd0 with rfl | rfl | rfl
      · exact ⟨(1, 1), rfl, sh11⟩
      · exact ⟨(2, 1), rfl, ⟨2, 1, by decide, by decide, by decide, by decide, by decide⟩⟩
      · exact ⟨_, rfl, shI_Sh (by omega) (by decide) (by omega) (by decide)⟩
  clear hd0
  have h0 := sc.sml
  have hc1 := sc.sml2
  simp only at h0 hc1
  walk_at "wp"
  refine wp_compA (List.range rows.length) (fun (k : Nat) => PyData.int (k : Int)) (fun k => oN (hd rows n k c0 c1)) (s := s3) ?_ ?_ ?_ ?_
  · walk_at "wp"
    rw [ir_natD]
    refine ⟨by omega, rfl⟩
  · intro k hk
    have hk' := List.mem_range.mp hk
    simp only [wipeE]
    walk_at "wp"
    refine ca_of (E_law_bars h hk' h0 hc1 s3) ?_
    simp only [and_self]
  · simp; omega
  walk_at "wd"
  refine wp_ifDK (paper rows n c0 c1) ⟨[.src, .fz (tbD rows), .fz (.tuple ((lcs rows n).map PyData.int)), .fz (.list ((List.range rows.length).map fun k => oD (wsh rows n k))), .fz (.list ((sms rows n).map pI)), .fz (oD (lawBest rows n)), j6, .fz (.list [tI' (lcs rows n), oD (lawBest rows n), oN r]), .fz (pI (c0, c1)), .fz (.list ((List.range rows.length).map fun k => oN (hd rows n k c0 c1))), .un, .un, .un, .un, .un, .un, .un, .un, .un], s3⟩ ?_ ?_
  · walk_at "wp"
    rw [o_inB]
    unfold paper
    cases hh : ((List.range rows.length).filter fun k => (ca rows n k c0 c1).isEmpty).head? with
    | some k =>
      simp only [Option.isSome_some]
      walk_at "wp"
      rw [o_ixB hh]
      walk_at "wp"
    | none =>
      simp only [Option.isSome_none]
      walk_at "wp"
  walk_at "wp"
  refine ca_of (E_paper h h0 hc1 s3) ?_
  walk_at "wp"
  have shp := shw_paper (rows := rows) (n := n) hm hn (c0 := c0) (c1 := c1)
  refine o_repr shp ?_
  walk_at "wp"
  refine o_repr shp ?_
  rw [o_neS shp]
  walk_at "wp"
  refine ca_of (J_paper h h0 hc1 s3) ?_
  walk_at "wp"
  refine ⟨by omega, ?_⟩
  refine wp_for PyData.int (fun pre S => ∃ s' j11 j12 j13 j14, (j12 = .un ∨ ∃ d, j12 = .fz d) ∧ S = ⟨[.src, .fz (tbD rows), .fz (.tuple ((lcs rows n).map PyData.int)), .fz (.list ((List.range rows.length).map fun k => oD (wsh rows n k))), .fz (.list ((sms rows n).map pI)), .fz (oD (lawBest rows n)), j6, .fz (.list [tI' (lcs rows n), oD (lawBest rows n), oN r]), .fz (pI (c0, c1)), .fz (.list ((List.range rows.length).map fun k => oN (hd rows n k c0 c1))), .fz (paper rows n c0 c1), j11, j12, j13, j14, .un, .un, .un, .un], s'⟩) _ ⟨_, _, _, _, _, .inl rfl, rfl⟩ ?_ ?_
  · rintro pre x post S hx ⟨s4, j11, j12, j13, j14, _, rfl⟩
    walk_at "wp"
    refine (C_pick (by omega) _).imp ?_
    rintro _ s5 ⟨kk, rfl, kk0, kk1⟩
    obtain ⟨k, rfl⟩ : ∃ k : Nat, kk = k := ⟨kk.toNat, by omega⟩
    have hk : k < rows.length := by omega
    walk_at "wp"
    refine ca_of (J_way2 h hk h0 hc1 s5) ?_
    walk_at "wp"
    have st := shw_tag (shw_str "case") (x := hd rows n k c0 c1) fun i hi => by have := (hd_mem hi).2; omega
    refine o_repr st ?_
    walk_at "wd"
    refine wp_ifDJ (tagD "case" (hd rows n k c0 c1)) ?_ ?_
    · walk_at "wp"
      rw [List.getElem?_range hk]
      walk_at "wp"
      cases hh : hd rows n k c0 c1 with
      | none =>
        simp only [oN_n]
        walk_at "wp"
        rfl
      | some i =>
        simp only [oN_s]
        walk_at "wp"
        rw [List.getElem?_range hk]
        walk_at "wp"
        rw [hh]
        rfl
    walk_at "wp"
    refine o_repr st ?_
    rw [o_neS st]
    walk_at "wp"
    refine wp_compS (List.range rows.length) (fun k => oN (hd rows n k c0 c1)) (fun pre ys _ => ∃ row : List Int, ys = row.map PyData.int ∧ row.length = pre.length ∧ ∀ x ∈ row, 0 ≤ x ∧ x < n) (s := s5) ?_ ⟨[], rfl, rfl, fun _ h => by cases h⟩ ?_ ?_ ?_
    · walk_at "wp"
    · rintro pre y post ys s6 hy ⟨row, rfl, rl, rr⟩
      simp only [wipeE]
      walk_at "wp"
      have more : ∀ z : Int, 0 ≤ z → z < n → ∃ row' : List Int, row.map PyData.int ++ [PyData.int z] = row'.map PyData.int ∧ row'.length = (pre ++ [y]).length ∧ ∀ x ∈ row', 0 ≤ x ∧ x < n := fun z z0 z1 => by
        refine ⟨row ++ [z], by simp, by simp [rl], fun x hx => ?_⟩
        rcases List.mem_append.mp hx with hx | hx
        · exact rr x hx
        · rw [List.mem_singleton.mp hx]
          exact ⟨z0, z1⟩
      cases hh : hd rows n y c0 c1 with
      | none =>
        simp only [oN_n]
        walk_at "wp"
        rw [lcs_len]
        refine (C_pick (by omega) _).imp ?_
        rintro _ s7 ⟨k4, rfl, k40, k41⟩
        walk_at "wp"
        simpa using more k4 k40 (by omega)
      | some i =>
        have hi := (hd_mem hh).2
        simp only [oN_s]
        walk_at "wp"
        refine (C_pick (by decide) _).imp ?_
        rintro _ s7 ⟨k4, rfl, k40, k41⟩
        walk_at "wp"
        refine ⟨fun _ => ?_, fun _ => ?_⟩
        · rw [lcs_len]
          refine (C_pick (by omega) _).imp ?_
          rintro _ s8 ⟨k5, rfl, k50, k51⟩
          walk_at "wp"
          simpa using more k5 k50 (by omega)
        · simpa using more i (by omega) (by omega)
    · simp; omega
    rintro ys s6 ⟨row, rfl, rl, rr⟩
    rw [List.length_range] at rl
    walk_at "wp"
    refine wp_fzEnum rfl ?_
    simp only [List.set_cons_zero, List.set_cons_succ]
    refine wp_comp (List.range row.length) (fun (k : Nat) => PyData.tuple [.int k, .int (row.getD k 0)]) (fun k => !(ca rows n k c0 c1).contains (row.getD k 0).toNat) (fun (k : Nat) => PyData.int (k : Int)) (s := s6) ?_ ?_ ?_ ?_
    · refine wp_enum ?_
      walk_at "wp"
      exact ⟨_, rfl, enumL_ints _⟩
    · intro j hj
      have hj' : j < rows.length := by rw [← rl]; exact List.mem_range.mp hj
      have hx := rr (row.getD j 0) (by rw [List.getD_eq_getElem?_getD, List.getElem?_eq_getElem (by omega)]; exact List.getElem_mem _)
      obtain ⟨i, hi⟩ : ∃ i : Nat, row.getD j 0 = (i : Int) := ⟨_, (Int.toNat_of_nonneg hx.1).symm⟩
      rw [hi] at hx ⊢
      have hin : i < n := by omega
      simp only [wipeE]
      walk_at "wp"
      rw [getk [] hj']
      walk_at "wp"
      rw [show (rows.getD j [])[i]? = some (en rows j i) from getk 0 (by rw [row_len h hj']; exact hin)]
      walk_at "wp"
      refine ⟨.inr (by unfold sml at hc1; omega), ?_⟩
      rw [lcs_get hin]
      walk_at "wp"
      refine ⟨sml_mul h0, ?_⟩
      rw [ca_has hin]
      simp
    · simp; omega
    have eo : ((List.range row.length).filter fun k => !(ca rows n k c0 c1).contains (row.getD k 0).toNat) = off rows n row c0 c1 := by rw [rl]; rfl
    rw [eo]
    walk_at "wp"
    refine ca_of (J_bars2 h row rl rr h0 hc1 s6) ?_
    walk_at "wp"
    have so := shw_tag (shw_str "within") (x := (off rows n row c0 c1).head?) fun i hi => by
      have := List.mem_range.mp (List.mem_filter.mp (List.mem_of_head? hi)).1
      omega
    refine o_repr so ?_
    walk_at "wd"
    refine wp_ifDK (tagD "within" (off rows n row c0 c1).head?) ⟨[.src, .fz (tbD rows), .fz (.tuple ((lcs rows n).map PyData.int)), .fz (.list ((List.range rows.length).map fun k => oD (wsh rows n k))), .fz (.list ((sms rows n).map pI)), .fz (oD (lawBest rows n)), j6, .fz (.list [tI' (lcs rows n), oD (lawBest rows n), oN r]), .fz (pI (c0, c1)), .fz (.list ((List.range rows.length).map fun k => oN (hd rows n k c0 c1))), .fz (paper rows n c0 c1), .fz (.int x), .fz (.int (k : Nat)), .fz (.list (row.map PyData.int)), .fz (lN (off rows n row c0 c1)), .un, .un, .un, .un], s6⟩ ?_ ?_
    · walk_at "wp"
      rw [o_neLN]
      cases off rows n row c0 c1 with
      | nil =>
        walk_at "wp"
        exact ⟨rfl, rfl⟩
      | cons a b =>
        walk_at "wp"
        exact ⟨rfl, rfl⟩
    walk_at "wp"
    refine o_repr so ?_
    rw [o_neS so]
    walk_at "wp"
    exact ⟨_, _, _, _, _, .inr ⟨_, rfl⟩, rfl⟩
  rintro S ⟨s4, j11, j12, j13, j14, j12o, rfl⟩
  walk_at "wp"
  refine o_mulBT (by simp) (by simp) (by omega) (by omega) ?_
  walk_at "wp"
  refine ⟨⟨⟨by omega, by omega⟩, by omega⟩, ?_⟩
  refine o_mulBT (by simp) (by simp) (by omega) (by omega) ?_
  rw [lcs_len]
  walk_at "wp"
  refine wp_fzSeq rfl ?_
  simp only [List.set_cons_zero, List.set_cons_succ]
  rw [rep1, rep1, rep1, show ((rows.length : Int) + 1).toNat = rows.length + 1 by omega, show ((rows.length : Int)).toNat = rows.length by omega]
  refine wp_comp (badL rows.length n) id (fun _ => false) id (s := s4) ?_ ?_ ?_ ?_
  · walk_at "wp"
    rfl
  · intro v hv
    simp only [wipeE, id]
    walk_at "wp"
    refine ca_of (J_bad h (c0, c1) s4 v hv) ?_
    walk_at "wp"
    rw [o_neForm]
    walk_at "wp"
  · simp [badL]
  rw [no_filter, List.map_nil]
  walk_at "wp"
  rw [o_neNil (by rfl)]
  walk_at "wp"
  obtain ⟨left, ek, kw⟩ := E_kept_ways h s4
  refine ca_of ek ?_
  walk_at "wp"
  rcases hr with ⟨rfl, e1⟩ | ⟨k', u, rfl, hb⟩
  · rw [(law_best_none e1).1]
    simp only [oD_n]
    walk_at "wp"
  · rw [law_best h hb]
    simp only [oD_s]
    walk_at "wp"
    have len : left.length ≤ 1000000 := by
      have h9 : left.length ≤ (List.range rows.length).length := List.Nodup.length_le_of_subset kw.nd fun x hx => List.mem_range.mpr (kw.lt x hx)
      rw [List.length_range] at h9
      omega
    have fin : (left.any fun k => decide (wsh rows n k = some u)) = true := by
      obtain ⟨l, hl, hd⟩ := kw.dom k' hb.lt
      have hl' := kw.lt l hl
      obtain ⟨v, ev, nv⟩ := wsh_mono h hl' hb.lt hd hb.e
      have sv := wsh_Sh h hl' ev
      have su := wsh_Sh h hb.lt hb.e
      have : v = u := by
        rcases sv.tri su with z | z | z
        · exact absurd z (hb.mn l v hl' ev)
        · exact z
        · exact absurd z nv
      rw [List.any_eq_true]
      exact ⟨l, hl, by rw [ev, this]; simp⟩
    have go : ∀ S0 : Sta, (∀ l ∈ left, True) → True := fun _ _ => trivial
    rcases j12o with rfl | ⟨d12, rfl⟩
    · refine wp_compA left (fun (k : Nat) => PyData.int (k : Int)) (fun k => oD (wsh rows n k)) (s := s4) ?_ ?_ len ?_
      · walk_at "wp"
      · intro k hk
        simp only [wipeE]
        walk_at "wp"
        rw [List.getElem?_range (kw.lt k hk)]
        walk_at "wp"
      · rw [o_inW, fin]
    · refine wp_compA left (fun (k : Nat) => PyData.int (k : Int)) (fun k => oD (wsh rows n k)) (s := s4) ?_ ?_ len ?_
      · walk_at "wp"
      · intro k hk
        simp only [wipeE]
        walk_at "wp"
        rw [List.getElem?_range (kw.lt k hk)]
        walk_at "wp"
      · rw [o_inW, fin]
theorem law_true (s : Src) : ∃ S', d_law ⟨envL, s⟩ = some (.rt (.bool true), S') := by
  have key : WP d_law ⟨envL, s⟩ fun o _ => o = .rt (.bool true) := by
    unfold d_law envL
    walk_at "wp"
    refine (E_rents s).imp ?_
    rintro _ s1 rfl
    walk_at "wp"
    refine (E_rents s1).imp ?_
    rintro _ s2 rfl
    walk_at "wp"
    refine (E_papers s2).imp ?_
    rintro _ s3 rfl
    rfl
  obtain ⟨o, S', e, rfl⟩ := key
  exact ⟨S', e⟩
end K48

-- part K48w
set_option Elab.async false
set_option linter.all false
set_option maxRecDepth 100000
set_option maxHeartbeats 0
namespace K48
open PySem PySem.Spec PyProof.Rows L2 RZ DL
def dD__law_source : He.DefD := ⟨("_law_source", none), "_law_source", "_law_source", defArgs s__law_source, defBody s__law_source, defScope s__law_source, [], []⟩
def dD__law_pick : He.DefD := ⟨("_law_pick", none), "_law_pick", "_law_pick", defArgs s__law_pick, defBody s__law_pick, defScope s__law_pick, [], []⟩
def dD_share_number : He.DefD := ⟨("share_number", none), "share_number", "share_number", defArgs s_share_number, defBody s_share_number, defScope s_share_number, [], []⟩
def dD_is_less_share : He.DefD := ⟨("is_less_share", none), "is_less_share", "is_less_share", defArgs s_is_less_share, defBody s_is_less_share, defScope s_is_less_share, [], []⟩
def dD_greater_share : He.DefD := ⟨("greater_share", none), "greater_share", "greater_share", defArgs s_greater_share, defBody s_greater_share, defScope s_greater_share, [], []⟩
def dD_rent_cost : He.DefD := ⟨("rent_cost", none), "rent_cost", "rent_cost", defArgs s_rent_cost, defBody s_rent_cost, defScope s_rent_cost, [], []⟩
def dD_rent_share : He.DefD := ⟨("rent_share", none), "rent_share", "rent_share", defArgs s_rent_share, defBody s_rent_share, defScope s_rent_share, [], []⟩
def dD_least_rent_share : He.DefD := ⟨("least_rent_share", none), "least_rent_share", "least_rent_share", defArgs s_least_rent_share, defBody s_least_rent_share, defScope s_least_rent_share, [], []⟩
def dD_known_share : He.DefD := ⟨("known_share", none), "known_share", "known_share", defArgs s_known_share, defBody s_known_share, defScope s_known_share, [], []⟩
def dD_told_known_way : He.DefD := ⟨("told_known_way", none), "told_known_way", "told_known_way", defArgs s_told_known_way, defBody s_told_known_way, defScope s_told_known_way, [], []⟩
def dD_least_known_share : He.DefD := ⟨("least_known_share", none), "least_known_share", "least_known_share", defArgs s_least_known_share, defBody s_least_known_share, defScope s_least_known_share, [], []⟩
def dD_is_cost : He.DefD := ⟨("is_cost", none), "is_cost", "is_cost", defArgs s_is_cost, defBody s_is_cost, defScope s_is_cost, [], []⟩
def dD_least_costs : He.DefD := ⟨("least_costs", none), "least_costs", "least_costs", defArgs s_least_costs, defBody s_least_costs, defScope s_least_costs, [], []⟩
def dD_way_share : He.DefD := ⟨("way_share", none), "way_share", "way_share", defArgs s_way_share, defBody s_way_share, defScope s_way_share, [], []⟩
def dD_best_way : He.DefD := ⟨("best_way", none), "best_way", "best_way", defArgs s_best_way, defBody s_best_way, defScope s_best_way, [], []⟩
def dD_least_share : He.DefD := ⟨("least_share", none), "least_share", "least_share", defArgs s_least_share, defBody s_least_share, defScope s_least_share, [], []⟩
def dD_is_no_better : He.DefD := ⟨("is_no_better", none), "is_no_better", "is_no_better", defArgs s_is_no_better, defBody s_is_no_better, defScope s_is_no_better, [], []⟩
def dD_kept_ways : He.DefD := ⟨("kept_ways", none), "kept_ways", "kept_ways", defArgs s_kept_ways, defBody s_kept_ways, defScope s_kept_ways, [], []⟩
def dD_cases_above : He.DefD := ⟨("cases_above", none), "cases_above", "cases_above", defArgs s_cases_above, defBody s_cases_above, defScope s_cases_above, [], []⟩
def dD_share_paper : He.DefD := ⟨("share_paper", none), "share_paper", "share_paper", defArgs s_share_paper, defBody s_share_paper, defScope s_share_paper, [], []⟩
def dD_is_case_row : He.DefD := ⟨("is_case_row", none), "is_case_row", "is_case_row", defArgs s_is_case_row, defBody s_is_case_row, defScope s_is_case_row, [], []⟩
def dD_judge_share : He.DefD := ⟨("judge_share", none), "judge_share", "judge_share", defArgs s_judge_share, defBody s_judge_share, defScope s_judge_share, [], []⟩
def dD__law_of : He.DefD := ⟨("_law_of", none), "_law_of", "_law_of", defArgs s__law_of, defBody s__law_of, defScope s__law_of, [], []⟩
def dD__law_cut : He.DefD := ⟨("_law_cut", none), "_law_cut", "_law_cut", defArgs s__law_cut, defBody s__law_cut, defScope s__law_cut, [], []⟩
def dD__law_before : He.DefD := ⟨("_law_before", none), "_law_before", "_law_before", defArgs s__law_before, defBody s__law_before, defScope s__law_before, [], []⟩
def dD__law_greater : He.DefD := ⟨("_law_greater", none), "_law_greater", "_law_greater", defArgs s__law_greater, defBody s__law_greater, defScope s__law_greater, [], []⟩
def dD__law_cost : He.DefD := ⟨("_law_cost", none), "_law_cost", "_law_cost", defArgs s__law_cost, defBody s__law_cost, defScope s__law_cost, [], []⟩
def dD__law_share : He.DefD := ⟨("_law_share", none), "_law_share", "_law_share", defArgs s__law_share, defBody s__law_share, defScope s__law_share, [], []⟩
def dD__law_told : He.DefD := ⟨("_law_told", none), "_law_told", "_law_told", defArgs s__law_told, defBody s__law_told, defScope s__law_told, [], []⟩
def dD__law_rents_right : He.DefD := ⟨("_law_rents_right", none), "_law_rents_right", "_law_rents_right", defArgs s__law_rents_right, defBody s__law_rents_right, defScope s__law_rents_right, [], []⟩
def dD__law_table : He.DefD := ⟨("_law_table", none), "_law_table", "_law_table", defArgs s__law_table, defBody s__law_table, defScope s__law_table, [], []⟩
def dD__law_way : He.DefD := ⟨("_law_way", none), "_law_way", "_law_way", defArgs s__law_way, defBody s__law_way, defScope s__law_way, [], []⟩
def dD__law_bars : He.DefD := ⟨("_law_bars", none), "_law_bars", "_law_bars", defArgs s__law_bars, defBody s__law_bars, defScope s__law_bars, [], []⟩
def dD__law_papers_right : He.DefD := ⟨("_law_papers_right", none), "_law_papers_right", "_law_papers_right", defArgs s__law_papers_right, defBody s__law_papers_right, defScope s__law_papers_right, [], []⟩
def dD_law : He.DefD := ⟨("law", none), "law", "law", defArgs s_law, defBody s_law, defScope s_law, [], []⟩
def fnD : List He.DefD := [dD__law_source, dD__law_pick, dD_share_number, dD_is_less_share, dD_greater_share, dD_rent_cost, dD_rent_share, dD_least_rent_share, dD_known_share, dD_told_known_way, dD_least_known_share, dD_is_cost, dD_least_costs, dD_way_share, dD_best_way, dD_least_share, dD_is_no_better, dD_kept_ways, dD_cases_above, dD_share_paper, dD_is_case_row, dD_judge_share, dD__law_of, dD__law_cut, dD__law_before, dD__law_greater, dD__law_cost, dD__law_share, dD__law_told, dD__law_rents_right, dD__law_table, dD__law_way, dD__law_bars, dD__law_papers_right, dD_law]
def faD : List He.Fa := [.glo "_law_source", .glo "_law_pick", .glo "share_number", .glo "is_less_share", .glo "greater_share", .glo "rent_cost", .glo "rent_share", .glo "least_rent_share", .glo "known_share", .glo "told_known_way", .glo "least_known_share", .glo "is_cost", .glo "least_costs", .glo "way_share", .glo "best_way", .glo "least_share", .glo "is_no_better", .glo "kept_ways", .glo "cases_above", .glo "share_paper", .glo "is_case_row", .glo "judge_share", .glo "_law_of", .glo "_law_cut", .glo "_law_before", .glo "_law_greater", .glo "_law_cost", .glo "_law_share", .glo "_law_told", .glo "_law_rents_right", .glo "_law_table", .glo "_law_way", .glo "_law_bars", .glo "_law_papers_right", .glo "law", .free "abs", .free "all", .free "any", .free "bool", .free "dict", .free "enumerate", .free "int", .free "isinstance", .free "len", .free "list", .free "max", .free "min", .free "range", .free "repr", .free "sorted", .free "str", .free "tuple", .free "zip"]
abbrev RD : PySem.W.OpenRow := PySem.W.OpenLaw.row PySem.Challenge.rw_beforeitcomes_k48_whole_ends_known_far
abbrev hkD : PySem.W.Hook := He.hookD 4 faD fnD
def obD (s : PySem.W.SharedT) : He.AlD := He.obsDG 4 faD fnD (HandSHeadRun.getT s)
theorem obD_eq (s : PySem.W.SharedT) : obD s = hkD.obs s.abs := He.obsDG_eq (HandSHeadRun.getT_eq s)
theorem runD (w : World) : HandSHeadRun.RunEq RD (PySem.W.view RD.prog [39]) hkD obD 4000 ([("_law_source" : PySem.Str), ("_law_pick" : PySem.Str), ("share_number" : PySem.Str), ("is_less_share" : PySem.Str), ("greater_share" : PySem.Str), ("rent_cost" : PySem.Str), ("rent_share" : PySem.Str), ("least_rent_share" : PySem.Str), ("known_share" : PySem.Str), ("told_known_way" : PySem.Str), ("least_known_share" : PySem.Str), ("is_cost" : PySem.Str), ("least_costs" : PySem.Str), ("way_share" : PySem.Str), ("best_way" : PySem.Str), ("least_share" : PySem.Str), ("is_no_better" : PySem.Str), ("kept_ways" : PySem.Str), ("cases_above" : PySem.Str), ("share_paper" : PySem.Str), ("is_case_row" : PySem.Str), ("judge_share" : PySem.Str), ("_law_of" : PySem.Str), ("_law_cut" : PySem.Str), ("_law_before" : PySem.Str), ("_law_greater" : PySem.Str), ("_law_cost" : PySem.Str), ("_law_share" : PySem.Str), ("_law_told" : PySem.Str), ("_law_rents_right" : PySem.Str), ("_law_table" : PySem.Str), ("_law_way" : PySem.Str), ("_law_bars" : PySem.Str), ("_law_papers_right" : PySem.Str)] : List Str) w := by
  intro os
  kernel_rfl
theorem factsD {P : Program} {w : World} {K : PySem.W.Frag} {h : Heap} {mg : Str → Option Value} {f : Addr} (X : K.In h) (G : h.Ns mainGlobals mg) (hfa : mg ("law" : Str) = some (.ref f)) (c : He.SaysD faD fnD K) :
    ∃ fd : FuncData, (∀ (s : Shared) (v : Value), BindsTo s fd ⟨[v], []⟩ [("script", v)]) ∧ ∀ base : Heap, K.In base → base.Ns mainGlobals mg → FnG P w K mg base 7 f fd ["script"] (spLaw K) := by
  obtain ⟨fd__law_source, F__law_source⟩ := c.def_ 0 (d := dD__law_source) rfl
  have m__law_source := He.glo_ok X G (c.fact 0 (f := .glo "_law_source") rfl)
  obtain ⟨fd__law_pick, F__law_pick⟩ := c.def_ 1 (d := dD__law_pick) rfl
  have m__law_pick := He.glo_ok X G (c.fact 1 (f := .glo "_law_pick") rfl)
  obtain ⟨fd_share_number, F_share_number⟩ := c.def_ 2 (d := dD_share_number) rfl
  have m_share_number := He.glo_ok X G (c.fact 2 (f := .glo "share_number") rfl)
  obtain ⟨fd_is_less_share, F_is_less_share⟩ := c.def_ 3 (d := dD_is_less_share) rfl
  have m_is_less_share := He.glo_ok X G (c.fact 3 (f := .glo "is_less_share") rfl)
  obtain ⟨fd_greater_share, F_greater_share⟩ := c.def_ 4 (d := dD_greater_share) rfl
  have m_greater_share := He.glo_ok X G (c.fact 4 (f := .glo "greater_share") rfl)
  obtain ⟨fd_rent_cost, F_rent_cost⟩ := c.def_ 5 (d := dD_rent_cost) rfl
  have m_rent_cost := He.glo_ok X G (c.fact 5 (f := .glo "rent_cost") rfl)
  obtain ⟨fd_rent_share, F_rent_share⟩ := c.def_ 6 (d := dD_rent_share) rfl
  have m_rent_share := He.glo_ok X G (c.fact 6 (f := .glo "rent_share") rfl)
  obtain ⟨fd_least_rent_share, F_least_rent_share⟩ := c.def_ 7 (d := dD_least_rent_share) rfl
  have m_least_rent_share := He.glo_ok X G (c.fact 7 (f := .glo "least_rent_share") rfl)
  obtain ⟨fd_known_share, F_known_share⟩ := c.def_ 8 (d := dD_known_share) rfl
  have m_known_share := He.glo_ok X G (c.fact 8 (f := .glo "known_share") rfl)
  obtain ⟨fd_told_known_way, F_told_known_way⟩ := c.def_ 9 (d := dD_told_known_way) rfl
  have m_told_known_way := He.glo_ok X G (c.fact 9 (f := .glo "told_known_way") rfl)
  obtain ⟨fd_least_known_share, F_least_known_share⟩ := c.def_ 10 (d := dD_least_known_share) rfl
  have m_least_known_share := He.glo_ok X G (c.fact 10 (f := .glo "least_known_share") rfl)
  obtain ⟨fd_is_cost, F_is_cost⟩ := c.def_ 11 (d := dD_is_cost) rfl
  have m_is_cost := He.glo_ok X G (c.fact 11 (f := .glo "is_cost") rfl)
  obtain ⟨fd_least_costs, F_least_costs⟩ := c.def_ 12 (d := dD_least_costs) rfl
  have m_least_costs := He.glo_ok X G (c.fact 12 (f := .glo "least_costs") rfl)
  obtain ⟨fd_way_share, F_way_share⟩ := c.def_ 13 (d := dD_way_share) rfl
  have m_way_share := He.glo_ok X G (c.fact 13 (f := .glo "way_share") rfl)
  obtain ⟨fd_best_way, F_best_way⟩ := c.def_ 14 (d := dD_best_way) rfl
  have m_best_way := He.glo_ok X G (c.fact 14 (f := .glo "best_way") rfl)
  obtain ⟨fd_least_share, F_least_share⟩ := c.def_ 15 (d := dD_least_share) rfl
  have m_least_share := He.glo_ok X G (c.fact 15 (f := .glo "least_share") rfl)
  obtain ⟨fd_is_no_better, F_is_no_better⟩ := c.def_ 16 (d := dD_is_no_better) rfl
  have m_is_no_better := He.glo_ok X G (c.fact 16 (f := .glo "is_no_better") rfl)
  obtain ⟨fd_kept_ways, F_kept_ways⟩ := c.def_ 17 (d := dD_kept_ways) rfl
  have m_kept_ways := He.glo_ok X G (c.fact 17 (f := .glo "kept_ways") rfl)
  obtain ⟨fd_cases_above, F_cases_above⟩ := c.def_ 18 (d := dD_cases_above) rfl
  have m_cases_above := He.glo_ok X G (c.fact 18 (f := .glo "cases_above") rfl)
  obtain ⟨fd_share_paper, F_share_paper⟩ := c.def_ 19 (d := dD_share_paper) rfl
  have m_share_paper := He.glo_ok X G (c.fact 19 (f := .glo "share_paper") rfl)
  obtain ⟨fd_is_case_row, F_is_case_row⟩ := c.def_ 20 (d := dD_is_case_row) rfl
  have m_is_case_row := He.glo_ok X G (c.fact 20 (f := .glo "is_case_row") rfl)
  obtain ⟨fd_judge_share, F_judge_share⟩ := c.def_ 21 (d := dD_judge_share) rfl
  have m_judge_share := He.glo_ok X G (c.fact 21 (f := .glo "judge_share") rfl)
  obtain ⟨fd__law_of, F__law_of⟩ := c.def_ 22 (d := dD__law_of) rfl
  have m__law_of := He.glo_ok X G (c.fact 22 (f := .glo "_law_of") rfl)
  obtain ⟨fd__law_cut, F__law_cut⟩ := c.def_ 23 (d := dD__law_cut) rfl
  have m__law_cut := He.glo_ok X G (c.fact 23 (f := .glo "_law_cut") rfl)
  obtain ⟨fd__law_before, F__law_before⟩ := c.def_ 24 (d := dD__law_before) rfl
  have m__law_before := He.glo_ok X G (c.fact 24 (f := .glo "_law_before") rfl)
  obtain ⟨fd__law_greater, F__law_greater⟩ := c.def_ 25 (d := dD__law_greater) rfl
  have m__law_greater := He.glo_ok X G (c.fact 25 (f := .glo "_law_greater") rfl)
  obtain ⟨fd__law_cost, F__law_cost⟩ := c.def_ 26 (d := dD__law_cost) rfl
  have m__law_cost := He.glo_ok X G (c.fact 26 (f := .glo "_law_cost") rfl)
  obtain ⟨fd__law_share, F__law_share⟩ := c.def_ 27 (d := dD__law_share) rfl
  have m__law_share := He.glo_ok X G (c.fact 27 (f := .glo "_law_share") rfl)
  obtain ⟨fd__law_told, F__law_told⟩ := c.def_ 28 (d := dD__law_told) rfl
  have m__law_told := He.glo_ok X G (c.fact 28 (f := .glo "_law_told") rfl)
  obtain ⟨fd__law_rents_right, F__law_rents_right⟩ := c.def_ 29 (d := dD__law_rents_right) rfl
  have m__law_rents_right := He.glo_ok X G (c.fact 29 (f := .glo "_law_rents_right") rfl)
  obtain ⟨fd__law_table, F__law_table⟩ := c.def_ 30 (d := dD__law_table) rfl
  have m__law_table := He.glo_ok X G (c.fact 30 (f := .glo "_law_table") rfl)
  obtain ⟨fd__law_way, F__law_way⟩ := c.def_ 31 (d := dD__law_way) rfl
  have m__law_way := He.glo_ok X G (c.fact 31 (f := .glo "_law_way") rfl)
  obtain ⟨fd__law_bars, F__law_bars⟩ := c.def_ 32 (d := dD__law_bars) rfl
  have m__law_bars := He.glo_ok X G (c.fact 32 (f := .glo "_law_bars") rfl)
  obtain ⟨fd__law_papers_right, F__law_papers_right⟩ := c.def_ 33 (d := dD__law_papers_right) rfl
  have m__law_papers_right := He.glo_ok X G (c.fact 33 (f := .glo "_law_papers_right") rfl)
  obtain ⟨fd, F⟩ := c.def_ 34 (d := dD_law) rfl
  have e := hfa.symm.trans (He.glo_ok X G (c.fact 34 (f := .glo "law") rfl))
  cases e
  have g_abs := He.free_ok X G (c.fact 35 (f := .free "abs") rfl)
  have g_all := He.free_ok X G (c.fact 36 (f := .free "all") rfl)
  have g_any := He.free_ok X G (c.fact 37 (f := .free "any") rfl)
  have g_bool := He.free_ok X G (c.fact 38 (f := .free "bool") rfl)
  have g_dict := He.free_ok X G (c.fact 39 (f := .free "dict") rfl)
  have g_enumerate := He.free_ok X G (c.fact 40 (f := .free "enumerate") rfl)
  have g_int := He.free_ok X G (c.fact 41 (f := .free "int") rfl)
  have g_isinstance := He.free_ok X G (c.fact 42 (f := .free "isinstance") rfl)
  have g_len := He.free_ok X G (c.fact 43 (f := .free "len") rfl)
  have g_list := He.free_ok X G (c.fact 44 (f := .free "list") rfl)
  have g_max := He.free_ok X G (c.fact 45 (f := .free "max") rfl)
  have g_min := He.free_ok X G (c.fact 46 (f := .free "min") rfl)
  have g_range := He.free_ok X G (c.fact 47 (f := .free "range") rfl)
  have g_repr := He.free_ok X G (c.fact 48 (f := .free "repr") rfl)
  have g_sorted := He.free_ok X G (c.fact 49 (f := .free "sorted") rfl)
  have g_str := He.free_ok X G (c.fact 50 (f := .free "str") rfl)
  have g_tuple := He.free_ok X G (c.fact 51 (f := .free "tuple") rfl)
  have g_zip := He.free_ok X G (c.fact 52 (f := .free "zip") rfl)
  have b := FunD.bindsA (ps := ["script"]) F fun _ _ _ _ _ _ us hl => match us, hl with | [_], _ => rfl
  refine ⟨fd, fun s v => b s [v] rfl, fun base _ _ => ?_⟩
  have Go := c__law_source (P := P) (w := w) (K := K) (mg := mg) (base := base) F__law_source m__law_source g_abs g_int
  have C__law_pick := CalG.of (c__law_pick (P := P) (w := w) (K := K) (mg := mg) (base := base) F__law_pick m__law_pick g_len g_int g_max)
  have C_share_number := c_share_number (P := P) (w := w) (K := K) (mg := mg) (base := base) F_share_number m_share_number g_abs
  have C_is_less_share := c_is_less_share (P := P) (w := w) (K := K) (mg := mg) (base := base) F_is_less_share m_is_less_share 
  have C_greater_share := c_greater_share (P := P) (w := w) (K := K) (mg := mg) (base := base) F_greater_share m_greater_share C_is_less_share
  have C_rent_cost := c_rent_cost (P := P) (w := w) (K := K) (mg := mg) (base := base) F_rent_cost m_rent_cost 
  have C_rent_share := c_rent_share (P := P) (w := w) (K := K) (mg := mg) (base := base) F_rent_share m_rent_share g_min C_share_number
  have C_least_rent_share := c_least_rent_share (P := P) (w := w) (K := K) (mg := mg) (base := base) F_least_rent_share m_least_rent_share C_rent_share
  have C_known_share := c_known_share (P := P) (w := w) (K := K) (mg := mg) (base := base) F_known_share m_known_share g_max g_min C_greater_share C_share_number
  have C_told_known_way := c_told_known_way (P := P) (w := w) (K := K) (mg := mg) (base := base) F_told_known_way m_told_known_way g_min C_is_less_share C_known_share
  have C_least_known_share := c_least_known_share (P := P) (w := w) (K := K) (mg := mg) (base := base) F_least_known_share m_least_known_share C_known_share C_told_known_way
  have C_is_cost := c_is_cost (P := P) (w := w) (K := K) (mg := mg) (base := base) F_is_cost m_is_cost g_bool g_int g_isinstance
  have C_least_costs := c_least_costs (P := P) (w := w) (K := K) (mg := mg) (base := base) F_least_costs m_least_costs g_len g_min g_range g_tuple
  have C_way_share := c_way_share (P := P) (w := w) (K := K) (mg := mg) (base := base) F_way_share m_way_share g_zip C_greater_share C_least_costs C_share_number
  have C_best_way := c_best_way (P := P) (w := w) (K := K) (mg := mg) (base := base) F_best_way m_best_way g_len g_range C_is_less_share C_way_share
  have C_least_share := c_least_share (P := P) (w := w) (K := K) (mg := mg) (base := base) F_least_share m_least_share C_best_way C_way_share
  have C_is_no_better := c_is_no_better (P := P) (w := w) (K := K) (mg := mg) (base := base) F_is_no_better m_is_no_better g_all g_zip
  have C_kept_ways := c_kept_ways (P := P) (w := w) (K := K) (mg := mg) (base := base) F_kept_ways m_kept_ways g_any g_len g_list g_range g_tuple C_is_no_better
  have C_cases_above := c_cases_above (P := P) (w := w) (K := K) (mg := mg) (base := base) F_cases_above m_cases_above g_enumerate g_zip C_least_costs
  have C_share_paper := c_share_paper (P := P) (w := w) (K := K) (mg := mg) (base := base) F_share_paper m_share_paper g_enumerate g_len g_range g_tuple C_cases_above
  have C_is_case_row := c_is_case_row (P := P) (w := w) (K := K) (mg := mg) (base := base) F_is_case_row m_is_case_row g_all g_isinstance g_len g_tuple C_is_cost
  have C_judge_share := c_judge_share (P := P) (w := w) (K := K) (mg := mg) (base := base) F_judge_share m_judge_share g_enumerate g_isinstance g_len g_str g_tuple C_cases_above C_is_case_row C_is_cost
  have C__law_of := c__law_of (P := P) (w := w) (K := K) (mg := mg) (base := base) F__law_of m__law_of g_len C__law_pick
  have C__law_cut := c__law_cut (P := P) (w := w) (K := K) (mg := mg) (base := base) F__law_cut m__law_cut g_abs g_int
  have C__law_before := c__law_before (P := P) (w := w) (K := K) (mg := mg) (base := base) F__law_before m__law_before 
  have C__law_greater := c__law_greater (P := P) (w := w) (K := K) (mg := mg) (base := base) F__law_greater m__law_greater C__law_before
  have C__law_cost := c__law_cost (P := P) (w := w) (K := K) (mg := mg) (base := base) F__law_cost m__law_cost 
  have C__law_share := c__law_share (P := P) (w := w) (K := K) (mg := mg) (base := base) F__law_share m__law_share g_max g_min C__law_cost C__law_cut C__law_greater
  have C__law_told := c__law_told (P := P) (w := w) (K := K) (mg := mg) (base := base) F__law_told m__law_told g_dict g_min g_sorted C__law_before C__law_share
  have C__law_rents_right := c__law_rents_right (P := P) (w := w) (K := K) (mg := mg) (base := base) F__law_rents_right m__law_rents_right g_min g_range g_repr g_zip C__law_before C__law_cost C__law_cut C__law_greater C__law_of C__law_pick C__law_share C__law_told C_known_share C_least_known_share C_least_rent_share C_rent_cost C_rent_share C_told_known_way
  have C__law_table := c__law_table (P := P) (w := w) (K := K) (mg := mg) (base := base) F__law_table m__law_table g_range g_tuple C__law_of C__law_pick
  have C__law_way := c__law_way (P := P) (w := w) (K := K) (mg := mg) (base := base) F__law_way m__law_way g_zip C__law_cut C__law_greater
  have C__law_bars := c__law_bars (P := P) (w := w) (K := K) (mg := mg) (base := base) F__law_bars m__law_bars g_enumerate
  have C__law_papers_right := c__law_papers_right (P := P) (w := w) (K := K) (mg := mg) (base := base) F__law_papers_right m__law_papers_right g_enumerate g_len g_min g_range g_repr g_tuple C__law_bars C__law_before C__law_cut C__law_of C__law_pick C__law_table C__law_way C_best_way C_judge_share C_kept_ways C_least_costs C_least_share C_share_paper C_way_share
  exact c_law (P := P) (w := w) F F__law_source m__law_source Go C__law_papers_right C__law_rents_right law_true
end K48
open PySem PySem.W PySem.Calls PyProof.Rows
theorem PySem.Challenge.cw_beforeitcomes_k48_whole_ends_known_far_holds : PySem.Challenge.rw_beforeitcomes_k48_whole_ends_known_far.Holds := by
  w_on; o_law
  refine HandSHeadRun.head_any (r := OpenLaw.row PySem.Challenge.rw_beforeitcomes_k48_whole_ends_known_far) (q := view (OpenLaw.row PySem.Challenge.rw_beforeitcomes_k48_whole_ends_known_far).prog [39]) (H := K48.hkD) (ob := K48.obD) (M := 4000) (loose := ([("_law_source" : PySem.Str), ("_law_pick" : PySem.Str), ("share_number" : PySem.Str), ("is_less_share" : PySem.Str), ("greater_share" : PySem.Str), ("rent_cost" : PySem.Str), ("rent_share" : PySem.Str), ("least_rent_share" : PySem.Str), ("known_share" : PySem.Str), ("told_known_way" : PySem.Str), ("least_known_share" : PySem.Str), ("is_cost" : PySem.Str), ("least_costs" : PySem.Str), ("way_share" : PySem.Str), ("best_way" : PySem.Str), ("least_share" : PySem.Str), ("is_no_better" : PySem.Str), ("kept_ways" : PySem.Str), ("cases_above" : PySem.Str), ("share_paper" : PySem.Str), ("is_case_row" : PySem.Str), ("judge_share" : PySem.Str), ("_law_of" : PySem.Str), ("_law_cut" : PySem.Str), ("_law_before" : PySem.Str), ("_law_greater" : PySem.Str), ("_law_cost" : PySem.Str), ("_law_share" : PySem.Str), ("_law_told" : PySem.Str), ("_law_rents_right" : PySem.Str), ("_law_table" : PySem.Str), ("_law_way" : PySem.Str), ("_law_bars" : PySem.Str), ("_law_papers_right" : PySem.Str)] : List PySem.Str)) (d := HandSHeadRun.topDef (OpenLaw.row PySem.Challenge.rw_beforeitcomes_k48_whole_ends_known_far).prog 39) (kwd := []) K48.obD_eq
    (by kernel_rfl) (fun s => by kernel_rfl) K48.runD (by kernel_rfl) (by kernel_rfl) (by kernel_rfl) (by rfl) (by first | assumption | decide +kernel) (by decide +kernel) ⟨rfl, rfl, rfl, rfl, rfl, by decide +kernel⟩ ?hw ?hc
  case hw => w_witness2
  case hc =>
    refine DL.walk_ofG (l := PySem.Challenge.rw_beforeitcomes_k48_whole_ends_known_far) (n := 63) (k := 7) (x := "script") rfl (by decide) (by kernel_rfl) ⟨⟨rfl, by decide, by decide⟩, rfl⟩ ?F
    intro w mg fa h Y G hmg0
    obtain ⟨K, KX, c⟩ := Y
    have hmg : mg ("law" : PySem.Str) = some (.ref fa) := by
      have e : (HandSHeadRun.topDef (OpenLaw.row PySem.Challenge.rw_beforeitcomes_k48_whole_ends_known_far).prog 39).name = ("law" : PySem.Str) := by kernel_rfl
      rw [← e]
      exact hmg0
    obtain ⟨fd, hb, hF⟩ := K48.factsD (P := (PySem.Challenge.rw_beforeitcomes_k48_whole_ends_known_far).prog) (w := w) KX G hmg c
    exact ⟨K, fd, K48.spLaw K, KX, hb, fun H a ns hl hle hS => ⟨a, ns, rfl, by omega, hS, fun _ => rfl⟩, hF⟩

