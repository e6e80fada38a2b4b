/- Terms and quads in plain words: their order is one total order. No program in sight. -/
import Derived.Lib.Bytealg
namespace Go.Our

structure Term where
  kind : Int
  text : ByteArray
  type : ByteArray
  lang : ByteArray
  deriving DecidableEq
structure Quad where
  s : Term
  p : Term
  o : Term
  g : Term
  deriving DecidableEq

theorem ba_ext {a b : ByteArray} (h : a.data.toList = b.data.toList) : a = b := by
  cases a; cases b; simp at h; simp [h]

/-! ### Three-way comparisons -/
structure Tri {α : Type} (c : α → α → Int) : Prop where
  rng : ∀ a b, c a b = -1 ∨ c a b = 0 ∨ c a b = 1
  anti : ∀ a b, c b a = - c a b
  zero : ∀ a b, c a b = 0 ↔ a = b
  trans : ∀ a b d, c a b ≤ 0 → c b d ≤ 0 → c a d ≤ 0

def cmpI (a b : Int) : Int := if a < b then -1 else if a > b then 1 else 0
theorem triI : Tri cmpI where
  rng a b := by unfold cmpI; (repeat' split) <;> omega
  anti a b := by unfold cmpI; (repeat' split) <;> omega
  zero a b := by unfold cmpI; (repeat' split) <;> omega
  trans a b d := by unfold cmpI; (repeat' split) <;> omega

open Lib (compareBytes)
theorem cb_rng : ∀ a b, compareBytes a b = -1 ∨ compareBytes a b = 0 ∨ compareBytes a b = 1
  | [], [] => by simp [compareBytes]
  | [], _ :: _ => by simp [compareBytes]
  | _ :: _, [] => by simp [compareBytes]
  | a :: as_, b :: bs => by
    unfold compareBytes
    split
    · simp
    · split
      · simp
      · exact cb_rng as_ bs
theorem cb_anti : ∀ a b, compareBytes b a = - compareBytes a b
  | [], [] => by simp [compareBytes]
  | [], _ :: _ => by simp [compareBytes]
  | _ :: _, [] => by simp [compareBytes]
  | a :: as_, b :: bs => by
    unfold compareBytes
    simp only [UInt8.lt_iff_toNat_lt]
    by_cases h : a.toNat < b.toNat
    · have : ¬ b.toNat < a.toNat := by omega
      simp [h, this]
    · by_cases h' : b.toNat < a.toNat
      · simp [h, h']
      · simp only [h, h', if_false]; exact cb_anti as_ bs
theorem cb_zero : ∀ a b, compareBytes a b = 0 ↔ a = b
  | [], [] => by simp [compareBytes]
  | [], _ :: _ => by simp [compareBytes]
  | _ :: _, [] => by simp [compareBytes]
  | a :: as_, b :: bs => by
    unfold compareBytes
    simp only [UInt8.lt_iff_toNat_lt, List.cons.injEq, ← UInt8.toNat_inj]
    by_cases h : a.toNat < b.toNat
    · simp [h]; omega
    · by_cases h' : b.toNat < a.toNat
      · simp [h, h']; omega
      · have : a.toNat = b.toNat := by omega
        simp only [this, Nat.lt_irrefl, if_false, true_and]; exact cb_zero as_ bs
theorem cb_trans : ∀ a b c, compareBytes a b ≤ 0 → compareBytes b c ≤ 0 → compareBytes a c ≤ 0
  | [], _, [] => by simp [compareBytes]
  | [], _, _ :: _ => by simp [compareBytes]
  | _ :: _, [], _ => by simp [compareBytes]
  | _ :: _, _ :: _, [] => by simp [compareBytes]
  | a :: as_, b :: bs, c :: cs => by
    unfold compareBytes
    simp only [UInt8.lt_iff_toNat_lt]
    have ih := cb_trans as_ bs cs
    (repeat' split) <;> first | omega | (intro x y; first | exact ih x y | omega)
def cmpB (a b : ByteArray) : Int := compareBytes a.data.toList b.data.toList
theorem triB : Tri cmpB where
  rng a b := cb_rng _ _
  anti a b := cb_anti _ _
  zero a b := by unfold cmpB; rw [cb_zero]; exact ⟨ba_ext, fun h => by rw [h]⟩
  trans a b d := cb_trans _ _ _

/-- First by the one, then by the other. -/
def pairCmp {β γ : Type} (c : β → β → Int) (d : γ → γ → Int) (a b : β × γ) : Int := if c a.1 b.1 ≠ 0 then c a.1 b.1 else d a.2 b.2
theorem tri_pair {β γ : Type} {c : β → β → Int} {d : γ → γ → Int} (hc : Tri c) (hd : Tri d) : Tri (pairCmp c d) where
  rng a b := by unfold pairCmp; split <;> first | exact hc.rng _ _ | exact hd.rng _ _
  anti a b := by
    unfold pairCmp
    rw [hc.anti a.1 b.1, hd.anti a.2 b.2]
    by_cases h : c a.1 b.1 = 0
    · simp [h]
    · have : ¬ - c a.1 b.1 = 0 := by omega
      simp [h, this]
  zero a b := by
    unfold pairCmp
    by_cases h : c a.1 b.1 = 0
    · simp only [h, ne_eq, not_true_eq_false, if_false]
      rw [hd.zero]
      have hf := (hc.zero _ _).1 h
      exact ⟨fun hg => Prod.ext hf hg, fun e => by rw [e]⟩
    · simp only [ne_eq, h, not_false_eq_true, if_true, false_iff]
      intro e; subst e
      exact h ((hc.zero _ _).2 rfl)
  trans a b e := by
    unfold pairCmp
    intro h1 h2
    have r1 := hc.rng a.1 b.1; have r2 := hc.rng b.1 e.1
    have t1 := hc.trans a.1 b.1 e.1
    by_cases x : c a.1 b.1 = 0
    · have ex := (hc.zero _ _).1 x
      simp only [x, ne_eq, not_true_eq_false, if_false] at h1
      rw [ex]
      by_cases y : c b.1 e.1 = 0
      · simp only [y, ne_eq, not_true_eq_false, if_false] at h2 ⊢
        exact hd.trans _ _ _ h1 h2
      · simp only [ne_eq, y, not_false_eq_true, if_true] at h2 ⊢
        exact h2
    · simp only [ne_eq, x, not_false_eq_true, if_true] at h1
      by_cases y : c b.1 e.1 = 0
      · have ey := (hc.zero _ _).1 y
        rw [← ey]
        simp only [ne_eq, x, not_false_eq_true, if_true]; exact h1
      · simp only [ne_eq, y, not_false_eq_true, if_true] at h2
        have hle := t1 h1 h2
        have hne : c a.1 e.1 ≠ 0 := by
          intro hz
          have e1 := (hc.zero _ _).1 hz
          rw [← e1] at h2 y
          have := hc.anti a.1 b.1
          omega
        simp only [ne_eq, hne, not_false_eq_true, if_true]; exact hle
theorem tri_map {α β : Type} {c : β → β → Int} (hc : Tri c) (f : α → β) (hf : ∀ a b, f a = f b → a = b) : Tri (fun a b => c (f a) (f b)) where
  rng a b := hc.rng _ _
  anti a b := hc.anti _ _
  zero a b := by rw [hc.zero]; exact ⟨hf a b, fun e => by rw [e]⟩
  trans a b d := hc.trans _ _ _

/-! ### The order of terms and of quads -/
def Term.key (t : Term) : Int × ByteArray × ByteArray × ByteArray := (t.kind, t.text, t.type, t.lang)
def termCmp (a b : Term) : Int := pairCmp cmpI (pairCmp cmpB (pairCmp cmpB cmpB)) a.key b.key
theorem triT : Tri termCmp := tri_map (tri_pair triI (tri_pair triB (tri_pair triB triB))) Term.key (fun a b h => by
  cases a; cases b; simp [Term.key] at h; simp [h])
def Quad.key (q : Quad) : Term × Term × Term × Term := (q.g, q.s, q.p, q.o)
def quadCmp (a b : Quad) : Int := pairCmp termCmp (pairCmp termCmp (pairCmp termCmp termCmp)) a.key b.key
theorem triQ : Tri quadCmp := tri_map (tri_pair triT (tri_pair triT (tri_pair triT triT))) Quad.key (fun a b h => by
  cases a; cases b; simp [Quad.key] at h; simp [h])
/-- The first that is not nought. -/
def orI : List Int → Int
  | [] => 0
  | x :: l => if x ≠ 0 then x else orI l
theorem orI_term (a b : Term) : orI [cmpI a.kind b.kind, cmpB a.text b.text, cmpB a.type b.type, cmpB a.lang b.lang] = termCmp a b := by
  simp only [orI, termCmp, pairCmp, Term.key]
  (repeat' split) <;> simp_all
theorem orI_quad (a b : Quad) : orI [termCmp a.g b.g, termCmp a.s b.s, termCmp a.p b.p, termCmp a.o b.o] = quadCmp a b := by
  simp only [orI, quadCmp, pairCmp, Quad.key]
  (repeat' split) <;> simp_all
end Go.Our
