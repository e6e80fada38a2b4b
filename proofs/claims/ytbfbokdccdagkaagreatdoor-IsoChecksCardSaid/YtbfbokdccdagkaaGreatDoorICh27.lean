/- Part 27: BijM. Conditions: as each part says. -/
import Derived.Test.YtbfbokdccdagkaaGreatDoorICh8
set_option linter.unusedVariables false
set_option linter.unusedSimpArgs false
set_option linter.unusedSectionVars false
namespace Go.Our
def bijM (x y : List (List UInt8)) (ps : List Pr) : Bool :=
 decide (ps.length = x.length) && decide (x.length = y.length) && decide ((ps.map Prod.fst).mergeSort (leC cmpL) = x) && decide ((ps.map Prod.snd).mergeSort (leC cmpL) = y)
section
variable {α : Type} [DecidableEq α] {c : α → α → Int}
theorem UW (h : Tri c) {l : List α} (hl : Rise c l) : l.Nodup := List.Pairwise.imp (fun h1 => h.ne h1) hl
theorem Z3i (h : Tri c) : ∀ {l m : List α}, l.Pairwise (fun a b => c a b ≤ 0) → m.Pairwise (fun a b => c a b ≤ 0) → l.Perm m → l = m
 | [], m, _, _, hp => (List.nil_perm.1 hp).symm
 | x :: l, [], _, _, hp => by have := hp.length_eq; simp at this
 | x :: l, y :: m, hl, hm, hp => by
   have hl' := List.pairwise_cons.1 hl
   have hm' := List.pairwise_cons.1 hm
   have h1 : c x y ≤ 0 := by
     rcases List.mem_cons.1 (hp.mem_iff.2 (List.mem_cons_self ..) : y ∈ x :: l) with e | e
     · rw [e, h.self]; omega
     · exact hl'.1 _ e
   have h2 : c y x ≤ 0 := by
     rcases List.mem_cons.1 (hp.mem_iff.1 (List.mem_cons_self ..) : x ∈ y :: m) with e | e
     · rw [e, h.self]; omega
     · exact hm'.1 _ e
   have e : x = y := (h.zero x y).1 (by have := h.anti x y; omega)
   subst e
   rw [Z3i h hl'.2 hm'.2 (List.perm_cons _ |>.1 hp)]
theorem Z5w (h : Tri c) (l : List α) : (l.mergeSort (leC c)).Pairwise (fun a b => c a b ≤ 0) := by
 have := List.pairwise_mergeSort (le := leC c) (fun a b d h1 h2 => by rw [VP h] at *; exact h.trans a b d h1 h2) (fun a b => by
   have := h.anti a b
   rw [Bool.or_eq_true, VP h, VP h]; omega) l
 exact this.imp fun h1 => (VP h).1 h1
theorem Z7c (h : Tri c) {l x : List α} (hx : Rise c x) : l.mergeSort (leC c) = x ↔ l.Perm x :=
 ⟨fun e => by rw [← e]; exact (List.mergeSort_perm l _).symm, fun hp => Z3i h (Z5w h l) (hx.imp fun h1 => by omega) ((List.mergeSort_perm l _).trans hp)⟩
theorem Z6o : ∀ {x l : List α}, x.Nodup → l.length = x.length → (∀ z ∈ x, z ∈ l) → l.Perm x
 | [], l, _, hl, _ => by
   have : l = [] := List.length_eq_zero_iff.1 (by simpa using hl)
   rw [this]
 | z :: x, l, hn, hl, hs => by
   have hn' := List.nodup_cons.1 hn
   have hz := hs z (List.mem_cons_self ..)
   have := Z6o (x := x) (l := l.erase z) hn'.2 (by rw [List.length_erase_of_mem hz, hl]; simp) (fun w hw => (List.mem_erase_of_ne (fun (e : w = z) => hn'.1 (by rw [← e]; exact hw))).2 (hs w (List.mem_cons_of_mem _ hw)))
   exact (List.perm_cons_erase hz).trans (this.cons z)
theorem Zax (h : Tri c) {l x : List α} (hx : Rise c x) (hl : l.length = x.length) : l.mergeSort (leC c) = x ↔ ∀ z ∈ x, z ∈ l :=
 (Z7c h hx).trans ⟨fun hp z hz => hp.mem_iff.2 hz, Z6o (UW h hx) hl⟩
end
theorem Z5x : ∀ {x : List (List UInt8)} {z : List UInt8}, x.Nodup → z ∈ x → x.count z = 1
 | a :: x, z, hn, hz => by
   have hn' := List.nodup_cons.1 hn
   rw [List.count_cons]
   by_cases e : a = z
   · subst e
     rw [List.count_eq_zero.2 hn'.1]; simp
   · rw [Z5x hn'.2 ((List.mem_cons.1 hz).resolve_left fun h => e h.symm)]
     simp [e]
theorem Z9B {l x : List (List UInt8)} (hx : Rise cmpL x) (hl : l.length = x.length) : l.mergeSort (leC cmpL) = x ↔ ∀ z ∈ x, l.count z = 1 :=
 (Z7c triL hx).trans ⟨fun hp z hz => by rw [hp.count_eq]; exact Z5x (UW triL hx) hz, fun hc => Z6o (UW triL hx) hl fun z hz => List.count_pos_iff.1 (by rw [hc z hz]; omega)⟩
theorem ZbO {x y : List (List UInt8)} {ps : List Pr} (hx : Rise cmpL x) (hy : Rise cmpL y) (h1 : ps.length = x.length) (h2 : x.length = y.length) :
   bijM x y ps = true ↔ ∀ i (hi : i < x.length), x[i] ∈ ps.map Prod.fst ∧ (ps.map Prod.snd).count (y[i]'(h2 ▸ hi)) = 1 := by
 unfold bijM
 simp only [Bool.and_eq_true, decide_eq_true_eq]
 rw [Zax triL hx (by simpa using h1), Z9B hy (by simpa using h1.trans h2)]
 constructor
 · rintro ⟨⟨_, h3⟩, h4⟩ i hi
   exact ⟨h3 _ (List.getElem_mem _), h4 _ (List.getElem_mem _)⟩
 · intro h
   refine ⟨⟨⟨h1, h2⟩, fun z hz => ?_⟩, fun z hz => ?_⟩
   · obtain ⟨i, hi, rfl⟩ := List.mem_iff_getElem.1 hz
     exact (h i hi).1
   · obtain ⟨i, hi, rfl⟩ := List.mem_iff_getElem.1 hz
     exact (h i (h2 ▸ hi)).2
theorem Z7d {x y : List (List UInt8)} {ps : List Pr} (h : ¬ ps.length = x.length) : bijM x y ps = false := by unfold bijM; simp [h]
theorem Z7e {x y : List (List UInt8)} {ps : List Pr} (h : ¬ x.length = y.length) : bijM x y ps = false := by unfold bijM; simp [h]
theorem Z9C {ps : List Pr} {i : Nat} (h : i < ps.length) (z : List UInt8) : ((ps.take (i + 1)).map Prod.snd).count z = ((ps.take i).map Prod.snd).count z + if ps[i].2 = z then 1 else 0 := by
 rw [List.take_succ_eq_append_getElem h, List.map_append, List.count_append, List.map_singleton, List.count_singleton]
 simp only [beq_iff_eq]
end Go.Our
