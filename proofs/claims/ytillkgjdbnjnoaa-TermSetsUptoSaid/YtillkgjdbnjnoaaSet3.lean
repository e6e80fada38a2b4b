/- Part 3 of the texts that the last one leans on: Rise7, SetM, SetN, Sort, SxRange, Sets1, Sets2, Sets3, Sets4. Conditions: as each part says. -/
import Derived.Shelf.SlSortCmp.NoneTotal
import Derived.RangeFuncNested
import Derived.Test.YtillkgjdbnjnoaaSet2
/- term: Rises, the program's and the reference's, walked. Conditions: none. -/
set_option linter.unusedVariables false
set_option linter.unusedSimpArgs false
set_option maxRecDepth 20000
namespace Go.Proofs.Ytillkgjdbnjnoaa
open Go.Sx Go.Our
def plRise70 : Plan := (planOf [(0, 1), (1, 1), (2, 1), (3, 1), (4, 1), (6, 1), (7, 1), (8, 1), (5, 2), (9, 2), (10, 3), (11, 1)])
def plRise71 : Plan := (planOf [(0, 1), (1, 1), (2, 1), (3, 1), (5, 1), (6, 1), (7, 1), (4, 2), (8, 2), (9, 3), (10, 1)])
theorem qdRow_get2 {l z : List Qd} {i : Nat} (h : i < l.length) : ((l ++ z).map qdRow)[i]? = some (qdRow l[i]) := by
  rw [List.getElem?_map, List.getElem?_append_left h, List.getElem?_eq_getElem h]; rfl
theorem risesG_does (l z : List Qd) {lim : Option Nat} (hl : QdsOK l) : Does Try.prog tab 94 1 [.sl (.loc 0) 0 16 l.length lim, .fn (.func 32) [] []] [] [(0, .rows 16 ((l ++ z).map qdRow))]
    (ValK 1 (.bool (risesM l 1))) := by
  refine Does.enter tabOK (g := 94) (fn := Try.f94) Try.call94 Try.func94 rfl 24 rfl rfl [.tmp 4] rfl ?_
  intro w0 F η0 h0
  conv => whnf
  refine LOOP.go tabOK [0, 1] (X := Nat) (fun i => 1 ≤ i ∧ (i ≤ l.length ∨ i = 1) ∧ risesM l 1 = risesM l i) (fun i => [(5, .int .i64 (i : Int))]) (fun i => []) 1 (fun i => l.length - i) 1 ⟨by omega, by omega, rfl⟩ ?_
  conv => whnf
  refine ⟨by (refine GOES.cutting h0 rfl rfl rfl (by first | rfl | simp [belowO, belowH, plainLL_below, plainLL_map, plainL, plain]) ?_ ?_ <;> (repeat' (first | (with_reducible rfl) | (exact congrArg (fun n => SV.sl _ _ _ n _) (by simp)) | (exact congrArg (Hp.rows _) (by simp)) | (exact congrArg (SV.int _) (by first | omega | (simp (disch := omega) only [lnB, wrap64, wrap32] <;> omega) | (simp; done) | (simp <;> omega))) | ((conv => whnf); refine ⟨?_, ?_⟩) | exact trivial | (simp; done) | rfl))), ?_⟩
  rintro j ⟨hj1, hj, hf⟩
  conv => whnf
  rcases Nat.lt_or_ge j l.length with hjl | hjl
  · rw [rises_at hjl] at hf
    have hj' : (IntKind.i64.wrap ((j : Int) - 1)).toNat = j - 1 := by rw [wrap64 (by omega) (by omega)]; omega
    repeat' ((first | with_reducible refine IF.tt ?_ | with_reducible refine IF.ff ?_ | refine DRAWN.of (id := 4) tabOK mixed plRise70 (by kernel_rfl) ?_ | with_reducible refine ADD.mk (fun _ _ => ?_) | with_reducible refine NEED.mk (Det.of rfl) ?_ | refine NEED.mk (det_pos (by omega)) ?_ | with_reducible refine FORK.mk ?_ ?_ | (refine GET.at (row := qdRow (l[j]'(by omega))) (by rw [show 0 + (j : Int).toNat = j by omega]; exact qdRow_get2 (by omega)) ?_; conv => whnf) | (refine GET.at (row := qdRow (l[j - 1]'(by omega))) (by rw [show 0 + (IntKind.i64.wrap ((j : Int) - 1)).toNat = j - 1 by omega]; exact qdRow_get2 (by omega)) ?_; conv => whnf) | refine CALL.value (qdCmp_does (l[j - 1]'(by omega)) (l[j]'(by omega))) rfl rfl ?_ | ((with_reducible refine NEED.mk ?_ ?_); (first | with_reducible rfl | omega | (simp (disch := omega) only [lnB, wrap64, wrap32] <;> omega) | (intro h; (try simp (disch := omega) only [hsB, hsC, lnB, wrap64, wrap32, simprocAttr] at h); (first | omega | (simp (disch := omega) only [lnB, wrap64, wrap32] <;> omega))) | (exact needApp 256 rfl rfl (by simp) (by simp) (by omega)) | (exact ⟨by omega, le_reach (by omega)⟩) | (exact ⟨by omega, by omega, le_reach (by omega)⟩) | (simp <;> omega))) | ((with_reducible apply GET.at); rfl) | ((with_reducible apply GETG.at); rfl) | ((with_reducible refine UNK.mk (fun h => ?_) ?_) <;> try (exfalso; omega)) | ((with_reducible refine IF.mk (fun h => ?_) (fun h => ?_)) <;> (try simp (disch := omega) only [hsB, hsC, lnB, wrap64, wrap32, simprocAttr] at h) <;> try (exfalso; omega))) <;> conv => whnf)
    · refine FIN.valueK h0 rfl (congrArg SV.bool ?_)
      rw [hf, decide_eq_false (by omega)]; rfl
    · refine ⟨j + 1, ⟨by omega, by omega, by rw [hf, decide_eq_true (by omega)]; rfl⟩, by omega, ?_⟩
      conv => whnf
      (refine GOES.cutting h0 rfl rfl rfl (by first | rfl | simp [belowO, belowH, plainLL_below, plainLL_map, plainL, plain]) ?_ ?_ <;> (repeat' (first | (with_reducible rfl) | (exact congrArg (fun n => SV.sl _ _ _ n _) (by simp)) | (exact congrArg (Hp.rows _) (by simp)) | (exact congrArg (SV.int _) (by first | omega | (simp (disch := omega) only [lnB, wrap64, wrap32] <;> omega) | (simp; done) | (simp <;> omega))) | ((conv => whnf); refine ⟨?_, ?_⟩) | exact trivial | (simp; done) | rfl)))
  · rw [rises_end hjl] at hf
    repeat' ((first | with_reducible refine IF.tt ?_ | with_reducible refine IF.ff ?_ | ((with_reducible refine NEED.mk ?_ ?_); (first | with_reducible rfl | omega | (simp (disch := omega) only [lnB, wrap64, wrap32] <;> omega) | (intro h; (try simp (disch := omega) only [hsB, hsC, lnB, wrap64, wrap32, simprocAttr] at h); (first | omega | (simp (disch := omega) only [lnB, wrap64, wrap32] <;> omega))) | (exact needApp 256 rfl rfl (by simp) (by simp) (by omega)) | (exact ⟨by omega, le_reach (by omega)⟩) | (exact ⟨by omega, by omega, le_reach (by omega)⟩) | (simp <;> omega))) | ((with_reducible apply GET.at); rfl) | ((with_reducible apply GETG.at); rfl) | ((with_reducible refine UNK.mk (fun h => ?_) ?_) <;> try (exfalso; omega)) | ((with_reducible refine IF.mk (fun h => ?_) (fun h => ?_)) <;> (try simp (disch := omega) only [hsB, hsC, lnB, wrap64, wrap32, simprocAttr] at h) <;> try (exfalso; omega))) <;> conv => whnf)
    exact FIN.valueK h0 rfl (congrArg SV.bool hf.symm)
theorem rises_does (l z : List Qd) {lim : Option Nat} (hl : QdsOK l) : Does Try.prog tab 69 1 [.sl (.loc 0) 0 16 l.length lim] [] [(0, .rows 16 ((l ++ z).map qdRow))]
    (ValK 1 (.bool (risesM l 1))) := by
  refine Does.enter tabOK (g := 69) (fn := Try.f69) Try.call69 Try.func69 rfl 5 rfl rfl [.tmp 2] rfl ?_
  intro w0 F η0 h0
  conv => whnf
  refine CALL.at [0] (risesG_does l z (lim := lim) hl) rfl rfl rfl rfl (by first | rfl | (simp only [belowO, belowH, plainLL_below _ (plainQds _), Bool.and_self, Bool.and_true] <;> rfl)) (by first | rfl | (simp only [belowO, belowH, plainLL_below _ (plainQds _), Bool.and_self, Bool.and_true] <;> rfl)) (by repeat' (first | exact trivial | exact (renH_plain _ (h := .rows _ _) (plainQds _)).symm | exact rfl | exact (renH_plain _ (h := .rows _ _) (plainQds _)).trans (renH_plain _ (h := .rows _ _) (plainQds _)).symm | ((conv => whnf); refine ⟨?_, ?_⟩))) (by repeat' (first | exact trivial | exact (renH_plain _ (h := .rows _ _) (plainQds _)).symm | exact rfl | exact (renH_plain _ (h := .rows _ _) (plainQds _)).trans (renH_plain _ (h := .rows _ _) (plainQds _)).symm | ((conv => whnf); refine ⟨?_, ?_⟩))) rfl rfl ?_
  rintro r O' nx' ⟨rfl, rfl, rfl⟩
  conv => whnf
  exact FIN.valueK h0 rfl rfl
theorem rrises_does (l z : List Qd) {lim : Option Nat} (hl : QdsOK l) : Does Try.prog tab 56 1 [.sl (.loc 0) 0 16 l.length lim] [] [(0, .rows 16 ((l ++ z).map qdRow))]
    (ValK 1 (.bool (risesM l 1))) := by
  refine Does.enter tabOK (g := 56) (fn := Try.f56) Try.call56 Try.func56 rfl 21 rfl rfl [.tmp 2] rfl ?_
  intro w0 F η0 h0
  conv => whnf
  refine LOOP.go tabOK [0] (X := Nat) (fun i => 1 ≤ i ∧ (i ≤ l.length ∨ i = 1) ∧ risesM l 1 = risesM l i) (fun i => [(3, .int .i64 (i : Int))]) (fun i => []) 1 (fun i => l.length - i) 1 ⟨by omega, by omega, rfl⟩ ?_
  conv => whnf
  refine ⟨by (refine GOES.cutting h0 rfl rfl rfl (by first | rfl | simp [belowO, belowH, plainLL_below, plainLL_map, plainL, plain]) ?_ ?_ <;> (repeat' (first | (with_reducible rfl) | (exact congrArg (fun n => SV.sl _ _ _ n _) (by simp)) | (exact congrArg (Hp.rows _) (by simp)) | (exact congrArg (SV.int _) (by first | omega | (simp (disch := omega) only [lnB, wrap64, wrap32] <;> omega) | (simp; done) | (simp <;> omega))) | ((conv => whnf); refine ⟨?_, ?_⟩) | exact trivial | (simp; done) | rfl))), ?_⟩
  rintro j ⟨hj1, hj, hf⟩
  conv => whnf
  rcases Nat.lt_or_ge j l.length with hjl | hjl
  · rw [rises_at hjl] at hf
    have hj' : (IntKind.i64.wrap ((j : Int) - 1)).toNat = j - 1 := by rw [wrap64 (by omega) (by omega)]; omega
    repeat' ((first | with_reducible refine IF.tt ?_ | with_reducible refine IF.ff ?_ | refine DRAWN.of (id := 4) tabOK mixed plRise71 (by kernel_rfl) ?_ | with_reducible refine ADD.mk (fun _ _ => ?_) | with_reducible refine NEED.mk (Det.of rfl) ?_ | refine NEED.mk (det_pos (by omega)) ?_ | with_reducible refine FORK.mk ?_ ?_ | (refine GET.at (row := qdRow (l[j]'(by omega))) (by rw [show 0 + (j : Int).toNat = j by omega]; exact qdRow_get2 (by omega)) ?_; conv => whnf) | (refine GET.at (row := qdRow (l[j - 1]'(by omega))) (by rw [show 0 + (IntKind.i64.wrap ((j : Int) - 1)).toNat = j - 1 by omega]; exact qdRow_get2 (by omega)) ?_; conv => whnf) | refine CALL.value (rqdCmp_does (l[j - 1]'(by omega)) (l[j]'(by omega))) rfl rfl ?_ | ((with_reducible refine NEED.mk ?_ ?_); (first | with_reducible rfl | omega | (simp (disch := omega) only [lnB, wrap64, wrap32] <;> omega) | (intro h; (try simp (disch := omega) only [hsB, hsC, lnB, wrap64, wrap32, simprocAttr] at h); (first | omega | (simp (disch := omega) only [lnB, wrap64, wrap32] <;> omega))) | (exact needApp 256 rfl rfl (by simp) (by simp) (by omega)) | (exact ⟨by omega, le_reach (by omega)⟩) | (exact ⟨by omega, by omega, le_reach (by omega)⟩) | (simp <;> omega))) | ((with_reducible apply GET.at); rfl) | ((with_reducible apply GETG.at); rfl) | ((with_reducible refine UNK.mk (fun h => ?_) ?_) <;> try (exfalso; omega)) | ((with_reducible refine IF.mk (fun h => ?_) (fun h => ?_)) <;> (try simp (disch := omega) only [hsB, hsC, lnB, wrap64, wrap32, simprocAttr] at h) <;> try (exfalso; omega))) <;> conv => whnf)
    · refine FIN.valueK h0 rfl (congrArg SV.bool ?_)
      rw [hf, decide_eq_false (by omega)]; rfl
    · refine ⟨j + 1, ⟨by omega, by omega, by rw [hf, decide_eq_true (by omega)]; rfl⟩, by omega, ?_⟩
      conv => whnf
      (refine GOES.cutting h0 rfl rfl rfl (by first | rfl | simp [belowO, belowH, plainLL_below, plainLL_map, plainL, plain]) ?_ ?_ <;> (repeat' (first | (with_reducible rfl) | (exact congrArg (fun n => SV.sl _ _ _ n _) (by simp)) | (exact congrArg (Hp.rows _) (by simp)) | (exact congrArg (SV.int _) (by first | omega | (simp (disch := omega) only [lnB, wrap64, wrap32] <;> omega) | (simp; done) | (simp <;> omega))) | ((conv => whnf); refine ⟨?_, ?_⟩) | exact trivial | (simp; done) | rfl)))
  · rw [rises_end hjl] at hf
    repeat' ((first | with_reducible refine IF.tt ?_ | with_reducible refine IF.ff ?_ | ((with_reducible refine NEED.mk ?_ ?_); (first | with_reducible rfl | omega | (simp (disch := omega) only [lnB, wrap64, wrap32] <;> omega) | (intro h; (try simp (disch := omega) only [hsB, hsC, lnB, wrap64, wrap32, simprocAttr] at h); (first | omega | (simp (disch := omega) only [lnB, wrap64, wrap32] <;> omega))) | (exact needApp 256 rfl rfl (by simp) (by simp) (by omega)) | (exact ⟨by omega, le_reach (by omega)⟩) | (exact ⟨by omega, by omega, le_reach (by omega)⟩) | (simp <;> omega))) | ((with_reducible apply GET.at); rfl) | ((with_reducible apply GETG.at); rfl) | ((with_reducible refine UNK.mk (fun h => ?_) ?_) <;> try (exfalso; omega)) | ((with_reducible refine IF.mk (fun h => ?_) (fun h => ?_)) <;> (try simp (disch := omega) only [hsB, hsC, lnB, wrap64, wrap32, simprocAttr] at h) <;> try (exfalso; omega))) <;> conv => whnf)
    exact FIN.valueK h0 rfl (congrArg SV.bool hf.symm)
end Go.Proofs.Ytillkgjdbnjnoaa
/- Sets as lists that rise: sorted, merged, searched. No program in sight. -/
set_option linter.unusedVariables false
set_option linter.unusedSimpArgs false
set_option linter.unusedSectionVars false
namespace Go.Our
section
variable {α : Type} {c : α → α → Int}
theorem Tri.lt_trans (h : Tri c) {x y z : α} (h1 : c x y < 0) (h2 : c y z ≤ 0) : c x z < 0 := by
  have h3 := h.trans x y z (by omega) h2
  rcases Int.lt_or_eq_of_le h3 with h4 | h4
  · exact h4
  · have e := (h.zero x z).1 h4
    subst e
    have := h.anti x y
    omega
theorem Tri.le_lt (h : Tri c) {x y z : α} (h1 : c x y ≤ 0) (h2 : c y z < 0) : c x z < 0 := by
  have h3 := h.trans x y z h1 (by omega)
  rcases Int.lt_or_eq_of_le h3 with h4 | h4
  · exact h4
  · have e := (h.zero x z).1 h4
    subst e
    have := h.anti x y
    omega
theorem Tri.self (h : Tri c) (x : α) : c x x = 0 := (h.zero x x).2 rfl
theorem Tri.ne (h : Tri c) {x y : α} (hl : c x y < 0) : x ≠ y := fun e => by subst e; have := h.self x; omega
theorem Tri.gt (h : Tri c) {x y : α} (hl : ¬ c x y ≤ 0) : c y x < 0 := by have := h.anti x y; omega
/-- Each stands ahead of all that follow. -/
def Rise (c : α → α → Int) (l : List α) : Prop := l.Pairwise fun a b => c a b < 0
theorem rise_ext (h : Tri c) : ∀ {l m : List α}, Rise c l → Rise c m → (∀ x, x ∈ l ↔ x ∈ m) → l = m
  | [], [], _, _, _ => rfl
  | [], y :: m, _, _, he => by have := (he y).2 (by simp); simp at this
  | x :: l, [], _, _, he => by have := (he x).1 (by simp); simp at this
  | x :: l, y :: m, hl, hm, he => by
    have hl := List.pairwise_cons.1 hl
    have hm := List.pairwise_cons.1 hm
    have hxy : x = y := by
      rcases List.mem_cons.1 ((he x).1 (by simp)) with e | hx
      · exact e
      · rcases List.mem_cons.1 ((he y).2 (by simp)) with e | hy
        · exact e.symm
        · have h1 := hm.1 x hx
          have h2 := hl.1 y hy
          have := h.anti x y
          omega
    subst hxy
    congr 1
    refine rise_ext h hl.2 hm.2 fun z => ⟨fun hz => ?_, fun hz => ?_⟩
    · rcases List.mem_cons.1 ((he z).1 (by simp [hz])) with e | h1
      · subst e; exact (h.ne (hl.1 _ hz) rfl).elim
      · exact h1
    · rcases List.mem_cons.1 ((he z).2 (by simp [hz])) with e | h1
      · subst e; exact (h.ne (hm.1 _ hz) rfl).elim
      · exact h1
end
section
variable {α : Type} [DecidableEq α] {c : α → α → Int}
/-! ### Sorted, each once -/
/-- Of equal ones that stand side by side one stays. -/
def compactM : List α → List α
  | [] => []
  | [a] => [a]
  | a :: b :: l => if a = b then compactM (b :: l) else a :: compactM (b :: l)
theorem compact_mem : ∀ (l : List α) (x : α), x ∈ compactM l ↔ x ∈ l
  | [], x => by simp [compactM]
  | [a], x => by simp [compactM]
  | a :: b :: l, x => by
    have ih := compact_mem (b :: l) x
    unfold compactM
    split
    · rename_i e; subst e; rw [ih]; simp
    · rw [List.mem_cons, ih]; simp [List.mem_cons]
def leC (c : α → α → Int) (x y : α) : Bool := !(decide (c y x < 0))
theorem leC_iff (h : Tri c) {x y : α} : leC c x y = true ↔ c x y ≤ 0 := by
  have := h.anti x y
  unfold leC
  simp only [Bool.not_eq_true', decide_eq_false_iff_not]
  omega
theorem compact_rise (h : Tri c) : ∀ (l : List α), l.Pairwise (fun a b => c a b ≤ 0) → Rise c (compactM l)
  | [], _ => List.Pairwise.nil
  | [a], _ => by simp [compactM, Rise]
  | a :: b :: l, hp => by
    have hp' := List.pairwise_cons.1 hp
    have ih := compact_rise h (b :: l) hp'.2
    unfold compactM
    split
    · exact ih
    · rename_i hne
      refine List.pairwise_cons.2 ⟨fun x hx => ?_, ih⟩
      rw [compact_mem] at hx
      have hab : c a b < 0 := by
        have h1 := hp'.1 b (by simp)
        have h2 : c a b ≠ 0 := fun e => hne ((h.zero a b).1 e)
        omega
      rcases List.mem_cons.1 hx with rfl | hx
      · exact hab
      · exact h.lt_trans hab ((List.pairwise_cons.1 hp'.2).1 x hx)
def setL (c : α → α → Int) (l : List α) : List α := compactM (l.mergeSort (leC c))
theorem set_mem (l : List α) (x : α) : x ∈ setL c l ↔ x ∈ l := by
  unfold setL
  rw [compact_mem]
  exact List.mem_mergeSort
theorem set_rise (h : Tri c) (l : List α) : Rise c (setL c l) := by
  refine compact_rise h _ ?_
  have := List.pairwise_mergeSort (le := leC c) (fun a b d h1 h2 => by rw [leC_iff h] at *; exact h.trans a b d h1 h2) (fun a b => by
    have := h.anti a b
    rw [Bool.or_eq_true, leC_iff h, leC_iff h]; omega) l
  exact this.imp fun h1 => (leC_iff h).1 h1
theorem set_of (h : Tri c) {l m : List α} (hm : Rise c m) (he : ∀ x, x ∈ m ↔ x ∈ l) : m = setL c l := rise_ext h hm (set_rise h l) fun x => (he x).trans (set_mem l x).symm
theorem set_self (h : Tri c) {l : List α} (hl : Rise c l) : setL c l = l := (set_of h hl fun _ => Iff.rfl).symm
theorem compact_len : ∀ (l : List α), (compactM l).length ≤ l.length
  | [] => by simp [compactM]
  | [a] => by simp [compactM]
  | a :: b :: l => by
    have ih := compact_len (b :: l)
    unfold compactM
    split
    · simp only [List.length_cons] at ih ⊢; omega
    · simp only [List.length_cons] at ih ⊢; omega
theorem set_len (l : List α) : (setL c l).length ≤ l.length := by
  have := compact_len (l.mergeSort (leC c))
  rw [List.length_mergeSort] at this
  exact this
/-! ### Merged by the document -/
def pushM (c : α → α → Int) (out : List α) (q : α) : List α := match out.getLast? with
  | none => [q]
  | some z => if c z q < 0 then out ++ [q] else out
def rmerge (c : α → α → Int) (out : List α) : List α → List α → List α
  | [], [] => out
  | x :: a, [] => rmerge c (pushM c out x) a []
  | [], y :: b => rmerge c (pushM c out y) [] b
  | x :: a, y :: b => if c x y ≤ 0 then rmerge c (pushM c out x) a (y :: b) else rmerge c (pushM c out y) (x :: a) b
termination_by a b => a.length + b.length
theorem push_rise (h : Tri c) {out : List α} {q : α} (ho : Rise c out) (hq : ∀ x ∈ out, c x q ≤ 0) : Rise c (pushM c out q) ∧ ∀ x, x ∈ pushM c out q ↔ x ∈ out ∨ x = q := by
  unfold pushM
  cases hg : out.getLast? with
  | none =>
    have : out = [] := List.getLast?_eq_none_iff.1 hg
    subst this
    exact ⟨by simp [Rise], by simp⟩
  | some z =>
    obtain ⟨pre, rfl⟩ := List.getLast?_eq_some_iff.1 hg
    simp only
    have ho' := List.pairwise_append.1 ho
    split
    · rename_i hz
      refine ⟨List.pairwise_append.2 ⟨ho, List.pairwise_singleton .., fun x hx y hy => ?_⟩, fun x => by simp only [List.mem_append, List.mem_singleton]⟩
      have hy := List.mem_singleton.1 hy
      subst hy
      rcases List.mem_append.1 hx with hx | hx
      · exact h.lt_trans (ho'.2.2 x hx z (by simp)) (by omega)
      · have := List.mem_singleton.1 hx; subst this; exact hz
    · rename_i hz
      have he : z = q := (h.zero z q).1 (by have := hq z (by simp); omega)
      subst he
      exact ⟨ho, fun x => by simp only [List.mem_append, List.mem_singleton]; grind⟩
theorem rmerge_spec (h : Tri c) : ∀ (n : Nat) (out a b : List α), a.length + b.length = n → Rise c out → Rise c a → Rise c b → (∀ x ∈ out, ∀ y, y ∈ a ∨ y ∈ b → c x y ≤ 0) → Rise c (rmerge c out a b) ∧ ∀ x, x ∈ rmerge c out a b ↔ x ∈ out ∨ x ∈ a ∨ x ∈ b
  | n, out, [], [], hn, ho, ha, hb, hh => by unfold rmerge; exact ⟨ho, by simp⟩
  | 0, out, x :: a, b, hn, _, _, _, _ => by simp at hn
  | 0, out, [], y :: b, hn, _, _, _, _ => by simp at hn
  | n + 1, out, x :: a, [], hn, ho, ha, hb, hh => by
    have ha' := List.pairwise_cons.1 ha
    obtain ⟨h1, h2⟩ := push_rise h ho (q := x) fun z hz => hh z hz x (by simp)
    obtain ⟨h3, h4⟩ := rmerge_spec h n (pushM c out x) a [] (by simp at hn ⊢; omega) h1 ha'.2 hb (fun z hz y hy => by
      rcases (h2 z).1 hz with hz | rfl
      · exact hh z hz y (by simpa using Or.inr (by simpa using hy))
      · have : y ∈ a := by simpa using hy
        have := ha'.1 y this; omega)
    unfold rmerge
    refine ⟨h3, fun z => ?_⟩
    rw [h4, h2]
    simp only [List.mem_cons, List.not_mem_nil, or_false]
    grind
  | n + 1, out, [], y :: b, hn, ho, ha, hb, hh => by
    have hb' := List.pairwise_cons.1 hb
    obtain ⟨h1, h2⟩ := push_rise h ho (q := y) fun z hz => hh z hz y (by simp)
    obtain ⟨h3, h4⟩ := rmerge_spec h n (pushM c out y) [] b (by simp at hn ⊢; omega) h1 ha hb'.2 (fun z hz w hw => by
      have hw : w ∈ b := by simpa using hw
      rcases (h2 z).1 hz with hz | rfl
      · exact hh z hz w (by simp [hw])
      · have := hb'.1 w hw; omega)
    unfold rmerge
    refine ⟨h3, fun z => ?_⟩
    rw [h4, h2]
    simp only [List.mem_cons, List.not_mem_nil, false_or]
    grind
  | n + 1, out, x :: a, y :: b, hn, ho, ha, hb, hh => by
    have ha' := List.pairwise_cons.1 ha
    have hb' := List.pairwise_cons.1 hb
    unfold rmerge
    split
    · rename_i hxy
      obtain ⟨h1, h2⟩ := push_rise h ho (q := x) fun z hz => hh z hz x (by simp)
      obtain ⟨h3, h4⟩ := rmerge_spec h n (pushM c out x) a (y :: b) (by simp at hn ⊢; omega) h1 ha'.2 hb (fun z hz w hw => by
        rcases (h2 z).1 hz with hz | rfl
        · exact hh z hz w (by rcases hw with hw | hw <;> simp [hw] <;> simp at hw <;> simp [hw])
        · rcases hw with hw | hw
          · have := ha'.1 w hw; omega
          · rcases List.mem_cons.1 hw with rfl | hw
            · exact hxy
            · exact h.trans _ _ _ hxy (by have := hb'.1 w hw; omega))
      refine ⟨h3, fun z => ?_⟩
      rw [h4, h2]
      simp only [List.mem_cons]
      grind
    · rename_i hxy
      have hyx := h.gt hxy
      obtain ⟨h1, h2⟩ := push_rise h ho (q := y) fun z hz => hh z hz y (by simp)
      obtain ⟨h3, h4⟩ := rmerge_spec h n (pushM c out y) (x :: a) b (by simp at hn ⊢; omega) h1 ha hb'.2 (fun z hz w hw => by
        rcases (h2 z).1 hz with hz | rfl
        · exact hh z hz w (by rcases hw with hw | hw <;> simp [hw] <;> simp at hw <;> simp [hw])
        · rcases hw with hw | hw
          · rcases List.mem_cons.1 hw with rfl | hw
            · omega
            · exact h.trans _ x _ (by omega) (by have := ha'.1 w hw; omega)
          · have := hb'.1 w hw; omega)
      refine ⟨h3, fun z => ?_⟩
      rw [h4, h2]
      simp only [List.mem_cons]
      grind
end
end Go.Our
/- Sets as lists that rise: the document's sort, the program's merges, places in sets. No program in sight. -/
set_option linter.unusedVariables false
set_option linter.unusedSimpArgs false
set_option linter.unusedSectionVars false
namespace Go.Our
section
variable {α : Type} {c : α → α → Int}
theorem rise_nil : Rise c ([] : List α) := List.Pairwise.nil
theorem rise_take {l : List α} (h : Rise c l) (n : Nat) : Rise c (l.take n) := h.sublist (List.take_sublist n l)
theorem rise_drop {l : List α} (h : Rise c l) (n : Nat) : Rise c (l.drop n) := h.sublist (List.drop_sublist n l)
/-! ### Merged by the program -/
/-- Of two sets what stands in the first alone, in both, in the second alone, as it is wanted. -/
def pmerge (c : α → α → Int) (f b s : Bool) : List α → List α → List α
  | [], [] => []
  | x :: xs, [] => (if f then [x] else []) ++ pmerge c f b s xs []
  | [], y :: ys => (if s then [y] else []) ++ pmerge c f b s [] ys
  | x :: xs, y :: ys => if c x y < 0 then (if f then [x] else []) ++ pmerge c f b s xs (y :: ys)
    else if c x y = 0 then (if b then [x] else []) ++ pmerge c f b s xs ys
    else (if s then [y] else []) ++ pmerge c f b s (x :: xs) ys
termination_by a b => a.length + b.length
def wanted (f b s p q : Prop) : Prop := (f ∧ p ∧ ¬ q) ∨ (b ∧ p ∧ q) ∨ (s ∧ ¬ p ∧ q)
theorem rise_opt {P : Prop} [Decidable P] {x : α} {l : List α} (h : ∀ y ∈ l, c x y < 0) (hl : Rise c l) : Rise c ((if P then [x] else []) ++ l) := by
  split
  · exact List.pairwise_cons.2 ⟨h, hl⟩
  · exact hl
theorem mem_opt {P : Prop} [Decidable P] {x z : α} {l : List α} : z ∈ (if P then [x] else []) ++ l ↔ (P ∧ z = x) ∨ z ∈ l := by
  split <;> simp [*]
theorem pmerge_spec (h : Tri c) (f b s : Bool) : ∀ (n : Nat) (xs ys : List α), xs.length + ys.length ≤ n → Rise c xs → Rise c ys →
    Rise c (pmerge c f b s xs ys) ∧ ∀ z, z ∈ pmerge c f b s xs ys ↔ (f = true ∧ z ∈ xs ∧ ¬ z ∈ ys) ∨ (b = true ∧ z ∈ xs ∧ z ∈ ys) ∨ (s = true ∧ ¬ z ∈ xs ∧ z ∈ ys)
  | n, [], [], _, _, _ => by unfold pmerge; simp [rise_nil]
  | 0, x :: xs, ys, hn, _, _ => by simp at hn
  | 0, [], y :: ys, hn, _, _ => by simp at hn
  | n + 1, x :: xs, [], hn, hx, hy => by
    have hx' := List.pairwise_cons.1 hx
    obtain ⟨h1, h2⟩ := pmerge_spec h f b s n xs [] (by simp at hn ⊢; omega) hx'.2 hy
    unfold pmerge
    refine ⟨rise_opt (fun y hm => ?_) h1, fun z => ?_⟩
    · rw [h2] at hm
      exact hx'.1 y (by simpa using (by simpa using hm : f = true ∧ y ∈ xs).2)
    · rw [mem_opt, h2]; simp; grind
  | n + 1, [], y :: ys, hn, hx, hy => by
    have hy' := List.pairwise_cons.1 hy
    obtain ⟨h1, h2⟩ := pmerge_spec h f b s n [] ys (by simp at hn ⊢; omega) hx hy'.2
    unfold pmerge
    refine ⟨rise_opt (fun z hm => ?_) h1, fun z => ?_⟩
    · rw [h2] at hm
      exact hy'.1 z (by simpa using (by simpa using hm : s = true ∧ z ∈ ys).2)
    · rw [mem_opt, h2]; simp; grind
  | n + 1, x :: xs, y :: ys, hn, hx, hy => by
    have hx' := List.pairwise_cons.1 hx
    have hy' := List.pairwise_cons.1 hy
    unfold pmerge
    split
    · rename_i hxy
      obtain ⟨h1, h2⟩ := pmerge_spec h f b s n xs (y :: ys) (by simp at hn ⊢; omega) hx'.2 hy
      have hlow : ∀ z, z ∈ xs ∨ z ∈ y :: ys → c x z < 0 := fun z hz => by
        rcases hz with hz | hz
        · exact hx'.1 z hz
        · rcases List.mem_cons.1 hz with rfl | hz
          · exact hxy
          · exact h.lt_trans hxy (by have := hy'.1 z hz; omega)
      have hxn : ¬ x ∈ y :: ys := fun hm => by have := hlow x (.inr hm); have := h.self x; omega
      refine ⟨rise_opt (fun z hm => hlow z (by rw [h2] at hm; grind)) h1, fun z => ?_⟩
      rw [mem_opt, h2]
      have hxx : ¬ x ∈ xs := fun hm => by have := hlow x (.inl hm); have := h.self x; omega
      by_cases e : z = x
      · subst e; simp only [hxn, hxx, List.mem_cons]; grind
      · grind
    · split
      · rename_i hxy he
        have he := (h.zero x y).1 he
        subst he
        obtain ⟨h1, h2⟩ := pmerge_spec h f b s n xs ys (by simp at hn ⊢; omega) hx'.2 hy'.2
        have hlow : ∀ z, z ∈ xs ∨ z ∈ ys → c x z < 0 := fun z hz => by
          rcases hz with hz | hz
          · exact hx'.1 z hz
          · exact hy'.1 z hz
        refine ⟨rise_opt (fun z hm => hlow z (by rw [h2] at hm; grind)) h1, fun z => ?_⟩
        rw [mem_opt, h2]
        have hxx : ¬ x ∈ xs := fun hm => by have := hlow x (.inl hm); have := h.self x; omega
        have hxy : ¬ x ∈ ys := fun hm => by have := hlow x (.inr hm); have := h.self x; omega
        by_cases e : z = x
        · subst e; simp only [hxx, hxy, List.mem_cons]; grind
        · grind
      · rename_i hxy hne
        have hyx : c y x < 0 := h.gt (by omega)
        obtain ⟨h1, h2⟩ := pmerge_spec h f b s n (x :: xs) ys (by simp at hn ⊢; omega) hx hy'.2
        have hlow : ∀ z, z ∈ x :: xs ∨ z ∈ ys → c y z < 0 := fun z hz => by
          rcases hz with hz | hz
          · rcases List.mem_cons.1 hz with rfl | hz
            · exact hyx
            · exact h.lt_trans hyx (by have := hx'.1 z hz; omega)
          · exact hy'.1 z hz
        refine ⟨rise_opt (fun z hm => hlow z (by rw [h2] at hm; grind)) h1, fun z => ?_⟩
        rw [mem_opt, h2]
        have hyn : ¬ y ∈ x :: xs := fun hm => by have := hlow y (.inl hm); have := h.self y; omega
        have hyy : ¬ y ∈ ys := fun hm => by have := hlow y (.inr hm); have := h.self y; omega
        by_cases e : z = y
        · subst e; simp only [hyn, hyy, List.mem_cons]; grind
        · grind
theorem pmerge_len (f b s : Bool) : ∀ (n : Nat) (xs ys : List α), xs.length + ys.length ≤ n → (pmerge c f b s xs ys).length ≤ xs.length + ys.length
  | n, [], [], hn => by unfold pmerge; simp
  | 0, x :: xs, ys, hn => by simp at hn
  | 0, [], y :: ys, hn => by simp at hn
  | n + 1, x :: xs, [], hn => by
    have := pmerge_len f b s n xs [] (by simp at hn ⊢; omega)
    unfold pmerge; rw [List.length_append]; simp only [List.length_cons, List.length_nil] at *; split <;> simp <;> omega
  | n + 1, [], y :: ys, hn => by
    have := pmerge_len f b s n [] ys (by simp at hn ⊢; omega)
    unfold pmerge; rw [List.length_append]; simp only [List.length_cons, List.length_nil] at *; split <;> simp <;> omega
  | n + 1, x :: xs, y :: ys, hn => by
    have h1 := pmerge_len f b s n xs (y :: ys) (by simp at hn ⊢; omega)
    have h2 := pmerge_len f b s n xs ys (by simp at hn ⊢; omega)
    have h3 := pmerge_len f b s n (x :: xs) ys (by simp at hn ⊢; omega)
    simp at hn
    unfold pmerge; split
    · rw [List.length_append]; simp only [List.length_cons, List.length_nil] at *; split <;> simp <;> omega
    · split
      · rw [List.length_append]; simp only [List.length_cons, List.length_nil] at *; split <;> simp <;> omega
      · rw [List.length_append]; simp only [List.length_cons, List.length_nil] at *; split <;> simp <;> omega
end
section
variable {α : Type} [DecidableEq α] {c : α → α → Int}
theorem rmerge_set (h : Tri c) {xs ys l : List α} (hx : Rise c xs) (hy : Rise c ys) (hl : ∀ z, z ∈ l ↔ z ∈ xs ∨ z ∈ ys) : rmerge c [] xs ys = setL c l := by
  obtain ⟨h1, h2⟩ := rmerge_spec h _ [] xs ys rfl rise_nil hx hy (by simp)
  exact set_of h h1 fun z => by rw [h2, hl]; simp
/-- The document's union is the program's. -/
theorem union_eq (h : Tri c) {xs ys : List α} (hx : Rise c xs) (hy : Rise c ys) : pmerge c true true true xs ys = rmerge c [] xs ys := by
  obtain ⟨h1, h2⟩ := rmerge_spec h _ [] xs ys rfl rise_nil hx hy (by simp)
  obtain ⟨h3, h4⟩ := pmerge_spec h true true true _ xs ys (Nat.le_refl _) hx hy
  refine rise_ext h h3 h1 fun z => ?_
  rw [h2, h4]; simp; grind
/-- The document's sort, half by half. -/
def rsort (c : α → α → Int) (l : List α) : List α := if l.length < 2 then l else rmerge c [] (rsort c (l.take (l.length / 2))) (rsort c (l.drop (l.length / 2)))
termination_by l.length
decreasing_by
  · simp only [List.length_take]; omega
  · simp only [List.length_drop]; omega
theorem rsort_set (h : Tri c) : ∀ (n : Nat) (l : List α), l.length ≤ n → rsort c l = setL c l
  | 0, l, hn => by
    have : l = [] := List.length_eq_zero_iff.1 (by omega)
    subst this
    unfold rsort
    simp [setL, compactM]
  | n + 1, l, hn => by
    unfold rsort
    split
    · match l with
      | [] => simp [setL, compactM]
      | [x] => simp [setL, compactM]
      | x :: y :: l => simp at *; omega
    · rw [rsort_set h n _ (by simp; omega), rsort_set h n _ (by simp; omega)]
      refine rmerge_set h (set_rise h _) (set_rise h _) fun z => ?_
      rw [set_mem, set_mem, ← List.mem_append, List.take_append_drop]
/-! ### What stands in both, by the document -/
def rboth (c : α → α → Int) (inn : Bool) : List α → List α → List α
  | [], _ => []
  | x :: xs, ys => (if decide ((ys.dropWhile fun y => decide (c y x < 0)).head? = some x) = inn then [x] else []) ++ rboth c inn xs (ys.dropWhile fun y => decide (c y x < 0))
theorem mem_dropWhile_of (p : α → Bool) (z : α) (hz : p z = false) : ∀ {l : List α}, z ∈ l → z ∈ l.dropWhile p
  | [], h => by cases h
  | y :: l, h => by
    rw [List.dropWhile_cons]
    split
    · rename_i hy
      rcases List.mem_cons.1 h with rfl | h
      · rw [hz] at hy; cases hy
      · exact mem_dropWhile_of p z hz h
    · exact h
theorem rboth_eq (h : Tri c) (inn : Bool) : ∀ {xs ys : List α}, Rise c xs → Rise c ys → rboth c inn xs ys = xs.filter fun x => decide (decide (x ∈ ys) = inn)
  | [], ys, _, _ => rfl
  | x :: xs, ys, hx, hy => by
    have hx' := List.pairwise_cons.1 hx
    obtain ⟨d, hd⟩ : ∃ d, d = ys.dropWhile fun y => decide (c y x < 0) := ⟨_, rfl⟩
    have hdy : Rise c d := by rw [hd]; exact hy.sublist (List.dropWhile_sublist _)
    have hin : ∀ z, c x z ≤ 0 → (z ∈ d ↔ z ∈ ys) := fun z hz => by
      rw [hd]
      refine ⟨fun hm => (List.dropWhile_sublist _).subset hm, fun hm => mem_dropWhile_of _ z ?_ hm⟩
      have := h.anti x z
      simp only [decide_eq_false_iff_not]; omega
    have hhead : decide (d.head? = some x) = decide (x ∈ ys) := by
      rw [Bool.eq_iff_iff, decide_eq_true_iff, decide_eq_true_iff, ← hin x (by have := h.self x; omega)]
      match d, hd, hdy with
      | [], _, _ => simp
      | y :: d, hd, hdy =>
        have hny : ¬ c y x < 0 := by
          have := List.head_dropWhile_not (l := ys) (fun y => decide (c y x < 0)) (by rw [← hd]; simp)
          simp only [← hd] at this
          exact of_decide_eq_false this
        simp only [List.head?_cons, Option.some.injEq, List.mem_cons]
        refine ⟨fun e => .inl e.symm, fun hm => ?_⟩
        rcases hm with e | hm
        · exact e.symm
        · exact (hny ((List.pairwise_cons.1 hdy).1 x hm)).elim
    unfold rboth
    rw [← hd, hhead, rboth_eq h inn hx'.2 hdy, List.filter_cons]
    have hf : (xs.filter fun z => decide (decide (z ∈ d) = inn)) = xs.filter fun z => decide (decide (z ∈ ys) = inn) := by
      refine List.filter_congr fun z hz => ?_
      have := hin z (by have := hx'.1 z hz; omega)
      simp only [this]
    rw [hf]
    by_cases hP : decide (x ∈ ys) = inn
    · rw [if_pos hP, if_pos (by simpa using hP)]; rfl
    · rw [if_neg hP, if_neg (by simpa using hP)]; rfl
theorem meet_eq (h : Tri c) {xs ys : List α} (hx : Rise c xs) (hy : Rise c ys) : pmerge c false true false xs ys = rboth c true xs ys := by
  obtain ⟨h3, h4⟩ := pmerge_spec h false true false _ xs ys (Nat.le_refl _) hx hy
  rw [rboth_eq h true hx hy]
  refine rise_ext h h3 (hx.sublist List.filter_sublist) fun z => ?_
  rw [h4, List.mem_filter]; simp
theorem minus_eq (h : Tri c) {xs ys : List α} (hx : Rise c xs) (hy : Rise c ys) : pmerge c true false false xs ys = rboth c false xs ys := by
  obtain ⟨h3, h4⟩ := pmerge_spec h true false false _ xs ys (Nat.le_refl _) hx hy
  rw [rboth_eq h false hx hy]
  refine rise_ext h h3 (hx.sublist List.filter_sublist) fun z => ?_
  rw [h4, List.mem_filter]; simp
/-! ### The place in a set -/
def placeM (c : α → α → Int) (l : List α) (q : α) : Nat := (l.takeWhile fun x => decide (c x q < 0)).length
theorem place_le (l : List α) (q : α) : placeM c l q ≤ l.length := (List.takeWhile_sublist _).length_le
theorem place_lt {l : List α} {q : α} {k : Nat} (hk : k < placeM c l q) : c (l[k]'(Nat.lt_of_lt_of_le hk (place_le l q))) q < 0 := by
  have h1 : (l.takeWhile fun x => decide (c x q < 0))[k] = l[k]'(Nat.lt_of_lt_of_le hk (place_le l q)) := by
    have h2 := List.takeWhile_prefix (l := l) (fun x => decide (c x q < 0))
    exact (List.IsPrefix.getElem h2 hk)
  have h3 := List.all_takeWhile (l := l) (p := fun x => decide (c x q < 0))
  have h4 := List.all_eq_true.1 h3 _ (List.getElem_mem hk)
  rw [h1] at h4
  simpa using h4
theorem place_at {l : List α} {q : α} (hk : placeM c l q < l.length) : ¬ c l[placeM c l q] q < 0 := by
  have h1 : l = (l.takeWhile fun x => decide (c x q < 0)) ++ l.dropWhile fun x => decide (c x q < 0) := (List.takeWhile_append_dropWhile).symm
  have hne : l.dropWhile (fun x => decide (c x q < 0)) ≠ [] := by
    intro e
    have := congrArg List.length h1
    rw [e, List.append_nil] at this
    unfold placeM at hk; omega
  have h2 := List.head_dropWhile_not (l := l) (fun x => decide (c x q < 0)) hne
  have h3 : l[placeM c l q] = (l.dropWhile fun x => decide (c x q < 0)).head hne := by
    have h4 : l[placeM c l q]? = (l.dropWhile fun x => decide (c x q < 0)).head? := by
      have h5 : ∀ (a b m : List α), m = a ++ b → m[a.length]? = b.head? := fun a b m e => by
        subst e; rw [List.getElem?_append_right (Nat.le_refl _), Nat.sub_self, List.head?_eq_getElem?]
      exact h5 _ _ _ h1
    rw [List.getElem?_eq_getElem hk, List.head?_eq_some_head hne] at h4
    injection h4
  rw [h3]
  exact of_decide_eq_false h2
/-- The one place ahead of which all stand ahead, and behind which none does. -/
theorem place_of (h : Tri c) {l : List α} {q : α} {i : Nat} (hi : i ≤ l.length) (h1 : ∀ k (hk : k < l.length), k < i → c l[k] q < 0) (h2 : ∀ k (hk : k < l.length), i ≤ k → ¬ c l[k] q < 0) : i = placeM c l q := by
  rcases Nat.lt_trichotomy i (placeM c l q) with hlt | he | hgt
  · exact (h2 i (Nat.lt_of_lt_of_le hlt (place_le l q)) (Nat.le_refl _) (place_lt hlt)).elim
  · exact he
  · exact (place_at (Nat.lt_of_lt_of_le hgt hi) (h1 _ _ hgt)).elim
theorem rise_get {l : List α} (hl : Rise c l) {i j : Nat} (hij : i < j) (hj : j < l.length) : c (l[i]'(by omega)) l[j] < 0 := List.pairwise_iff_getElem.1 hl i j (by omega) hj hij
theorem place_low (h : Tri c) {l : List α} (hl : Rise c l) {q : α} {k m : Nat} (hk : k ≤ m) (hm : m < l.length) (hq : c l[m] q < 0) : c (l[k]'(by omega)) q < 0 := by
  rcases Nat.lt_or_eq_of_le hk with hk | rfl
  · exact h.lt_trans (rise_get hl hk hm) (by omega)
  · exact hq
theorem place_high (h : Tri c) {l : List α} (hl : Rise c l) {q : α} {k m : Nat} (hk : m ≤ k) (hm : k < l.length) (hq : ¬ c (l[m]'(by omega)) q < 0) : ¬ c l[k] q < 0 := by
  intro hc
  exact hq (place_low h hl hk hm hc)
/-- Does it stand there? -/
def thereM (c : α → α → Int) (l : List α) (q : α) : Bool := decide (l[placeM c l q]? = some q)
theorem there_mem (h : Tri c) {l : List α} (hl : Rise c l) (q : α) : thereM c l q = decide (q ∈ l) := by
  unfold thereM
  rw [Bool.eq_iff_iff, decide_eq_true_iff, decide_eq_true_iff]
  refine ⟨fun e => List.mem_of_getElem? e, fun hm => ?_⟩
  obtain ⟨i, hi, rfl⟩ := List.mem_iff_getElem.1 hm
  have : i = placeM c l l[i] := place_of h (by omega) (fun k hk hki => rise_get hl hki hi) (fun k hk hik hc => by
    rcases Nat.lt_or_eq_of_le hik with hik | rfl
    · have := rise_get hl hik hk
      have := h.anti l[i] l[k]
      omega
    · have := h.self l[i]; omega)
  rw [← this, List.getElem?_eq_getElem hi]
/-! ### Of equal ones one stays, from the front -/
theorem compact_succ : ∀ {l : List α} {i : Nat} (h0 : 1 ≤ i) (h : i < l.length), compactM (l.take (i + 1)) = if l[i] = l[i - 1]'(by omega) then compactM (l.take i) else compactM (l.take i) ++ [l[i]]
  | [], i, _, h => by simp at h
  | [a], i, h0, h => by simp at h; omega
  | a :: b :: l, 0, h0, h => by omega
  | a :: b :: l, 1, h0, h => by
    simp only [List.take_succ_cons, List.take_zero, compactM, List.getElem_cons_succ, List.getElem_cons_zero, Nat.sub_self]
    by_cases e : a = b
    · subst e; simp
    · rw [if_neg e, if_neg (fun h => e h.symm)]; rfl
  | a :: b :: l, i + 2, h0, h => by
    have hi : i + 1 < (b :: l).length := by simpa using h
    have ih := compact_succ (l := b :: l) (i := i + 1) (by omega) hi
    have e2 : (a :: b :: l)[i + 2 - 1]'(by simp at h ⊢; omega) = (b :: l)[i + 1 - 1]'(by simp at h ⊢; omega) := rfl
    have e3 : (a :: b :: l)[i + 2] = (b :: l)[i + 1] := rfl
    rw [e2, e3]
    simp only [List.take_succ_cons, compactM] at ih ⊢
    by_cases e : a = b
    · simp only [if_pos e]; exact ih
    · simp only [if_neg e, ih]
      split <;> simp
theorem compact_two {l : List α} (h : l.length < 2) : compactM l = l := by
  match l, h with
  | [], _ => rfl
  | [a], _ => rfl
theorem compact_one {l : List α} : compactM (l.take 1) = l.take 1 := compact_two (by simp; omega)
end
end Go.Our
/- The library's slices.SortFunc, told to the engine. Conditions: none. -/
set_option linter.unusedVariables false
set_option linter.unusedSimpArgs false
namespace Go.Sx
open Go Go.Sort Go.Shelf Go.Proofs
theorem HeapOK.later {M : Mx} {η : Env} {w w' : World} {O : Hps} {nx : Nat} (H : HeapOK M η w O nx) (hf : FrW w w' fun _ => False) : HeapOK M η w' O nx := by
  have hk : ∀ {i h}, lkp i O = some h → ∀ k, feet η w (.loc i) h k → w'.heap[k]? = w.heap[k]? := fun hi k f => hf.block k ((H.own.1 _ _ hi).1.feet_lt f) (fun h => h)
  have hb : ∀ {i h}, lkp i O = some h → ∀ k, feet η w' (.loc i) h k → feet η w (.loc i) h k := fun hi k f => H.stands List.prefix_rfl hi (hk hi) f
  exact ⟨H.pre, H.len, ⟨fun i h hi => ⟨(H.own.1 i h hi).1.keep (hk hi), fun k f => (H.own.1 i h hi).2 k (hb hi k f)⟩, fun i j h h' k hi hj hij f f' => H.own.2 i j h h' k hi hj hij (hb hi k f) (hb hj k f')⟩, H.fr.trans hf (fun n h => h.elim), H.sok⟩
/-- What only grew and drew. -/
theorem FrW.grown {w w' : World} (h : FrW w w' fun _ => False) : ∃ q os, w' = grow (w.drewN q) os := by
  refine ⟨w'.drawn - w.drawn, w'.heap.extract w.heap.size, ?_⟩
  have hd := h.drawn
  have e1 : w'.heap = w.heap ++ w'.heap.extract w.heap.size := by
    apply Array.ext_getElem?
    intro k
    rcases Nat.lt_or_ge k w.heap.size with hk | hk
    · rw [Array.getElem?_append_left hk]; exact h.block k hk (fun x => x)
    · rw [Array.getElem?_append_right hk, Array.getElem?_extract]
      simp only [Nat.min_self]
      split
      · rw [show w.heap.size + (k - w.heap.size) = k by omega]
      · rename_i hn
        exact Array.getElem?_eq_none (by omega)
  obtain ⟨heap, tape, drawn, os, output⟩ := w
  obtain ⟨heap', tape', drawn', os', output'⟩ := w'
  have h1 := h.os
  have h2 := h.tape
  have h3 := h.output
  simp only at h1 h2 h3 hd e1
  subst h1 h2 h3
  simp only [grow, World.drewN]
  rw [← e1]
  congr 1
  omega
section
variable {α : Type} [Inhabited α] (enc : α → List Value) (k : Nat)
theorem sortWorldK_heap (w : World) (blk off m : Nat) (dk : Array α) (os : Array Obj) : (sortWorldK enc k w blk off m dk os).heap = (mapBlock w blk (putCells id off (flatK enc k dk))).heap ++ os := by
  simp [sortWorldK, grow, putRowK, putRow, mapBlock, Sort.ahead]
theorem sortWorldK_size (w : World) (blk off m : Nat) (dk : Array α) (os : Array Obj) : w.heap.size ≤ (sortWorldK enc k w blk off m dk os).heap.size := by
  rw [sortWorldK_heap]; simp [mapBlock]
theorem sortWorldK_block (w : World) (blk off m : Nat) (dk : Array α) (os : Array Obj) {g : Nat} (hg : g < w.heap.size) (hne : g ≠ blk) : (sortWorldK enc k w blk off m dk os).heap[g]? = w.heap[g]? := by
  rw [sortWorldK_heap, Array.getElem?_append_left (by simpa [mapBlock] using hg)]
  simp only [mapBlock, Array.getElem?_modify]
  rw [if_neg (fun h => hne h.symm)]
theorem sortWorldK_row (w : World) (blk off m : Nat) (dk : Array α) (os : Array Obj) {c : Array Value} {T : TypeId} {fz : Nat × Nat} (h : w.heap[blk]? = some (.cells c T fz)) : (sortWorldK enc k w blk off m dk os).heap[blk]? = some (.cells (putCells id off (flatK enc k dk) c) T fz) := by
  have hlt := (Array.getElem?_eq_some_iff.1 h).1
  rw [sortWorldK_heap, Array.getElem?_append_left (by simpa [mapBlock] using hlt)]
  simp only [mapBlock, Array.getElem?_modify, if_true, h, Option.map_eq_map, Option.map_some, onCells]
end
theorem cell_of {w : World} {g i : Nat} {c : Array Value} {T : TypeId} {fz : Nat × Nat} (h : w.heap[g]? = some (.cells c T fz)) : w.cell? ⟨g, i, none⟩ = c[i]? := by simp [World.cell?, h]
/-- A comparison that has its contract serves the sort. -/
theorem cmpLays_of {P : Program} {T : Tab} {α : Type} [Inhabited α] {enc : α → List Value} {k : Nat} {row : α → List SV} {g : FuncId} {cf : α → α → Int} {blk off size : Nat} {w : World} (hlone : T.globs.all (fun p => lone1 p.2) = true) (hblk : ∀ h, lkp blk T.globs ≠ some h)
    (hc : ∀ x y, Does P T g 0 [.agg (row x), .agg (row y)] [] [] (Val (.int .i64 (cf x y)))) (eg : ∀ args w, (callFunc g args).run P w = .ok (.enter g args) w)
    (hrow : ∀ η x, DenL η (row x) (enc x) ∧ ∀ u ∈ enc x, u.oneCell' = true) (hg : ∀ g h, lkp g T.globs = some h → HpSat [] w false (.glob g) h ∧ g < w.heap.size) : CmpLays P g #[] enc k cf blk off size w := by
  intro m os dk hdk x y
  have hg' : ∀ g h, lkp g T.globs = some h → HpSat [] (sortWorldK enc k w blk off m dk os) false (.glob g) h ∧ g < (sortWorldK enc k w blk off m dk os).heap.size := by
    intro g' h hh
    obtain ⟨h1, h2⟩ := hg g' h hh
    have hne : g' ≠ blk := fun e => hblk h (e ▸ hh)
    refine ⟨h1.keep fun n f => ?_, Nat.lt_of_lt_of_le h2 (sortWorldK_size enc k w blk off m dk os)⟩
    have hlt := h1.feet_lt f
    obtain ⟨e, he, hf⟩ := f
    cases he
    rcases hf with rfl | hf
    · exact sortWorldK_block enc k w blk off m dk os hlt hne
    · exact (lone1_kid (List.all_eq_true.1 hlone _ (lkp_mem hh)) hf).elim
  have := Does.calls (hc x y) eg (vs := [.agg (enc x).toArray, .agg (enc y).toArray]) (w := sortWorldK enc k w blk off m dk os) (by
    simp only [DenL, Den]
    exact ⟨_, _, rfl, ⟨_, rfl, (hrow [] x).1, (hrow [] x).2⟩, _, _, rfl, ⟨_, rfl, (hrow [] y).1, (hrow [] y).2⟩, rfl⟩) hg'
  refine this.mono ?_
  rintro e w' ⟨v, rfl, hv, hf⟩
  simp only [Den] at hv
  subst hv
  exact ⟨rfl, hf.grown⟩
/-- What a row of elements reads as, cell by cell. -/
theorem flat_cell {α : Type} [Inhabited α] {enc : α → List Value} {k : Nat} (hk : ∀ x, (enc x).length = k) {l : List α} {i j : Nat} {x : α} (hi : l[i]? = some x) (hj : j < k) : (flatK enc k l.toArray)[i * k + j]! = (enc x)[j]! ∧ i * k + j < l.length * k := by
  have hil := (List.getElem?_eq_some_iff.1 hi).1
  have hlt : i * k + j < l.length * k := by
    have : (i + 1) * k ≤ l.length * k := Nat.mul_le_mul_right k hil
    rw [Nat.succ_mul] at this
    omega
  refine ⟨?_, hlt⟩
  rw [get_flatK _ _ _ _ (by simpa using hlt)]
  have h1 : (i * k + j) / k = i := by rw [Nat.mul_comm, Nat.mul_add_div (by omega), Nat.div_eq_of_lt hj, Nat.add_zero]
  have h2 : (i * k + j) % k = j := by rw [Nat.mul_comm, Nat.mul_add_mod]; exact Nat.mod_eq_of_lt hj
  rw [h1, h2]
  congr 1
  have := (List.getElem?_eq_some_iff.1 hi).2
  simp [hil, this]
/-- slices.SortFunc over a row of its own, of elements of several cells. -/
theorem sortFunc_does {P : Program} {T : Tab} {ρ : Ren} {α : Type} [Inhabited α] (hT : TabOK P T) (L : SlLaysF0.n6 P ρ) (L' : SlLaysF0.n6 P ρ) {enc : α → List Value} {k : Nat} {row : α → List SV} {g : FuncId} {cf : α → α → Int}
    (aE : ∀ w, (isAgg (ρ.t 24)).run P w = .ok true w) (zE : ∀ w, (Go.sizeOf (ρ.t 24)).run P w = .ok k w) (hk : ∀ x, (enc x).length = k ∧ (row x).length = k) (hk0 : 0 < k) (hO : SWO (ltOf cf)) (hTo : ∀ x y, (ltOf cf) x y = false → (ltOf cf) y x = false → x = y)
    (hlone : T.globs.all (fun p => lone1 p.2) = true) (hc : ∀ x y, Does P T g 0 [.agg (row x), .agg (row y)] [] [] (Val (.int .i64 (cf x y)))) (eg : ∀ args w, (callFunc g args).run P w = .ok (.enter g args) w) (ef : ∀ args w, (callFunc (ρ.f 6) args).run P w = .ok (.enter (ρ.f 6) args) w)
    (hrow : ∀ η x, DenL η (row x) (enc x) ∧ ∀ u ∈ enc x, u.oneCell' = true) (hrow' : ∀ η x vs, DenL η (row x) vs → vs = enc x) (l : List α) (hl : l.length < 4611686018427387904) :
    Does P T (ρ.f 6) 1 [.sl (.loc 0) 0 k l.length none, .fn (.func g) [] []] [(0, .rows k (l.map row))] [] (fun r O nx => r = .tup [] ∧ O = [(0, .rows k ((l.mergeSort fun x y => !(ltOf cf) y x).map row))] ∧ nx = 1) := by
  refine ⟨fun M vs hP hT' hF hS H hd => .inl ⟨ρ.f 6, by rw [hP]; exact ef _ _, ?_⟩⟩
  obtain ⟨P', ⟨T', N', S', ro'⟩, w0, F, η0⟩ := M
  simp only at hP hT' hF hS H hd ⊢
  subst hP hT'
  simp only [DenL] at hd
  obtain ⟨v, us, rfl, hv, f, us', rfl, hf, rfl⟩ := hd
  simp only [Den] at hf
  obtain ⟨ff, fc, rfl, hff, hfc⟩ := hf
  simp only [DenL] at hff hfc
  subst hff hfc
  have hsat := (H.own.1 0 _ rfl).1
  have hgl : ∀ g h, lkp g T'.globs = some h → HpSat [] w0 false (.glob g) h ∧ g < w0.heap.size := by
    intro g' h hh
    have hp : plainH h = true := List.all_eq_true.1 T'.gplain _ (lkp_mem hh)
    have h1 := H.shared (b := .glob g') hh
    refine ⟨h1.plain hp, h1.feet_lt ⟨⟨g', 0, 0⟩, rfl, .inl rfl⟩⟩
  simp only [HpSat, Env.get] at hsat
  simp only [Den, Env.get] at hv
  have fin : ∀ w' (O' : Hps), FrW w0 w' F → HpSat η0 w' true (.loc 0) (.rows k ((l.mergeSort fun x y => !(ltOf cf) y x).map row)) →
      ∃ r O' nx' η', (r = SV.tup [] ∧ O' = [(0, Hp.rows k ((l.mergeSort fun x y => !(ltOf cf) y x).map row))] ∧ nx' = 1) ∧ η0 <+: η' ∧ HeapOK ⟨P', ⟨T', N', S', ro'⟩, w0, F, η0⟩ η' w' O' nx' ∧ Den η' r (.tuple #[]) := by
    intro w' O' hfr hs
    refine ⟨_, _, _, η0, ⟨rfl, rfl, rfl⟩, List.prefix_rfl, ⟨H.pre, H.len, ⟨fun i h hi => ?_, fun i j h h' k hi hj hij f f' => ?_⟩, hfr, H.sok⟩, ?_⟩
    · rw [lkp_cons] at hi
      split at hi
      · rename_i e; subst e
        injection hi with hi; subst hi
        refine ⟨hs, fun n f => (H.own.1 0 _ rfl).2 n ?_⟩
        obtain ⟨e, h1, h2⟩ := f
        exact ⟨e, h1, h2⟩
      · simp [lkp] at hi
    · rw [lkp_cons] at hi hj
      split at hi
      · rename_i e; subst e
        split at hj
        · rename_i e2; exact (hij e2.symm).elim
        · simp [lkp] at hj
      · simp [lkp] at hi
    · simp only [Den, DenL]; exact ⟨[], rfl, rfl⟩
  rcases hsat with ⟨hn, hnil⟩ | ⟨e, arr, Tt, fz, he, hheap, hown, hcells⟩
  · -- a nil slice
    have hl0 : l = [] := by simpa using hnil
    subst hl0
    have hv2 : v = .slice none 0 0 := by
      rcases hv with ⟨_, h, _⟩ | ⟨e, o, h, _⟩
      · exact h
      · rw [hn] at h; cases h
    subst hv2
    refine (AnyF.slices_SortFunc_none L' none 0 _ w0).mono ?_
    rintro e w' ⟨rfl, rfl⟩
    refine ⟨_, rfl, fin _ [] (FrW.refl _ _) ?_⟩
    simp only [HpSat, Env.get]
    exact .inl ⟨hn, by simp⟩
  · obtain ⟨hun, hsz, hle, hb0⟩ := hown trivial
    obtain ⟨hel, hvv⟩ : l.length ≤ e.cap ∧ v = .slice (some ⟨e.g, 0, none⟩) l.length e.cap := by
      rcases hv with ⟨h, _⟩ | ⟨e', o, h, h2, h3, h4, h5⟩
      · rw [he] at h; cases h
      · rw [he] at h; cases h
        simp only [Option.getD_none, Nat.zero_add, Nat.sub_zero] at h2 h3
        have := h5 (.inr trivial)
        rw [hb0] at this
        simp only [Nat.zero_mul, Nat.add_zero] at this
        subst this
        exact ⟨h3, h2⟩
    subst hvv
    have hblk : e.g < w0.heap.size := (Array.getElem?_eq_some_iff.1 hheap).1
    have hcell : ∀ (i : Nat) (x : α) (j : Nat), l[i]? = some x → j < k → arr[i * k + j]? = some (enc x)[j]! := by
      intro i x j hi hj
      obtain ⟨h1, h2⟩ := hcells i (row x) (by rw [List.getElem?_map, hi]; rfl)
      have hlen := (hk x).2
      have hen := (hk x).1
      have hall : ∀ (j : Nat) (c : SV), (row x)[j]? = some c → ∃ u, ((List.range k).map fun j => arr.getD (i * k + j) undef)[j]? = some u ∧ Den η0 c u := by
        intro j c hj
        have hjk : j < k := by have := (List.getElem?_eq_some_iff.1 hj).1; omega
        obtain ⟨u, h3, h4, h5⟩ := h2 j c hj
        rw [hb0, Nat.zero_add] at h3
        refine ⟨u, ?_, h5⟩
        rw [List.getElem?_map, List.getElem?_range hjk]
        simp only [Option.map_some, Array.getD_eq_getD_getElem?, h3, Option.getD_some]
      have hvs := hrow' η0 x _ (denL_of_get (by simp [hlen]) hall)
      have hjr : j < (row x).length := by omega
      obtain ⟨u, h3, h4, h5⟩ := h2 j ((row x)[j]) (List.getElem?_eq_getElem hjr)
      rw [hb0, Nat.zero_add] at h3
      have h6 : (enc x)[j]! = u := by
        rw [← hvs]
        have : ((List.range k).map fun j => arr.getD (i * k + j) undef)[j]? = some u := by
          rw [List.getElem?_map, List.getElem?_range hj]
          simp only [Option.map_some, Array.getD_eq_getD_getElem?, h3, Option.getD_some]
        rw [List.getElem!_eq_getElem?_getD, this]; rfl
      rw [h3, h6]
    have split : ∀ t, t < l.length * k → ∃ x, l[t / k]? = some x ∧ t % k < k ∧ t / k * k + t % k = t := by
      intro t ht
      have h1 : t / k < l.length := Nat.div_lt_of_lt_mul (by rw [Nat.mul_comm]; exact ht)
      exact ⟨l[t / k], List.getElem?_eq_getElem h1, Nat.mod_lt _ hk0, by rw [Nat.mul_comm]; exact Nat.div_add_mod t k⟩
    have hsize : l.length * k ≤ arr.size := by rw [hsz]; exact Nat.mul_le_mul_right _ hel
    have hH : HoldsK enc k w0 e.g 0 l.toArray := by
      intro t ht
      rw [size_flatK, List.size_toArray] at ht
      obtain ⟨x, h1, h2, h3⟩ := split t ht
      have h4 := hcell _ x _ h1 h2
      have h5 := (flat_cell (enc := enc) (fun x => (hk x).1) h1 h2).1
      rw [h3] at h4 h5
      refine ⟨by rw [Nat.zero_add, cell_of hheap, h4, h5]; rfl, ?_⟩
      have := hun t (by omega)
      simp only [World.frozen?, hheap, Nat.zero_add]
      simpa using this
    have hFg : F e.g := by
      rcases (H.own.1 0 _ rfl).2 e.g ⟨e, he, .inl rfl⟩ with h | h
      · exact h
      · have h : w0.heap.size ≤ e.g := h
        omega
    have hcl : CmpLays P' g #[] enc k cf e.g 0 l.toArray.size w0 := cmpLays_of hlone (fun h hh => (H.sok (.glob e.g) h hh).2 e.g ⟨⟨e.g, 0, 0⟩, rfl, .inl rfl⟩ |>.2 hFg) hc eg (fun η x => hrow η x) hgl
    have hmain := AnyQ.slices_SortFunc_total L k aE zE enc (fun x => (hk x).1) (fun x u hu => (hrow [] x).2 u hu) cf hO g #[] e.g 0 e.cap l.toArray w0 eg hcl hH hblk (by simpa using hl) hTo
    rw [List.size_toArray] at hmain
    refine hmain.mono ?_
    rintro e1 w' ⟨rfl, n, os, rfl⟩
    refine ⟨_, rfl, fin _ [] ?_ ?_⟩
    · refine ⟨rfl, rfl, rfl, ?_, sortWorldK_size .., fun b hb hnF => sortWorldK_block enc k w0 e.g 0 n _ os hb (fun e => hnF (e ▸ hFg))⟩
      simp [sortWorldK, grow, putRowK, putRow, mapBlock, Sort.ahead]
    · simp only [HpSat, Env.get]
      have hsl : (l.mergeSort fun x y => !(ltOf cf) y x).length = l.length := List.length_mergeSort l
      refine .inr ⟨e, _, Tt, fz, he, sortWorldK_row enc k w0 e.g 0 n _ os hheap, fun _ => ⟨?_, ?_, ?_, hb0⟩, fun i rw1 hi => ?_⟩
      · simp only [putCells, Array.size_mapIdx]; exact hun
      · simp only [putCells, Array.size_mapIdx]; exact hsz
      · rw [List.length_map, hsl]; exact hel
      · rw [List.getElem?_map] at hi
        obtain ⟨x, hx, rfl⟩ := Option.map_eq_some_iff.1 hi
        refine ⟨(hk x).2, fun j sv hj => ?_⟩
        have hjk : j < k := by have := (List.getElem?_eq_some_iff.1 hj).1; have := (hk x).2; omega
        obtain ⟨h5, h6⟩ := flat_cell (enc := enc) (fun x => (hk x).1) hx hjk
        rw [hsl] at h6
        obtain ⟨u, h7, h8⟩ := denL_get (hrow η0 x).1 hj
        refine ⟨u, ?_, (hrow η0 x).2 u (List.mem_of_getElem? h7), h8⟩
        have hlt : i * k + j < arr.size := by omega
        rw [hb0, Nat.zero_add]
        simp only [putCells, Array.getElem?_mapIdx, Array.getElem?_eq_getElem hlt, Option.map_some, Nat.zero_le, true_and, Nat.zero_add, size_flatK, List.size_toArray, hsl, h6, if_true, Nat.sub_zero]
        rw [h5, List.getElem!_eq_getElem?_getD, h7]
        rfl
end Go.Sx
/- Calls walked in place, in the caller's own heap; ranges over functions, the function's walk and the rounds in one. Conditions: none. -/
set_option linter.unusedVariables false
set_option linter.unusedSimpArgs false
namespace Go.Sx
open Go
/-- The same, in another frame, and with these names for what lay there. -/
def Mx.at (M : Mx) (N : Nat) (ro : Option (Nat × Nat)) (η : Env) : Mx := ⟨M.P, ⟨M.C.T, N, M.C.S, ro⟩, M.w0, M.F, η⟩
/-- What stands at the end of a function that is walked in place. -/
def endI (M : Mx) (res : List ResultVar) (K : SV → Hps → Nat → Prop) : Post
  | .normal, fr, O, nx => offGo fr O fun O => retGo M.C fr O res fun vs => K (oneOf vs) O nx
  | .ret, fr, O, nx => offGo fr O fun O => retGo M.C fr O res fun vs => K (oneOf vs) O nx
  | .exit _, _, _, _ => STOP "exit"
/-- The arguments of a round in the slots of what is yielded. -/
def putAK : List Nat → List SV → Fr → (Fr → Prop) → Prop
  | [], ags, fr, K => match ags with
    | [] => match isDfs (lkp DS fr) with
      | true => STOP "round"
      | false => K fr
    | _ :: _ => STOP "round"
  | p :: ps, ags, fr, K => match ags with
    | a :: ags => putAK ps ags ((p, a) :: fr) K
    | [] => STOP "round"
/-- A round's end. -/
def roundB (j : Nat) (K : SV → Hps → Nat → Prop) : Post := fun e fr O nx => match lkp j O with
  | some h => match h with
    | .lp st li fr0 => match st with
      | .busy => match e with
        | .normal => setKK j (.lp .ready li fr0) O fun O => K (.bool true) O nx
        | .ret => setKK j (.lp (.left none) li fr0) O fun O => K (.bool false) O nx
        | .exit id => setKK j (.lp (.left (some id)) li fr0) O fun O => K (.bool false) O nx
      | _ => STOP "record"
    | _ => STOP "record"
  | none => STOP "record"
/-- The body of a round, behind the assignments. -/
def roundA (M : Mx) (j : Nat) (body : Code) (K : SV → Hps → Nat → Prop) : Post := fun e fr O nx => match e with
  | .normal => match lkp j O with
    | some h => match h with
      | .lp st li fr0 => match st with
        | .ready => setKK j (.lp .busy li fr0) O fun O => run M body fr O nx (roundB j K)
        | _ => STOP "record"
      | _ => STOP "record"
    | none => STOP "record"
  | _ => STOP "assignment"
/-- A frame without the calls that are put off. -/
def noDS : Fr → (Fr → Prop) → Prop
  | [], K => K []
  | (t, v) :: r, K => match Nat.beq t DS with
    | true => noDS r K
    | false => noDS r fun r => K ((t, v) :: r)
/-- The frame behind a loop: the place for what its rounds put off is marked. -/
def addDS (fr : Fr) (d : Nat) (K : Fr → Prop) : Prop := match lkp DS fr with
  | some v => match v with
    | .dfs l => K ((DS, .dfs (.ptr (.loc d) 0 0 0 :: l)) :: fr)
    | _ => K ((DS, .dfs [.ptr (.loc d) 0 0 0]) :: fr)
  | none => K ((DS, .dfs [.ptr (.loc d) 0 0 0]) :: fr)
/-- Behind the function that was ranged over: ags the rounds have left the loop. -/
def rangeK (j : Nat) (frK : (Fr → Prop) → Prop) (Q : Post) : SV → Hps → Nat → Prop := fun _ O nx => match lkp j O with
  | some h => match h with
    | .lp st _ _ => match st with
      | .ready => delKK j O fun O => frK fun fr => Q .normal fr O nx
      | .busy => STOP "record"
      | .left jump => match jump with
        | none => delKK j O fun O => frK fun fr => Q .ret fr O nx
        | some id => delKK j O fun O => frK fun fr => Q (.exit id) fr O nx
    | _ => STOP "record"
  | none => STOP "record"
section
variable {M : Mx} {η : Env} {w : World} {O : Hps} {nx : Nat}
theorem SOK.longer (h : SOK M) {η : Env} (hp : M.η0 <+: η) {N : Nat} {ro : Option (Nat × Nat)} : SOK (M.at N ro η) := by
  intro b hh hb
  have hb' : lkS M.C b = some hh := by cases b <;> exact hb
  obtain ⟨h1, h2⟩ := h b hh hb'
  obtain ⟨x, hx, _⟩ := h1.lt
  exact ⟨h1.mono hp, fun k f => h2 k (feet.less hp hx f)⟩
theorem HeapOK.at (H : HeapOK M η w O nx) {N : Nat} {ro : Option (Nat × Nat)} : HeapOK (M.at N ro η) η w O nx := ⟨List.prefix_rfl, H.len, H.own, H.fr, H.sok.longer H.pre⟩
theorem HeapOK.back {η0 : Env} {N : Nat} {ro : Option (Nat × Nat)} (H : HeapOK (M.at N ro η0) η w O nx) (hp : M.η0 <+: η0) (hs : SOK M) : HeapOK M η w O nx := ⟨hp.trans H.pre, H.len, H.own, H.fr, hs⟩
/-- What a function does, by the walk of its body in the caller's own heap. -/
theorem calls_of_run (hT : TabOK M.P M.C.T) {g : FuncId} {fn : Func} {c : Code} (hf : M.P.funcs[g]? = some fn) (hb : fn.body = some c) (N : Nat) (hN : fn.ntmps = N) (hND : N ≤ DS) {args : List SV} (hlen : args.length ≤ N) {res : List ResultVar} (hres : fn.results = res.toArray)
    {K : SV → Hps → Nat → Prop} {vs : List Value} (H : HeapOK M η w O nx) (hd : DenL η args vs) (h : run (M.at N none η) c (argFr 0 args) O nx (endI (M.at N none η) res K))
    {R : Ending → World → Prop} (hR : ∀ v r w' O' nx' η', η <+: η' → HeapOK M η' w' O' nx' → Den η' r v → K r O' nx' → R (.returned v) w') : Calls M.P g ⟨vs⟩ w R := by
  have hl := denL_len hd
  refine callsIn_wide (n := 0) |>.1 (callsIn_of_wp_marks hf hb trivial ?_)
  have hm : Models (M.at N none η) η (argFr 0 args) O nx { tmps := ⟨vs⟩ ++ Array.replicate (fn.ntmps - (Array.mk vs).size) undef, defers := [] } w := by
    refine ⟨H.at, ?_, hND, argFr_nd (Nat.le_trans hlen hND), (fun l j h => by cases h), ?_⟩
    · simp only [Array.size_append, Array.size_replicate, hN, List.size_toArray]
      show vs.length + (N - vs.length) = N
      omega
    · intro t sv ht
      obtain ⟨v, _, h1, h2⟩ := argFr_ok hd ht
      have hlt := (List.getElem?_eq_some_iff.1 h1).1
      simp only [Nat.sub_zero] at h1 hlt
      rw [Array.getD_eq_getD_getElem?, Array.getElem?_append_left (by simpa using hlt)]
      have : (Array.mk vs)[t]? = some v := by simpa using h1
      rw [this]; exact h2
  refine Code.wpIn_mono ?_ (run_sound (M := M.at N none η) hT c h η _ w hm)
  have fin : ∀ {η1 : Env} {fr1 : Fr} {O1 : Hps} {nx1 : Nat} {a : Act} {w1 : World}, Models (M.at N none η) η1 fr1 O1 nx1 a w1 → (offGo fr1 O1 fun O1 => retGo (M.at N none η).C fr1 O1 res fun vs => K (oneOf vs) O1 nx1) →
      LeavesInM Fence.wide 0 M.P fn a.tmps R a.defers .returning w1 := by
    intro η1 fr1 O1 nx1 a w1 hm1 hr
    exact end_sound (M := M.at N none η) hT hres hm1 hr fun w2 O2 v r H2 hd2 hk => hR v r w2 O2 nx1 η1 H2.pre (H2.back H.pre H.sok) hd2 hk
  intro e a w hq
  cases e with
  | normal => obtain ⟨η1, fr1, O1, nx1, hm1, hq⟩ := hq; exact fin hm1 hq
  | ret => obtain ⟨η1, fr1, O1, nx1, hm1, hq⟩ := hq; exact fin hm1 hq
  | exit id => obtain ⟨η1, fr1, O1, nx1, hm1, hq⟩ := hq; exact hq.out.elim
  | goto l => exact hq.elim
  | panic ch => exact hq.elim
  | outgrown => exact hq.elim
/-- A call, walked in place. -/
theorem CALL.inline (hT : TabOK M.P M.C.T) {f g : FuncId} {fn : Func} {c : Code} {args : List SV} {K : SV → Hps → Nat → Prop} (hcall : ∀ args w, (callFunc f args).run M.P w = .ok (.enter g args) w) (hf : M.P.funcs[g]? = some fn) (hb : fn.body = some c) (N : Nat) (hN : fn.ntmps = N)
    (hlen : Nat.ble args.length N = true) (res : List ResultVar) (hres : fn.results = res.toArray) (h : ∀ η0 : Env, η0.length = nx → run (M.at N none η0) c (argFr 0 args) O nx (endI (M.at N none η0) res K)) (hND : Nat.ble N DS = true := by rfl) : CALL M f args O nx K :=
  ⟨fun η w vs H hd => .inl ⟨g, hcall _ _, calls_of_run hT hf hb N hN (Nat.le_of_ble_eq_true hND) (Nat.le_of_ble_eq_true hlen) hres H hd (h η H.len) fun v r w' O' nx' η' hp H' hd' hk => ⟨v, rfl, r, O', nx', η', hp, H', hd', hk⟩⟩⟩
/-! ### Rounds -/
def setAll : List Nat → List Value → Array Value → Array Value
  | p :: ps, v :: vs, t => setAll ps vs (t.setIfInBounds p v)
  | _, _, t => t
theorem foldl_setAll : ∀ (ps : List Nat) (vs : List Value) (t : Array Value), ((ps.toArray.zip ⟨vs⟩).foldl (fun tmps (p : Nat × Value) => tmps.setIfInBounds p.1 p.2) t) = setAll ps vs t := by
  intro ps vs t
  have h1 : (ps.toArray.zip ⟨vs⟩ : Array (Nat × Value)) = (ps.zip vs).toArray := by simp
  rw [h1, ← Array.foldl_toList]
  simp only
  induction ps generalizing vs t with
  | nil => simp [setAll]
  | cons p ps ih =>
    cases vs with
    | nil => simp [setAll]
    | cons v vs =>
      simp only [List.zip_cons_cons, List.foldl_cons, setAll]
      exact ih vs (t.setIfInBounds p v) (by simp)
theorem setAll_size : ∀ (ps : List Nat) (vs : List Value) (t : Array Value), (setAll ps vs t).size = t.size
  | [], vs, t => by simp [setAll]
  | p :: ps, [], t => by simp [setAll]
  | p :: ps, v :: vs, t => by simp only [setAll]; rw [setAll_size ps vs]; simp
theorem putAK_ok {η : Env} : ∀ {ps : List Nat} {ags : List SV} {fr : Fr} {K : Fr → Prop} {vs : List Value} {t : Array Value}, putAK ps ags fr K → DenL η ags vs → TmpsOK η t fr → (∀ p ∈ ps, p < t.size) → ∃ fr', K fr' ∧ isDfs (lkp DS fr') = false ∧ TmpsOK η (setAll ps vs t) fr' ∧ vs.length = ps.length
  | [], ags, fr, K, vs, t, h, hd, ht, hp => by
    simp only [putAK] at h
    split at h
    · split at h
      · exact h.out.elim
      · rename_i hn
        simp only [DenL] at hd
        subst hd
        exact ⟨fr, h, hn, ht, rfl⟩
    · exact h.out.elim
  | p :: ps, ags, fr, K, vs, t, h, hd, ht, hp => by
    simp only [putAK] at h
    split at h
    · rename_i a ags
      simp only [DenL] at hd
      obtain ⟨u, us, rfl, h1, h2⟩ := hd
      have hpt := hp p (List.mem_cons_self ..)
      obtain ⟨fr', h3, h4, h5, h6⟩ := putAK_ok (t := t.setIfInBounds p u) h h2 (fun s sv hs => by
        rw [lkp_cons] at hs
        split at hs
        · rename_i e; subst e; injection hs with hs; subst hs
          simpa [Array.getD_eq_getD_getElem?, Array.getElem?_setIfInBounds, hpt] using h1
        · rename_i e
          rw [Array.getD_eq_getD_getElem?, Array.getElem?_setIfInBounds, if_neg (Ne.symm e), ← Array.getD_eq_getD_getElem?]
          exact ht s sv hs) (fun q hq => by rw [Array.size_setIfInBounds]; exact hp q (List.mem_cons_of_mem _ hq))
      exact ⟨fr', h3, h4, h5, by simp [h6]⟩
    · exact h.out.elim
/-- The record is turned. -/
theorem HeapOK.record (H : HeapOK M η w O nx) {j : Nat} {st st' : LpS} {li : LpI} {fr0 : Fr} (hj : lkp j O = some (.lp st li fr0)) {e : Ent} (he : η[j]? = some (some e)) :
    ∃ r, w.heap[e.g]? = some (.loop r) ∧ r.state = st.state ∧ r.pending = st.jump ∧ ∀ r' : Loop, r'.state = st'.state → r'.pending = st'.jump → r'.params = r.params → r'.assign = r.assign → r'.body = r.body → r'.tmps = r.tmps → HeapOK M η (w.putObj e.g (.loop r')) (setK j (.lp st' li fr0) O) nx := by
  have hs := (H.own.1 j _ hj).1
  simp only [HpSat] at hs
  obtain ⟨e', r, h1, h2, h3, h4, h5, h6, h7, h8, h9, h10⟩ := hs
  have h1' : η[j]? = some (some e') := h1
  rw [he] at h1'
  injection h1' with h1'
  injection h1' with h1'
  subst h1'
  have hlt := (Array.getElem?_eq_some_iff.1 h3).1
  refine ⟨r, h3, h4, h5, fun r' q1 q2 q3 q4 q5 q6 => ?_⟩
  refine H.upd hj he (fun k hk => World.putObj_heap_other hk) World.putObj_size rfl rfl rfl ?_
  simp only [HpSat]
  exact ⟨e, r', h1, h2, World.putObj_heap_same hlt, q1, q2, by rw [q3]; exact h6, by rw [q4]; exact h7, by rw [q5]; exact h8, by rw [q6]; exact h9, by rw [q6]; exact h10⟩
/-- A round: the assignments and the body are walked in place, in the frame with which the loop was come to. -/
theorem YIELD.of (hT : TabOK M.P M.C.T) {j : Nat} {li : LpI} {fr0 : Fr} {args : List SV} {K : SV → Hps → Nat → Prop} (hj : lkp j O = some (.lp .ready li fr0)) (hps : li.ps.all (fun p => Nat.blt p li.N) = true) (hND : Nat.ble li.N DS = true)
    (h : ∀ (η1 : Env) (l : Nat), η1.length = nx → putAK li.ps args fr0 fun fr => run (M.at li.N (some (l, j)) η1) li.asg fr O nx (roundA (M.at li.N (some (l, j)) η1) j li.body K)) : YIELD M j args O nx K := by
  refine ⟨fun η w vs e H hd he => ?_⟩
  obtain ⟨r, hr, hst, hpe, _⟩ := H.record (st' := .ready) hj he
  have hs := (H.own.1 j _ hj).1
  simp only [HpSat] at hs
  obtain ⟨e', r', h1, h2, h3, h4, h5, h6, h7, h8, h9, h10⟩ := hs
  have h1' : η[j]? = some (some e') := h1
  rw [he] at h1'
  injection h1' with h1'
  injection h1' with h1'
  subst h1'
  rw [hr] at h3
  injection h3 with h3
  injection h3 with h3
  subst h3
  obtain ⟨fr, hrun, hnd, htm, hlen⟩ := putAK_ok (h η e.g H.len) hd h10 (fun p hp => by rw [h9]; simpa [Nat.blt_eq] using List.all_eq_true.1 hps p hp)
  have hpr : r.params = li.ps.toArray := by rw [← h6]
  refine ⟨r.fn, _, r.assign, r.body, run_yield hr (by rw [hpr]; simpa using hlen), ?_⟩
  rw [h7, h8]
  have hfold : ((r.params.zip ⟨vs⟩).foldl (fun tmps (x : Nat × Value) => tmps.setIfInBounds x.1 x.2) r.tmps) = setAll li.ps vs r.tmps := by rw [hpr]; exact foldl_setAll li.ps vs r.tmps
  have hfold' : ((r.params.zip ⟨vs⟩).foldl (fun tmps x => match x with | (t, a) => tmps.setIfInBounds t a) r.tmps) = setAll li.ps vs r.tmps := hfold
  rw [hfold']
  generalize hMr : M.at li.N (some (e.g, j)) η = Mr at hrun
  have hTr : TabOK Mr.P Mr.C.T := by subst hMr; exact hT
  have hPr : Mr.P = M.P := by subst hMr; rfl
  have hfr : Mr.fence = Fence.wide.inRound e.g := by subst hMr; rfl
  have hm : Models Mr η fr O nx { tmps := setAll li.ps vs r.tmps, defers := [] } w := by
    subst hMr
    refine ⟨H.at, by rw [setAll_size]; exact h9, Nat.le_of_ble_eq_true hND, (DfOK.no hnd).2 rfl, fun l' j' hl => ?_, htm⟩
    injection hl with hl
    injection hl with hl1 hl2
    subst hl1 hl2
    exact ⟨e, he, rfl⟩
  refine roundIn_of_wpIn trivial ?_
  rw [← hPr, ← hfr]
  refine Code.wpIn_mono ?_ (run_sound hTr li.asg hrun η _ w hm)
  intro ex a1 w1 hq
  cases ex with
  | exit id => obtain ⟨η1, fr1, O1, nx1, hm1, hq⟩ := hq; exact hq.out.elim
  | ret => obtain ⟨η1, fr1, O1, nx1, hm1, hq⟩ := hq; exact hq.out.elim
  | goto l => exact hq.elim
  | panic ch => exact hq.elim
  | outgrown => exact hq.elim
  | normal =>
    obtain ⟨η1, fr1, O1, nx1, hm1, hq⟩ := hq
    simp only [roundA] at hq
    split at hq
    case h_2 => exact hq.out.elim
    rename_i hh hj1
    split at hq
    case h_2 => exact hq.out.elim
    rename_i st1 li1 fr01
    split at hq
    case h_2 => exact hq.out.elim
    rw [setKK_iff] at hq
    obtain ⟨e1, he1, heg⟩ := hm1.ro e.g j (by subst hMr; rfl)
    obtain ⟨r1, hr1, hs1, hp1, hup1⟩ := hm1.heap.record (st' := .busy) hj1 he1
    rw [heg] at hr1 hup1
    refine ⟨_, run_beginRound hr1 hs1, ?_⟩
    have hm2 : Models Mr η1 fr1 (setK j (.lp .busy li1 fr01) O1) nx1 a1 (w1.putObj e.g (.loop { r1 with state := .busy })) := ⟨hup1 _ rfl hp1 rfl rfl rfl rfl, hm1.size, hm1.nds, hm1.defers, hm1.ro, hm1.frame⟩
    refine Code.wpIn_mono ?_ (run_sound hTr li.body hq η1 a1 _ hm2)
    -- the end of the round
    have fin : ∀ {ex : Ex} {η2 : Env} {fr2 : Fr} {O2 : Hps} {nx2 : Nat} {a2 : Act} {w2 : World} (jump : Option Code), Models Mr η2 fr2 O2 nx2 a2 w2 → roundB j K ex fr2 O2 nx2 → (match ex with | .normal => jump = none | .ret => jump = some .ret | .exit id => jump = some (.exit id)) →
        ∃ v w', (Instr.endRound e.g jump).run Mr.P w2 = .ok v w' ∧ ∃ v', Ending.returned v = .returned v' ∧ ∃ r O' nx' η', η <+: η' ∧ HeapOK M η' w' O' nx' ∧ Den η' r v' ∧ K r O' nx' := by
      intro ex η2 fr2 O2 nx2 a2 w2 jump hm2 hq hj'
      unfold roundB at hq
      split at hq
      case h_2 => exact hq.out.elim
      rename_i hh hj2
      split at hq
      case h_2 => exact hq.out.elim
      rename_i st2 li2 fr02
      split at hq
      case h_2 => exact hq.out.elim
      obtain ⟨e2, he2, heg2⟩ := hm2.ro e.g j (by subst hMr; rfl)
      have hpre : η <+: η2 := by have := hm2.heap.pre; subst hMr; exact this
      have back : ∀ {w' : World} {O' : Hps}, HeapOK Mr η2 w' O' nx2 → HeapOK M η2 w' O' nx2 := fun h => by subst hMr; exact h.back H.pre H.sok
      cases ex with
      | normal =>
        simp only at hj'
        subst hj'
        simp only [setKK_iff] at hq
        obtain ⟨r2, hr2, hs2, hp2, hup2⟩ := hm2.heap.record (st' := .ready) hj2 he2
        rw [heg2] at hr2 hup2
        exact ⟨_, _, run_endRound none hr2, _, rfl, .bool true, _, _, η2, hpre, back (hup2 _ rfl rfl rfl rfl rfl rfl), (by simp only [Den]; rfl), hq⟩
      | ret =>
        simp only at hj'
        subst hj'
        simp only [setKK_iff] at hq
        obtain ⟨r2, hr2, hs2, hp2, hup2⟩ := hm2.heap.record (st' := .left none) hj2 he2
        rw [heg2] at hr2 hup2
        exact ⟨_, _, run_endRound (some .ret) hr2, _, rfl, .bool false, _, _, η2, hpre, back (hup2 _ rfl rfl rfl rfl rfl rfl), (by simp only [Den]; rfl), hq⟩
      | exit id =>
        simp only at hj'
        subst hj'
        simp only [setKK_iff] at hq
        obtain ⟨r2, hr2, hs2, hp2, hup2⟩ := hm2.heap.record (st' := .left (some id)) hj2 he2
        rw [heg2] at hr2 hup2
        exact ⟨_, _, run_endRound (some (.exit id)) hr2, _, rfl, .bool false, _, _, η2, hpre, back (hup2 _ rfl rfl rfl rfl rfl rfl), (by simp only [Den]; rfl), hq⟩
    intro ex a2 w2 hq2
    cases ex with
    | normal => obtain ⟨η2, fr2, O2, nx2, hm2, hq2⟩ := hq2; exact fin none hm2 hq2 rfl
    | ret => obtain ⟨η2, fr2, O2, nx2, hm2, hq2⟩ := hq2; exact fin (some .ret) hm2 hq2 rfl
    | exit id => obtain ⟨η2, fr2, O2, nx2, hm2, hq2⟩ := hq2; exact fin (some (.exit id)) hm2 hq2 rfl
    | goto l => exact hq2.elim
    | panic ch => exact hq2.elim
    | outgrown => exact hq2.elim
/-! ### The statement -/
theorem noDS_ok {K : Fr → Prop} : ∀ {fr : Fr}, noDS fr K → ∃ fr0, K fr0 ∧ lkp DS fr0 = none ∧ ∀ t v, lkp t fr0 = some v → lkp t fr = some v
  | [], h => ⟨[], h, rfl, fun t v h => h⟩
  | (d, u) :: r, h => by
    unfold noDS at h
    split at h
    · rename_i e
      have e := beq_eq e
      obtain ⟨fr0, h1, h0, h2⟩ := noDS_ok h
      refine ⟨fr0, h1, h0, fun t v ht => ?_⟩
      rw [lkp_cons]
      split
      · rename_i e2
        rw [e2, e, h0] at ht; cases ht
      · exact h2 t v ht
    · rename_i e
      have e := ne_of_beq e
      obtain ⟨fr0, h1, h0, h2⟩ := noDS_ok h
      refine ⟨(d, u) :: fr0, h1, by rw [lkp_cons, if_neg (Ne.symm e)]; exact h0, fun t v ht => ?_⟩
      rw [lkp_cons] at ht ⊢
      split
      · rename_i e; rw [if_pos e] at ht; exact ht
      · rename_i e; rw [if_neg e] at ht; exact h2 t v ht
theorem range_core (hT : TabOK M.P M.C.T) {gf g : FuncId} {fn : Func} {c : Code} {cap : List SV} (hcall : ∀ args w, (callFunc gf args).run M.P w = .ok (.enter g args) w) (hf : M.P.funcs[g]? = some fn) (hb : fn.body = some c) (N : Nat) (hN : fn.ntmps = N) (hND : N ≤ DS) (hlen : cap.length + 1 ≤ N) (hres : fn.results = #[])
    {f : Operand} {Q : Post} {a a' : Act} {η1 : Env} {w1 : World} {O1 : Hps} {n1 j l : Nat} (hev : ∃ vs, a.eval f = .func (.func gf) #[] ⟨vs⟩ ∧ DenL η1 cap vs) (H1 : HeapOK M η1 w1 O1 n1) (hj : η1[j]? = some (some ⟨l, 0, 0⟩)) {frK : (Fr → Prop) → Prop}
    (hfrK : ∀ {K : Fr → Prop}, frK K → ∃ fr', K fr' ∧ ∀ η' w' O' nx', η1 <+: η' → HeapOK M η' w' O' nx' → Models M η' fr' O' nx' a' w')
    (h : run (M.at N none η1) c (argFr 0 (.yf (.loc j) :: cap)) O1 n1 (endI (M.at N none η1) [] (rangeK j frK Q))) :
    ∃ (d : Deferred) (w1' : World) (f' : FuncId) (args : Array Value) (w2 : World), (resolve a.eval (rangeCall f l) 0).run M.P w1 = .ok d w1' ∧ (∀ f', Target.leads M.P w1' d.target d.args = some f' → M.fence.fn f') ∧ (invoke d.target d.args).run M.P w1' = .ok (.enter f' args) w2 ∧
      (M.fence.depth.isSome = true → 1 ≤ 0) ∧ CallsIn M.fence (0 - 1) M.P f' args w2 (rangePost M.fence 0 M.P l (liftQ M Q) a') := by
  obtain ⟨vs, hv, hd⟩ := hev
  refine ⟨{ target := .fn (.func gf) ⟨vs⟩, args := #[.func (.yield l) #[] #[]] }, w1, g, #[.func (.yield l) #[] #[]] ++ ⟨vs⟩, w1, ?_, fun f' _ => M.all f', ?_, (fun h => by cases h), ?_⟩
  · simp only [resolve, hv]
    simp [go_sem]
  · simp [invoke, go_sem, hcall]
  · have hargs : (#[.func (.yield l) #[] #[]] ++ (⟨vs⟩ : Array Value)) = ⟨Value.func (.yield l) #[] #[] :: vs⟩ := by apply Array.ext'; simp
    rw [hargs]
    have hd1 : DenL η1 (.yf (.loc j) :: cap) (Value.func (.yield l) #[] #[] :: vs) := by
      simp only [DenL, Den]
      exact ⟨_, _, rfl, ⟨_, hj, rfl⟩, hd⟩
    refine callsIn_wide.2 (calls_of_run hT hf hb N hN hND (by simpa using hlen) (by simpa using hres) H1 hd1 h fun v r w' O' nx' η' hp H' hd' hk => ?_)
    unfold rangeK at hk
    split at hk
    case h_2 => exact hk.out.elim
    rename_i hh hj'
    split at hk
    case h_2 => exact hk.out.elim
    rename_i st li fr0
    have hje : η'[j]? = some (some ⟨l, 0, 0⟩) := Env.get_mono (b := .loc j) hp hj
    obtain ⟨r1, hr1, hs1, hp1, _⟩ := H'.record (st' := .ready) hj' hje
    obtain ⟨s1, p1, c1, c2, c3, c4, c5, c6⟩ := r1
    simp only at hr1 hs1 hp1
    subst hs1 hp1
    have hdrop : HeapOK M η' (w'.putObj l (.loop { state := .exhausted, pending := st.jump, fn := c1, tmps := c2, params := c3, assign := c4, body := c5, defers := c6 })) (delK j O') nx' := H'.drop hj' hje (fun k hk => World.putObj_heap_other hk) World.putObj_size rfl rfl rfl (Nat.le_refl _)
    split at hk
    · rw [delKK_iff] at hk
      obtain ⟨fr', h1, h2⟩ := hfrK hk
      exact ⟨_, _, run_endLoop hr1 (by simp [LpS.state]), ⟨η', fr', _, nx', h2 η' _ _ _ hp hdrop, h1⟩⟩
    · exact hk.out.elim
    · split at hk
      · rw [delKK_iff] at hk
        obtain ⟨fr', h1, h2⟩ := hfrK hk
        exact ⟨_, _, run_endLoop hr1 (by simp [LpS.state]), wpIn_ret ⟨η', fr', _, nx', h2 η' _ _ _ hp hdrop, h1⟩⟩
      · rw [delKK_iff] at hk
        obtain ⟨fr', h1, h2⟩ := hfrK hk
        exact ⟨_, _, run_endLoop hr1 (by simp [LpS.state]), wpIn_exit ⟨η', fr', _, nx', h2 η' _ _ _ hp hdrop, h1⟩⟩
theorem addDS_ok {fr : Fr} {d : Nat} {K : Fr → Prop} (h : addDS fr d K) : ∃ l, K ((DS, .dfs (.ptr (.loc d) 0 0 0 :: l)) :: fr) ∧ ∀ {η : Env} {ds : List Deferred}, DfOK η ds (lkp DS fr) → DfL η l ds := by
  unfold addDS at h
  split at h
  · rename_i v hv
    split at h
    · rename_i l
      exact ⟨l, h, fun hd => by rw [hv] at hd; exact hd⟩
    · rename_i hn
      refine ⟨[], h, fun hd => ?_⟩
      rw [hv] at hd
      have : isDfs (some v) = false := by cases v <;> first | rfl | exact (hn _ rfl).elim
      rw [DfOK.no this] at hd
      subst hd; rfl
  · rename_i hv
    refine ⟨[], h, fun hd => ?_⟩
    rw [hv] at hd
    have hd : _ = [] := hd
    subst hd; rfl
/-- A range over a function that stands in no round: it and its rounds are walked in one. -/
theorem RANGEF.of (hT : TabOK M.P M.C.T) {f : Operand} {ps : Array Tmp} {asg body : Code} {fr : Fr} {Q : Post} {gf g : FuncId} {cap : List SV} {fn : Func} {c : Code} (hcall : ∀ args w, (callFunc gf args).run M.P w = .ok (.enter g args) w) (hf : M.P.funcs[g]? = some fn) (hb : fn.body = some c) (N : Nat) (hN : fn.ntmps = N)
    (li : LpI) (hli : li = ⟨M.C.N, ps.toList, asg, body⟩) (hv : lookF fr f = some (.fn (.func gf) [] cap)) (hlen : Nat.ble (cap.length + 1) N = true) (hres : fn.results = #[]) (hro : M.C.ro = none)
    (h : noDS fr fun fr0 => ∀ η1 : Env, η1.length = nx + 2 → run (M.at N none η1) c (argFr 0 (.yf (.loc (nx + 1)) :: cap)) ((nx + 1, .lp .ready li fr0) :: (nx, .dfr) :: O) (nx + 2) (endI (M.at N none η1) [] (rangeK (nx + 1) (addDS fr nx) Q))) (hND : Nat.ble N DS = true := by rfl) : RANGEF M f ps asg body fr O nx Q := by
  obtain ⟨fr0, h, _, hfr0⟩ := noDS_ok h
  refine ⟨fun η a w hm => wpIn_rangeFunc fun fnid _ => ?_⟩
  have hround : M.fence.round = none := by simp [Mx.fence, hro]
  rw [hround]
  obtain ⟨rec, hrec⟩ : ∃ rec : Loop, rec = { state := .ready, pending := none, fn := fnid, tmps := a.tmps, params := ps, assign := asg, body, defers := w.heap.size } := ⟨_, rfl⟩
  have hl := hm.heap.len
  obtain ⟨η1, hη1⟩ : ∃ η1 : Env, η1 = η ++ [some ⟨w.heap.size, 0, 0⟩] := ⟨_, rfl⟩
  have H1 : HeapOK M η1 (w.alloc (.deferred (some []))) ((nx, .dfr) :: O) (nx + 1) := by
    rw [hη1]
    refine hm.heap.alloc (w' := w.alloc (.deferred (some []))) (o := .deferred (some [])) (h := .dfr) rfl rfl rfl rfl 0 0 ?_
    simp only [HpSat]
    exact ⟨⟨w.heap.size, 0, 0⟩, by simp [Env.get, ← hl], rfl, World.alloc_heap_new w _⟩
  have hl1 := H1.len
  obtain ⟨η2, hη2⟩ : ∃ η2 : Env, η2 = η1 ++ [some ⟨w.heap.size + 1, 0, 0⟩] := ⟨_, rfl⟩
  have hsz : (w.alloc (.deferred (some []))).heap.size = w.heap.size + 1 := World.size_alloc _ _
  have hpre : η <+: η2 := by rw [hη2, hη1, List.append_assoc]; exact List.prefix_append _ _
  have hj2 : η2[nx + 1]? = some (some ⟨w.heap.size + 1, 0, 0⟩) := by rw [hη2, ← hl1]; simp
  have hd2 : η2[nx]? = some (some ⟨w.heap.size, 0, 0⟩) := by
    rw [hη2, List.getElem?_append_left (by omega), hη1, ← hl]; simp
  have H2 : HeapOK M η2 ((w.alloc (.deferred (some []))).alloc (.loop rec)) ((nx + 1, .lp .ready li fr0) :: (nx, .dfr) :: O) (nx + 2) := by
    have := H1.alloc (w' := (w.alloc (.deferred (some []))).alloc (.loop rec)) (o := .loop rec) (h := .lp .ready li fr0) rfl rfl rfl rfl 0 0 (by
      rw [hsz, ← hη2]
      simp only [HpSat]
      refine ⟨_, rec, hj2, rfl, by rw [← hsz]; exact World.alloc_heap_new _ _, ?_⟩
      subst hrec hli
      exact ⟨rfl, rfl, rfl, rfl, rfl, hm.size, fun t sv ht => (hm.frame t sv (hfr0 t sv ht)).mono hpre⟩)
    rw [hsz, ← hη2] at this
    exact this
  have hev : ∃ vs, a.eval f = .func (.func gf) #[] ⟨vs⟩ ∧ DenL η2 cap vs := by
    have := lookF_den hm.frame hv
    simp only [Den, DenL] at this
    obtain ⟨us, vs, h1, rfl, h3⟩ := this
    exact ⟨vs, h1, h3.mono hpre⟩
  obtain ⟨d, w1', f', args, w2, q1, q2, q3, q4, q5⟩ := range_core (a' := { a with defers := [{ target := .collected w.heap.size, args := #[] }] ++ a.defers }) hT hcall hf hb N hN (Nat.le_of_ble_eq_true hND) (Nat.le_of_ble_eq_true hlen) hres hev H2 hj2 (frK := addDS fr nx) (fun {K} hk => by
    obtain ⟨l, h1, h2⟩ := addDS_ok hk
    refine ⟨_, h1, fun η' w' O' nx' hp H' => ⟨H', hm.size, hm.nds, ?_, ro_mono (hpre.trans hp) hm.ro, fun t sv ht => ?_⟩⟩
    · rw [lkp_cons, if_pos rfl]
      exact ⟨⟨w.heap.size, 0, 0⟩, a.defers, Env.get_mono (b := .loc nx) hp hd2, rfl, h2 (hm.defers.mono (hpre.trans hp))⟩
    · rw [lkp_cons] at ht
      split at ht
      · injection ht with ht; subst ht; simp only [Den]
      · exact (hm.frame t sv ht).mono (hpre.trans hp)) (h η2 H2.len)
  refine ⟨w.heap.size + 1, [{ target := .collected w.heap.size, args := #[] }], _, d, w1', f', args, w2, run_enterLoop_outer _ _ _ _ _, ?_, q2, q3, q4, q5⟩
  rw [hrec] at q1
  exact q1
/-- A range over a function within a round. -/
theorem RANGEF.within (hT : TabOK M.P M.C.T) {f : Operand} {ps : Array Tmp} {asg body : Code} {fr : Fr} {Q : Post} {gf g : FuncId} {cap : List SV} {fn : Func} {c : Code} (hcall : ∀ args w, (callFunc gf args).run M.P w = .ok (.enter g args) w) (hf : M.P.funcs[g]? = some fn) (hb : fn.body = some c) (N : Nat) (hN : fn.ntmps = N)
    (li : LpI) (hli : li = ⟨M.C.N, ps.toList, asg, body⟩) (hv : lookF fr f = some (.fn (.func gf) [] cap)) (hlen : Nat.ble (cap.length + 1) N = true) (hres : fn.results = #[]) {l0 j0 : Nat} (hro : M.C.ro = some (l0, j0)) {st0 : LpS} {li0 : LpI} {fr00 : Fr} (hj0 : lkp j0 O = some (.lp st0 li0 fr00))
    (h : noDS fr fun fr0 => ∀ η1 : Env, η1.length = nx + 1 → run (M.at N none η1) c (argFr 0 (.yf (.loc nx) :: cap)) ((nx, .lp .ready li fr0) :: O) (nx + 1) (endI (M.at N none η1) [] (rangeK nx (fun K => K fr) Q))) (hND : Nat.ble N DS = true := by rfl) : RANGEF M f ps asg body fr O nx Q := by
  obtain ⟨fr0, h, _, hfr0⟩ := noDS_ok h
  refine ⟨fun η a w hm => wpIn_rangeFunc fun fnid _ => ?_⟩
  have hround : M.fence.round = some l0 := by simp [Mx.fence, hro]
  rw [hround]
  obtain ⟨e0, he0, rfl⟩ := hm.ro l0 j0 hro
  obtain ⟨r0, hr0, _⟩ := hm.heap.record (st' := .ready) hj0 he0
  obtain ⟨rec, hrec⟩ : ∃ rec : Loop, rec = { state := .ready, pending := none, fn := fnid, tmps := a.tmps, params := ps, assign := asg, body, defers := r0.defers } := ⟨_, rfl⟩
  have hl := hm.heap.len
  obtain ⟨η2, hη2⟩ : ∃ η2 : Env, η2 = η ++ [some ⟨w.heap.size, 0, 0⟩] := ⟨_, rfl⟩
  have hpre : η <+: η2 := by rw [hη2]; exact List.prefix_append _ _
  have hj2 : η2[nx]? = some (some ⟨w.heap.size, 0, 0⟩) := by rw [hη2, ← hl]; simp
  have H2 : HeapOK M η2 (w.alloc (.loop rec)) ((nx, .lp .ready li fr0) :: O) (nx + 1) := by
    rw [hη2]
    refine hm.heap.alloc (w' := w.alloc (.loop rec)) (o := .loop rec) (h := .lp .ready li fr0) rfl rfl rfl rfl 0 0 ?_
    rw [← hη2]
    simp only [HpSat]
    refine ⟨_, rec, hj2, rfl, World.alloc_heap_new _ _, ?_⟩
    subst hrec hli
    exact ⟨rfl, rfl, rfl, rfl, rfl, hm.size, fun t sv ht => (hm.frame t sv (hfr0 t sv ht)).mono hpre⟩
  have hev : ∃ vs, a.eval f = .func (.func gf) #[] ⟨vs⟩ ∧ DenL η2 cap vs := by
    have := lookF_den hm.frame hv
    simp only [Den, DenL] at this
    obtain ⟨us, vs, h1, rfl, h3⟩ := this
    exact ⟨vs, h1, h3.mono hpre⟩
  obtain ⟨d, w1', f', args, w2, q1, q2, q3, q4, q5⟩ := range_core (a' := { a with defers := [] ++ a.defers }) hT hcall hf hb N hN (Nat.le_of_ble_eq_true hND) (Nat.le_of_ble_eq_true hlen) hres hev H2 hj2 (frK := fun K => K fr) (fun {K} hk =>
    ⟨_, hk, fun η' w' O' nx' hp H' => ⟨H', hm.size, hm.nds, hm.defers.mono (hpre.trans hp), ro_mono (hpre.trans hp) hm.ro, fun t sv ht => (hm.frame t sv ht).mono (hpre.trans hp)⟩⟩) (h η2 H2.len)
  refine ⟨w.heap.size, [], _, d, w1', f', args, w2, run_enterLoop_inner hr0 _ _ _ _ _, ?_, q2, q3, q4, q5⟩
  rw [hrec] at q1
  exact q1
end
theorem FIN.weak {M : Mx} {O O1 : Hps} {nx n1 : Nat} {r r1 : SV} {Q : SV → Hps → Nat → Prop} (h : ∀ η w v, HeapOK M η w O nx → Den η r v → ∃ η', η <+: η' ∧ HeapOK M η' w O1 n1 ∧ Den η' r1 v) (hf : FIN M O1 n1 r1 Q) : FIN M O nx r Q :=
  ⟨fun η w v H hd => let ⟨η1, h1, h2, h3⟩ := h η w v H hd; hf.out η1 w v h2 h3⟩
theorem FIN.nil {M : Mx} {O : Hps} {nx : Nat} {Q : SV → Hps → Nat → Prop} (es : Nat) (hf : FIN M ((nx, .rows es []) :: O) (nx + 1) (.sl (.loc nx) 0 es 0 none) Q) : FIN M O nx (.val (.slice none 0 0)) Q := by
  refine FIN.weak (fun η w v H hd => ?_) hf
  have hnew : (η ++ [none])[nx]? = some none := by rw [List.getElem?_append_right (by rw [H.len]; omega), H.len]; simp
  refine ⟨η ++ [none], List.prefix_append _ _, H.push none (fun _ _ => rfl) (Nat.le_refl _) rfl rfl rfl (Nat.le_refl _) (.inl ⟨hnew, rfl⟩) (fun k f => (feet.none (b := .loc nx) hnew f).elim) (fun k f => (feet.none (b := .loc nx) hnew f).elim), ?_⟩
  simp only [Den] at hd ⊢
  exact .inl ⟨hnew, hd.1, trivial⟩
theorem FIN.nilCell {M : Mx} {O : Hps} {nx : Nat} {r : SV} {Q : SV → Hps → Nat → Prop} (i j es : Nat) {row row' : List SV} (hi : lkp i O = some (.box row)) (hr : nilAt nx es j row = some row') (hf : FIN M ((nx, .rows es []) :: setK i (.box row') O) (nx + 1) r Q) : FIN M O nx r Q :=
  FIN.weak (fun η w v H hd => let ⟨η', h1, h2⟩ := H.nilCell hi hr; ⟨η', h1, h2, Den.mono h1 hd⟩) hf
/-- A tuple whose head is a nil slice: by a name of its own. -/
theorem FIN.nilT {M : Mx} {O : Hps} {nx : Nat} {Q : SV → Hps → Nat → Prop} (es : Nat) {vs : List SV} (hf : FIN M ((nx, .rows es []) :: O) (nx + 1) (.tup (.sl (.loc nx) 0 es 0 none :: vs)) Q) : FIN M O nx (.tup (.val (.slice none 0 0) :: vs)) Q := by
  refine FIN.weak (fun η w v H hd => ?_) hf
  have hnew : (η ++ [none])[nx]? = some none := by rw [List.getElem?_append_right (by rw [H.len]; omega), H.len]; simp
  refine ⟨η ++ [none], List.prefix_append _ _, H.push none (fun _ _ => rfl) (Nat.le_refl _) rfl rfl rfl (Nat.le_refl _) (.inl ⟨hnew, rfl⟩) (fun k f => (feet.none (b := .loc nx) hnew f).elim) (fun k f => (feet.none (b := .loc nx) hnew f).elim), ?_⟩
  simp only [Den, DenL] at hd ⊢
  obtain ⟨xs, h1, u, us, h2, h3, h4⟩ := hd
  exact ⟨xs, h1, u, us, h2, .inl ⟨hnew, h3.1, trivial⟩, h4.mono (List.prefix_append _ _)⟩
theorem le_reach {O : Hps} {b : Blk} {r len : Nat} {lim : Option Nat} {n : Nat} (h : n ≤ len) : (n : Int) ≤ (reach O b r len lim : Nat) := by
  have : len ≤ reach O b r len lim := by
    unfold reach
    split
    · exact Nat.le_refl _
    · split
      · exact Nat.le_max_left _ _
      · exact Nat.le_refl _
  omega
theorem det_pos {b : Blk} {r es len : Nat} {lim : Option Nat} (h : 0 < len) : Det (.sl b r es len lim) := by
  intro η u u' h1 h2
  simp only [Den] at h1 h2
  rcases h1 with ⟨_, _, h0⟩ | ⟨e, o, g1, rfl, g3, g4, g5⟩
  · omega
  rcases h2 with ⟨_, _, h0⟩ | ⟨e', o', k1, rfl, k3, k4, k5⟩
  · omega
  rw [g1] at k1
  injection k1 with k1
  injection k1 with k1
  subst k1
  rw [g5 (.inl (by omega)), k5 (.inl (by omega))]
end Go.Sx
/- slices: Clone, Compact, Clip, SortFunc; term: sorted and Sort; walked. Conditions: none. -/
set_option linter.unusedVariables false
set_option linter.unusedSimpArgs false
set_option maxRecDepth 20000
namespace Go.Proofs.Ytillkgjdbnjnoaa
open Go.Sx Go.Our Go.Sort Go.Shelf
def plSets10 : Plan := (planOf [(0, 1), (1, 1), (2, 1), (4, 1), (5, 1), (6, 1), (7, 1), (3, 2), (8, 2), (9, 1)])
abbrev TmsOK (l : List Tm) : Prop := l.length * 224 ≤ 140737488351232
theorem mid_at {α : Type} (f : α → List SV) {C l : List α} {j : Nat} (h1 : C.length ≤ j) (h2 : j < l.length) : ((C ++ l.drop C.length).map f)[j]? = some (f l[j]) := by
  rw [List.getElem?_map, List.getElem?_append_right h1, List.getElem?_drop, show C.length + (j - C.length) = j by omega, List.getElem?_eq_getElem h2]; rfl
theorem mid_set {α : Type} (f : α → List SV) {C l : List α} (x : α) (h : C.length < l.length) : ((C ++ l.drop C.length).map f).set C.length (f x) = ((C ++ [x]) ++ l.drop (C ++ [x]).length).map f := by
  rw [rows_set, List.set_append_right _ _ (Nat.le_refl _), Nat.sub_self, List.drop_eq_getElem_cons h, List.set_cons_zero]
  simp
theorem mid_clear {α : Type} (f : α → List SV) {C l : List α} (z : α) (h : C.length ≤ l.length) : ((C ++ l.drop C.length).map f).take C.length ++ List.replicate (l.length - C.length) (f z) ++ ((C ++ l.drop C.length).map f).drop (C.length + (l.length - C.length)) = (C ++ List.replicate (l.length - C.length) z).map f := by
  have h1 : ((C ++ l.drop C.length).map f).length = l.length := by simp; omega
  rw [List.drop_of_length_le (l := (C ++ l.drop C.length).map f) (by omega), List.append_nil, List.map_append, List.map_append, List.map_replicate, List.take_append_of_le_length (by simp), List.take_of_length_le (by simp)]
theorem at_eq {rs : List (List SV)} {i j : Nat} {row : List SV} (h : rs[i]? = some row) (e : j = i) : rs[j]? = some row := e ▸ h
theorem cloneQ_does (l z : List Qd) (lim : Option Nat) (hl : l.length * 224 ≤ 140737488351232) : Does Try.prog tab 50 1 [.sl (.loc 0) 0 16 l.length lim] [] [(0, .rows 16 ((l ++ z).map qdRow))]
    (fun r O nx => r = .sl (.loc 1) 0 16 l.length none ∧ O = [(1, .rows 16 (l.map qdRow))] ∧ nx = 2) := by
  refine Does.enter tabOK (g := 50) (fn := Try.f50) Try.call50 Try.func50 rfl 8 rfl rfl [.tmp 2] rfl ?_
  intro w0 F η0 h0
  conv => whnf
  repeat' ((first | with_reducible refine IF.tt ?_ | with_reducible refine IF.ff ?_ | (rw [rows_take]; conv => whnf) | (refine NEED.mk (needApp 224 rfl rfl (by simp) (by simp) (by omega)) ?_; conv => whnf) | ((with_reducible refine NEED.mk ?_ ?_); (first | with_reducible rfl | omega | (simp (disch := omega) only [lnB, wrap64, wrap32] <;> omega) | (intro h; (try simp (disch := omega) only [hsB, hsC, lnB, wrap64, wrap32, simprocAttr] at h); (first | omega | (simp (disch := omega) only [lnB, wrap64, wrap32] <;> omega))) | (exact needApp 256 rfl rfl (by simp) (by simp) (by omega)) | (exact ⟨by omega, le_reach (by omega)⟩) | (exact ⟨by omega, by omega, le_reach (by omega)⟩) | (simp <;> omega))) | ((with_reducible apply GET.at); rfl) | ((with_reducible apply GETG.at); rfl) | ((with_reducible refine UNK.mk (fun h => ?_) ?_) <;> try (exfalso; omega)) | ((with_reducible refine IF.mk (fun h => ?_) (fun h => ?_)) <;> (try simp (disch := omega) only [hsB, hsC, lnB, wrap64, wrap32, simprocAttr] at h) <;> try (exfalso; omega))) <;> conv => whnf)
  · have : l = [] := List.length_eq_zero_iff.1 h
    subst this
    refine FIN.nil 16 ?_
    exact FIN.rows h0 1 16 0 rfl rfl rfl rfl ⟨rfl, rfl, rfl⟩
  · rw [Nat.zero_add]
    exact FIN.rows h0 2 16 l.length rfl rfl rfl (plainQds _) ⟨rfl, rfl, rfl⟩
theorem clipQ_does (l : List Qd) (n : Nat) (hn : n ≤ l.length) (hl : l.length * 224 ≤ 140737488351232) : Does Try.prog tab 52 1 [.sl (.loc 0) 0 16 n none] [(0, .rows 16 (l.map qdRow))] []
    (fun r O nx => r = .sl (.loc 0) 0 16 n (some n) ∧ O = [(0, .rows 16 (l.map qdRow))] ∧ nx = 1) := by
  refine Does.enter tabOK (g := 52) (fn := Try.f52) Try.call52 Try.func52 rfl 9 rfl rfl [.tmp 2] rfl ?_
  intro w0 F η0 h0
  conv => whnf
  repeat' ((first | with_reducible refine IF.tt ?_ | with_reducible refine IF.ff ?_ | (refine NEED.mk ⟨by omega, by omega, by omega⟩ ?_; conv => whnf) | ((with_reducible refine NEED.mk ?_ ?_); (first | with_reducible rfl | omega | (simp (disch := omega) only [lnB, wrap64, wrap32] <;> omega) | (intro h; (try simp (disch := omega) only [hsB, hsC, lnB, wrap64, wrap32, simprocAttr] at h); (first | omega | (simp (disch := omega) only [lnB, wrap64, wrap32] <;> omega))) | (exact needApp 256 rfl rfl (by simp) (by simp) (by omega)) | (exact ⟨by omega, le_reach (by omega)⟩) | (exact ⟨by omega, by omega, le_reach (by omega)⟩) | (simp <;> omega))) | ((with_reducible apply GET.at); rfl) | ((with_reducible apply GETG.at); rfl) | ((with_reducible refine UNK.mk (fun h => ?_) ?_) <;> try (exfalso; omega)) | ((with_reducible refine IF.mk (fun h => ?_) (fun h => ?_)) <;> (try simp (disch := omega) only [hsB, hsC, lnB, wrap64, wrap32, simprocAttr] at h) <;> try (exfalso; omega))) <;> conv => whnf)
  refine FIN.here h0 (rc := .sl (.loc 0) 0 16 n (some n)) (Oc := [(0, .rows 16 (l.map qdRow))]) (by simp) rfl (by first | rfl | (simp only [belowO, belowH, plainLL_below _ (plainQds _), Bool.and_self, Bool.and_true] <;> rfl)) ⟨rfl, trivial⟩ ⟨rfl, rfl, rfl⟩
theorem compactQ_does (l : List Qd) (hl : l.length * 224 ≤ 140737488351232) : Does Try.prog tab 53 1 [.sl (.loc 0) 0 16 l.length none] [(0, .rows 16 (l.map qdRow))] []
    (fun r O nx => r = .sl (.loc 0) 0 16 (compactM l).length none ∧ O = [(0, .rows 16 ((compactM l ++ List.replicate (l.length - (compactM l).length) zeroQd).map qdRow))] ∧ nx = 1) := by
  have fin : ∀ {m : Nat}, m = (compactM l).length → compactM l = l → (SV.sl (.loc 0) 0 16 l.length none = SV.sl (.loc 0) 0 16 (compactM l).length none) ∧ l.map qdRow = (compactM l ++ List.replicate (l.length - (compactM l).length) zeroQd).map qdRow := fun hm he => by
    rw [he]; simp
  refine Does.enter tabOK (g := 53) (fn := Try.f53) Try.call53 Try.func53 rfl 61 rfl rfl [.tmp 2] rfl ?_
  intro w0 F η0 h0
  conv => whnf
  refine IF.mk (fun h => ?_) (fun h => ?_)
  · have h : l.length < 2 := by simp at h; omega
    obtain ⟨f1, f2⟩ := fin rfl (compact_two h)
    conv => whnf
    rw [f1, f2]
    refine FIN.here h0 (rc := .sl (.loc 0) 0 16 (compactM l).length none) (Oc := [(0, .rows 16 ((compactM l ++ List.replicate (l.length - (compactM l).length) zeroQd).map qdRow))]) rfl rfl (by first | rfl | (simp only [belowO, belowH, plainLL_below _ (plainQds _), Bool.and_self, Bool.and_true] <;> rfl)) ⟨rfl, trivial⟩ ⟨rfl, rfl, rfl⟩
  have h2 : 2 ≤ l.length := by simp at h; omega
  clear h
  conv => whnf
  refine LOOP.go tabOK [0] (X := Nat) (fun k => 1 ≤ k ∧ k ≤ l.length ∧ compactM (l.take k) = l.take k) (fun k => [(3, .int .i64 (k : Int))]) (fun k => [(0, .rows 16 (l.map qdRow))]) 1 (fun k => l.length - k) 1 ⟨by omega, by omega, compact_one⟩ ?_
  conv => whnf
  refine ⟨by (refine GOES.cutting h0 rfl rfl rfl (by first | rfl | (simp only [belowO, belowH, plainLL_below _ (plainQds _), Bool.and_self, Bool.and_true] <;> rfl)) ?_ ?_ <;> (repeat' (first | (with_reducible rfl) | (exact sl_eq rfl (by first | (simp; done) | omega | (simp; omega))) | (exact congrArg (SV.int _) (by first | omega | (simp (disch := omega) only [lnB, wrap64, wrap32] <;> omega) | (simp; done) | (simp <;> omega))) | (exact congrArg (Hp.rows _) (by rfl)) | ((conv => whnf); refine ⟨?_, ?_⟩) | exact trivial | rfl))), ?_⟩
  rintro k ⟨hk1, hkl, hk⟩
  conv => whnf
  rcases Nat.lt_or_ge k l.length with hlt | hge
  · have hs := compact_succ hk1 hlt
    have hk' : (IntKind.i64.wrap ((k : Int) - 1)).toNat = k - 1 := by rw [wrap64 (by omega) (by omega)]; omega
    repeat' ((first | with_reducible refine IF.tt ?_ | with_reducible refine IF.ff ?_ | refine DRAWN.of (id := 6) tabOK mixed plSets10 (by kernel_rfl) ?_ | refine DRAWN.of (id := 11) tabOK mixed plSets10 (by kernel_rfl) ?_ | with_reducible refine ADD.mk (fun _ _ => ?_) | with_reducible refine NEED.mk (Det.of rfl) ?_ | refine NEED.mk (det_pos (by omega)) ?_ | with_reducible refine FORK.mk ?_ ?_ | (refine GET.at (row := qdRow (l[k]'(by omega))) (row_at0 (by omega) (by omega)) ?_; conv => whnf) | (refine GET.at (row := qdRow (l[k - 1]'(by omega))) (row_at0 (by omega) (by omega)) ?_; conv => whnf) | ((with_reducible refine NEED.mk ?_ ?_); (first | with_reducible rfl | omega | (simp (disch := omega) only [lnB, wrap64, wrap32] <;> omega) | (intro h; (try simp (disch := omega) only [hsB, hsC, lnB, wrap64, wrap32, simprocAttr] at h); (first | omega | (simp (disch := omega) only [lnB, wrap64, wrap32] <;> omega))) | (exact needApp 256 rfl rfl (by simp) (by simp) (by omega)) | (exact ⟨by omega, le_reach (by omega)⟩) | (exact ⟨by omega, by omega, le_reach (by omega)⟩) | (simp <;> omega))) | ((with_reducible apply GET.at); rfl) | ((with_reducible apply GETG.at); rfl) | ((with_reducible refine UNK.mk (fun h => ?_) ?_) <;> try (exfalso; omega)) | ((with_reducible refine IF.mk (fun h => ?_) (fun h => ?_)) <;> (try simp (disch := omega) only [hsB, hsC, lnB, wrap64, wrap32, simprocAttr] at h) <;> try (exfalso; omega))) <;> conv => whnf)
    · have heq : l[k] = l[k - 1] := Qd.ext' (by simp only [qdRow, Qd.row, List.cons.injEq, SV.int.injEq, SV.str.injEq, true_and, and_true]; exact h)
      rw [if_pos heq, hk] at hs
      have hs0 : (compactM (l.take (k + 1))).length = k := by rw [hs]; simp; omega
      clear h heq
      refine LOOP.go tabOK [0, 4] (X := Nat) (fun i => k + 1 ≤ i ∧ i ≤ l.length ∧ (compactM (l.take i)).length + 1 ≤ i ∧ k ≤ (compactM (l.take i)).length) (fun i => [(3, .int .i64 ((compactM (l.take i)).length : Int)), (5, .int .i64 ((i - k : Nat) : Int))]) (fun i => [(0, .rows 16 ((compactM (l.take i) ++ l.drop (compactM (l.take i)).length).map qdRow))]) 1 (fun i => l.length - i) (k + 1) ⟨by omega, by omega, by omega, by omega⟩ ?_
      conv => whnf
      refine ⟨by (refine GOES.cutting h0 rfl rfl rfl (by first | rfl | (simp only [belowO, belowH, plainLL_below _ (plainQds _), Bool.and_self, Bool.and_true] <;> rfl)) ?_ ?_ <;> (repeat' (first | (with_reducible rfl) | (exact sl_eq rfl (by first | (simp; done) | omega | (simp; omega))) | (exact congrArg (SV.int _) (by first | omega | (simp (disch := omega) only [lnB, wrap64, wrap32] <;> omega) | (simp; done) | (simp <;> omega))) | (exact congrArg (Hp.rows _) (by (rw [hs, List.length_take, Nat.min_eq_left hkl, List.take_append_drop]))) | ((conv => whnf); refine ⟨?_, ?_⟩) | exact trivial | rfl))), ?_⟩
      rintro i ⟨hi1, hi2, hi3, hi4⟩
      obtain ⟨C, hC⟩ : ∃ C, C = compactM (l.take i) := ⟨_, rfl⟩
      have hsi := fun h => compact_succ (l := l) (i := i) (by omega) h
      rw [← hC] at hi3 hi4 hsi
      dsimp only
      rw [← hC]
      conv => whnf
      rcases Nat.lt_or_ge i l.length with hil | hil
      · have hsi := hsi hil
        have hwr : IntKind.i64.wrap (((i - k : Nat) : Int) - 1) = ((i - 1 - k : Nat) : Int) := by rw [wrap64 (by omega) (by omega)]; omega
        have hg1 : ((C ++ l.drop C.length).map qdRow)[i]? = some (qdRow l[i]) := mid_at qdRow (by omega) hil
        have hg2 : ((C ++ l.drop C.length).map qdRow)[i - 1]? = some (qdRow (l[i - 1]'(by omega))) := mid_at qdRow (by omega) (by omega)
        have hg3 : ((C ++ l.drop C.length).map qdRow)[C.length]? = some (qdRow (l[C.length]'(by omega))) := mid_at qdRow (Nat.le_refl _) (by omega)
        repeat' ((first | with_reducible refine IF.tt ?_ | with_reducible refine IF.ff ?_ | refine DRAWN.of (id := 6) tabOK mixed plSets10 (by kernel_rfl) ?_ | refine DRAWN.of (id := 11) tabOK mixed plSets10 (by kernel_rfl) ?_ | with_reducible refine ADD.mk (fun _ _ => ?_) | with_reducible refine NEED.mk (Det.of rfl) ?_ | refine NEED.mk (det_pos (by omega)) ?_ | with_reducible refine FORK.mk ?_ ?_ | (refine GET.at (row := qdRow (l[i]'(by omega))) (at_eq hg1 (by omega)) ?_; conv => whnf) | (refine GET.at (row := qdRow (l[i - 1]'(by omega))) (at_eq hg2 (by rw [hwr]; omega)) ?_; conv => whnf) | (refine GET.at (row := qdRow (l[C.length]'(by omega))) (at_eq hg3 (by omega)) ?_; conv => whnf) | ((with_reducible refine NEED.mk ?_ ?_); (first | with_reducible rfl | omega | (simp (disch := omega) only [lnB, wrap64, wrap32] <;> omega) | (intro h; (try simp (disch := omega) only [hsB, hsC, lnB, wrap64, wrap32, simprocAttr] at h); (first | omega | (simp (disch := omega) only [lnB, wrap64, wrap32] <;> omega))) | (exact needApp 256 rfl rfl (by simp) (by simp) (by omega)) | (exact ⟨by omega, le_reach (by omega)⟩) | (exact ⟨by omega, by omega, le_reach (by omega)⟩) | (simp <;> omega))) | ((with_reducible apply GET.at); rfl) | ((with_reducible apply GETG.at); rfl) | ((with_reducible refine UNK.mk (fun h => ?_) ?_) <;> try (exfalso; omega)) | ((with_reducible refine IF.mk (fun h => ?_) (fun h => ?_)) <;> (try simp (disch := omega) only [hsB, hsC, lnB, wrap64, wrap32, simprocAttr] at h) <;> try (exfalso; omega))) <;> conv => whnf)
        · have hne : ¬ l[i] = l[i - 1]'(by omega) := fun he => by rw [he] at h; simp at h
          rw [if_neg hne] at hsi
          refine ⟨i + 1, ⟨by omega, by omega, by rw [hsi, List.length_append]; simp; omega, by rw [hsi, List.length_append]; simp; omega⟩, by omega, ?_⟩
          rw [hsi]
          conv => whnf
          (refine GOES.cutting h0 rfl rfl rfl (by first | rfl | (simp only [belowO, belowH, plainLL_below _ (plainQds _), Bool.and_self, Bool.and_true] <;> rfl)) ?_ ?_ <;> (repeat' (first | (with_reducible rfl) | (exact sl_eq rfl (by first | (simp; done) | omega | (simp; omega))) | (exact congrArg (SV.int _) (by first | omega | (simp (disch := omega) only [lnB, wrap64, wrap32] <;> omega) | (simp; done) | (simp <;> omega))) | (exact congrArg (Hp.rows _) (by (first | (simp only [Nat.zero_add, Int.toNat_natCast]; exact mid_set qdRow _ (by omega)) | rfl))) | ((conv => whnf); refine ⟨?_, ?_⟩) | exact trivial | rfl)))
        · have heq : l[i] = l[i - 1]'(by omega) := Qd.ext' (by simp only [qdRow, Qd.row, List.cons.injEq, SV.int.injEq, SV.str.injEq, true_and, and_true]; exact h)
          rw [if_pos heq] at hsi
          refine ⟨i + 1, ⟨by omega, by omega, by rw [hsi]; omega, by rw [hsi]; omega⟩, by omega, ?_⟩
          rw [hsi]
          conv => whnf
          (refine GOES.cutting h0 rfl rfl rfl (by first | rfl | (simp only [belowO, belowH, plainLL_below _ (plainQds _), Bool.and_self, Bool.and_true] <;> rfl)) ?_ ?_ <;> (repeat' (first | (with_reducible rfl) | (exact sl_eq rfl (by first | (simp; done) | omega | (simp; omega))) | (exact congrArg (SV.int _) (by first | omega | (simp (disch := omega) only [lnB, wrap64, wrap32] <;> omega) | (simp; done) | (simp <;> omega))) | (exact congrArg (Hp.rows _) (by rfl)) | ((conv => whnf); refine ⟨?_, ?_⟩) | exact trivial | rfl)))
      · have hCl : C = compactM l := by rw [hC, List.take_of_length_le hil]
        have hcl : C.length ≤ l.length := by omega
        repeat' ((first | with_reducible refine IF.tt ?_ | with_reducible refine IF.ff ?_ | (refine NEED.mk (by simp only [List.length_map, List.length_append, List.length_drop]; omega) ?_; conv => whnf) | (refine NEED.mk ⟨by omega, le_reach (by omega)⟩ ?_; conv => whnf) | ((with_reducible refine NEED.mk ?_ ?_); (first | with_reducible rfl | omega | (simp (disch := omega) only [lnB, wrap64, wrap32] <;> omega) | (intro h; (try simp (disch := omega) only [hsB, hsC, lnB, wrap64, wrap32, simprocAttr] at h); (first | omega | (simp (disch := omega) only [lnB, wrap64, wrap32] <;> omega))) | (exact needApp 256 rfl rfl (by simp) (by simp) (by omega)) | (exact ⟨by omega, le_reach (by omega)⟩) | (exact ⟨by omega, by omega, le_reach (by omega)⟩) | (simp <;> omega))) | ((with_reducible apply GET.at); rfl) | ((with_reducible apply GETG.at); rfl) | ((with_reducible refine UNK.mk (fun h => ?_) ?_) <;> try (exfalso; omega)) | ((with_reducible refine IF.mk (fun h => ?_) (fun h => ?_)) <;> (try simp (disch := omega) only [hsB, hsC, lnB, wrap64, wrap32, simprocAttr] at h) <;> try (exfalso; omega))) <;> conv => whnf)
        rw [← hCl]
        refine FIN.here h0 (rc := .sl (.loc 0) 0 16 C.length none) (Oc := [(0, .rows 16 ((C ++ List.replicate (l.length - C.length) zeroQd).map qdRow))]) (by simp) rfl (by first | rfl | (simp only [belowO, belowH, plainLL_below _ (plainQds _), Bool.and_self, Bool.and_true] <;> rfl)) ⟨?_, trivial⟩ ⟨rfl, rfl, rfl⟩
        refine congrArg (Hp.rows 16) ?_
        simp only [Nat.zero_add, Int.toNat_natCast]
        exact mid_clear qdRow zeroQd hcl
    · have hne : ¬ l[k] = l[k - 1] := fun he => by rw [he] at h; simp at h
      rw [if_neg hne, hk] at hs
      refine ⟨k + 1, ⟨by omega, by omega, by rw [hs, List.take_succ_eq_append_getElem hlt]⟩, by omega, ?_⟩
      conv => whnf
      (refine GOES.cutting h0 rfl rfl rfl (by first | rfl | (simp only [belowO, belowH, plainLL_below _ (plainQds _), Bool.and_self, Bool.and_true] <;> rfl)) ?_ ?_ <;> (repeat' (first | (with_reducible rfl) | (exact sl_eq rfl (by first | (simp; done) | omega | (simp; omega))) | (exact congrArg (SV.int _) (by first | omega | (simp (disch := omega) only [lnB, wrap64, wrap32] <;> omega) | (simp; done) | (simp <;> omega))) | (exact congrArg (Hp.rows _) (by rfl)) | ((conv => whnf); refine ⟨?_, ?_⟩) | exact trivial | rfl)))
  · have hkn : k = l.length := by omega
    rw [hkn, List.take_of_length_le (Nat.le_refl _)] at hk
    obtain ⟨f1, f2⟩ := fin rfl hk
    repeat' ((first | with_reducible refine IF.tt ?_ | with_reducible refine IF.ff ?_ | ((with_reducible refine NEED.mk ?_ ?_); (first | with_reducible rfl | omega | (simp (disch := omega) only [lnB, wrap64, wrap32] <;> omega) | (intro h; (try simp (disch := omega) only [hsB, hsC, lnB, wrap64, wrap32, simprocAttr] at h); (first | omega | (simp (disch := omega) only [lnB, wrap64, wrap32] <;> omega))) | (exact needApp 256 rfl rfl (by simp) (by simp) (by omega)) | (exact ⟨by omega, le_reach (by omega)⟩) | (exact ⟨by omega, by omega, le_reach (by omega)⟩) | (simp <;> omega))) | ((with_reducible apply GET.at); rfl) | ((with_reducible apply GETG.at); rfl) | ((with_reducible refine UNK.mk (fun h => ?_) ?_) <;> try (exfalso; omega)) | ((with_reducible refine IF.mk (fun h => ?_) (fun h => ?_)) <;> (try simp (disch := omega) only [hsB, hsC, lnB, wrap64, wrap32, simprocAttr] at h) <;> try (exfalso; omega))) <;> conv => whnf)
    rw [f1, f2]
    refine FIN.here h0 (rc := .sl (.loc 0) 0 16 (compactM l).length none) (Oc := [(0, .rows 16 ((compactM l ++ List.replicate (l.length - (compactM l).length) zeroQd).map qdRow))]) rfl rfl (by first | rfl | (simp only [belowO, belowH, plainLL_below _ (plainQds _), Bool.and_self, Bool.and_true] <;> rfl)) ⟨rfl, trivial⟩ ⟨rfl, rfl, rfl⟩
theorem cloneT_does (l z : List Tm) (lim : Option Nat) (hl : l.length * 224 ≤ 140737488351232) : Does Try.prog tab 59 1 [.sl (.loc 0) 0 4 l.length lim] [] [(0, .rows 4 ((l ++ z).map tmRow))]
    (fun r O nx => r = .sl (.loc 1) 0 4 l.length none ∧ O = [(1, .rows 4 (l.map tmRow))] ∧ nx = 2) := by
  refine Does.enter tabOK (g := 59) (fn := Try.f59) Try.call59 Try.func59 rfl 8 rfl rfl [.tmp 2] rfl ?_
  intro w0 F η0 h0
  conv => whnf
  repeat' ((first | with_reducible refine IF.tt ?_ | with_reducible refine IF.ff ?_ | (rw [rows_take]; conv => whnf) | (refine NEED.mk (needApp 224 rfl rfl (by simp) (by simp) (by omega)) ?_; conv => whnf) | ((with_reducible refine NEED.mk ?_ ?_); (first | with_reducible rfl | omega | (simp (disch := omega) only [lnB, wrap64, wrap32] <;> omega) | (intro h; (try simp (disch := omega) only [hsB, hsC, lnB, wrap64, wrap32, simprocAttr] at h); (first | omega | (simp (disch := omega) only [lnB, wrap64, wrap32] <;> omega))) | (exact needApp 256 rfl rfl (by simp) (by simp) (by omega)) | (exact ⟨by omega, le_reach (by omega)⟩) | (exact ⟨by omega, by omega, le_reach (by omega)⟩) | (simp <;> omega))) | ((with_reducible apply GET.at); rfl) | ((with_reducible apply GETG.at); rfl) | ((with_reducible refine UNK.mk (fun h => ?_) ?_) <;> try (exfalso; omega)) | ((with_reducible refine IF.mk (fun h => ?_) (fun h => ?_)) <;> (try simp (disch := omega) only [hsB, hsC, lnB, wrap64, wrap32, simprocAttr] at h) <;> try (exfalso; omega))) <;> conv => whnf)
  · have : l = [] := List.length_eq_zero_iff.1 h
    subst this
    refine FIN.nil 4 ?_
    exact FIN.rows h0 1 4 0 rfl rfl rfl rfl ⟨rfl, rfl, rfl⟩
  · rw [Nat.zero_add]
    exact FIN.rows h0 2 4 l.length rfl rfl rfl (plainTms _) ⟨rfl, rfl, rfl⟩
theorem clipT_does (l : List Tm) (n : Nat) (hn : n ≤ l.length) (hl : l.length * 224 ≤ 140737488351232) : Does Try.prog tab 61 1 [.sl (.loc 0) 0 4 n none] [(0, .rows 4 (l.map tmRow))] []
    (fun r O nx => r = .sl (.loc 0) 0 4 n (some n) ∧ O = [(0, .rows 4 (l.map tmRow))] ∧ nx = 1) := by
  refine Does.enter tabOK (g := 61) (fn := Try.f61) Try.call61 Try.func61 rfl 9 rfl rfl [.tmp 2] rfl ?_
  intro w0 F η0 h0
  conv => whnf
  repeat' ((first | with_reducible refine IF.tt ?_ | with_reducible refine IF.ff ?_ | (refine NEED.mk ⟨by omega, by omega, by omega⟩ ?_; conv => whnf) | ((with_reducible refine NEED.mk ?_ ?_); (first | with_reducible rfl | omega | (simp (disch := omega) only [lnB, wrap64, wrap32] <;> omega) | (intro h; (try simp (disch := omega) only [hsB, hsC, lnB, wrap64, wrap32, simprocAttr] at h); (first | omega | (simp (disch := omega) only [lnB, wrap64, wrap32] <;> omega))) | (exact needApp 256 rfl rfl (by simp) (by simp) (by omega)) | (exact ⟨by omega, le_reach (by omega)⟩) | (exact ⟨by omega, by omega, le_reach (by omega)⟩) | (simp <;> omega))) | ((with_reducible apply GET.at); rfl) | ((with_reducible apply GETG.at); rfl) | ((with_reducible refine UNK.mk (fun h => ?_) ?_) <;> try (exfalso; omega)) | ((with_reducible refine IF.mk (fun h => ?_) (fun h => ?_)) <;> (try simp (disch := omega) only [hsB, hsC, lnB, wrap64, wrap32, simprocAttr] at h) <;> try (exfalso; omega))) <;> conv => whnf)
  refine FIN.here h0 (rc := .sl (.loc 0) 0 4 n (some n)) (Oc := [(0, .rows 4 (l.map tmRow))]) (by simp) rfl (by first | rfl | (simp only [belowO, belowH, plainLL_below _ (plainTms _), Bool.and_self, Bool.and_true] <;> rfl)) ⟨rfl, trivial⟩ ⟨rfl, rfl, rfl⟩
theorem compactT_does (l : List Tm) (hl : l.length * 224 ≤ 140737488351232) : Does Try.prog tab 62 1 [.sl (.loc 0) 0 4 l.length none] [(0, .rows 4 (l.map tmRow))] []
    (fun r O nx => r = .sl (.loc 0) 0 4 (compactM l).length none ∧ O = [(0, .rows 4 ((compactM l ++ List.replicate (l.length - (compactM l).length) zeroTm).map tmRow))] ∧ nx = 1) := by
  have fin : ∀ {m : Nat}, m = (compactM l).length → compactM l = l → (SV.sl (.loc 0) 0 4 l.length none = SV.sl (.loc 0) 0 4 (compactM l).length none) ∧ l.map tmRow = (compactM l ++ List.replicate (l.length - (compactM l).length) zeroTm).map tmRow := fun hm he => by
    rw [he]; simp
  refine Does.enter tabOK (g := 62) (fn := Try.f62) Try.call62 Try.func62 rfl 61 rfl rfl [.tmp 2] rfl ?_
  intro w0 F η0 h0
  conv => whnf
  refine IF.mk (fun h => ?_) (fun h => ?_)
  · have h : l.length < 2 := by simp at h; omega
    obtain ⟨f1, f2⟩ := fin rfl (compact_two h)
    conv => whnf
    rw [f1, f2]
    refine FIN.here h0 (rc := .sl (.loc 0) 0 4 (compactM l).length none) (Oc := [(0, .rows 4 ((compactM l ++ List.replicate (l.length - (compactM l).length) zeroTm).map tmRow))]) rfl rfl (by first | rfl | (simp only [belowO, belowH, plainLL_below _ (plainTms _), Bool.and_self, Bool.and_true] <;> rfl)) ⟨rfl, trivial⟩ ⟨rfl, rfl, rfl⟩
  have h2 : 2 ≤ l.length := by simp at h; omega
  clear h
  conv => whnf
  refine LOOP.go tabOK [0] (X := Nat) (fun k => 1 ≤ k ∧ k ≤ l.length ∧ compactM (l.take k) = l.take k) (fun k => [(3, .int .i64 (k : Int))]) (fun k => [(0, .rows 4 (l.map tmRow))]) 1 (fun k => l.length - k) 1 ⟨by omega, by omega, compact_one⟩ ?_
  conv => whnf
  refine ⟨by (refine GOES.cutting h0 rfl rfl rfl (by first | rfl | (simp only [belowO, belowH, plainLL_below _ (plainTms _), Bool.and_self, Bool.and_true] <;> rfl)) ?_ ?_ <;> (repeat' (first | (with_reducible rfl) | (exact sl_eq rfl (by first | (simp; done) | omega | (simp; omega))) | (exact congrArg (SV.int _) (by first | omega | (simp (disch := omega) only [lnB, wrap64, wrap32] <;> omega) | (simp; done) | (simp <;> omega))) | (exact congrArg (Hp.rows _) (by rfl)) | ((conv => whnf); refine ⟨?_, ?_⟩) | exact trivial | rfl))), ?_⟩
  rintro k ⟨hk1, hkl, hk⟩
  conv => whnf
  rcases Nat.lt_or_ge k l.length with hlt | hge
  · have hs := compact_succ hk1 hlt
    have hk' : (IntKind.i64.wrap ((k : Int) - 1)).toNat = k - 1 := by rw [wrap64 (by omega) (by omega)]; omega
    repeat' ((first | with_reducible refine IF.tt ?_ | with_reducible refine IF.ff ?_ | refine DRAWN.of (id := 6) tabOK mixed plSets10 (by kernel_rfl) ?_ | refine DRAWN.of (id := 11) tabOK mixed plSets10 (by kernel_rfl) ?_ | with_reducible refine ADD.mk (fun _ _ => ?_) | with_reducible refine NEED.mk (Det.of rfl) ?_ | refine NEED.mk (det_pos (by omega)) ?_ | with_reducible refine FORK.mk ?_ ?_ | (refine GET.at (row := tmRow (l[k]'(by omega))) (row_at0 (by omega) (by omega)) ?_; conv => whnf) | (refine GET.at (row := tmRow (l[k - 1]'(by omega))) (row_at0 (by omega) (by omega)) ?_; conv => whnf) | ((with_reducible refine NEED.mk ?_ ?_); (first | with_reducible rfl | omega | (simp (disch := omega) only [lnB, wrap64, wrap32] <;> omega) | (intro h; (try simp (disch := omega) only [hsB, hsC, lnB, wrap64, wrap32, simprocAttr] at h); (first | omega | (simp (disch := omega) only [lnB, wrap64, wrap32] <;> omega))) | (exact needApp 256 rfl rfl (by simp) (by simp) (by omega)) | (exact ⟨by omega, le_reach (by omega)⟩) | (exact ⟨by omega, by omega, le_reach (by omega)⟩) | (simp <;> omega))) | ((with_reducible apply GET.at); rfl) | ((with_reducible apply GETG.at); rfl) | ((with_reducible refine UNK.mk (fun h => ?_) ?_) <;> try (exfalso; omega)) | ((with_reducible refine IF.mk (fun h => ?_) (fun h => ?_)) <;> (try simp (disch := omega) only [hsB, hsC, lnB, wrap64, wrap32, simprocAttr] at h) <;> try (exfalso; omega))) <;> conv => whnf)
    · have heq : l[k] = l[k - 1] := Tm.ext' (by simp only [tmRow, List.cons.injEq, SV.int.injEq, SV.str.injEq, true_and, and_true]; exact h)
      rw [if_pos heq, hk] at hs
      have hs0 : (compactM (l.take (k + 1))).length = k := by rw [hs]; simp; omega
      clear h heq
      refine LOOP.go tabOK [0, 4] (X := Nat) (fun i => k + 1 ≤ i ∧ i ≤ l.length ∧ (compactM (l.take i)).length + 1 ≤ i ∧ k ≤ (compactM (l.take i)).length) (fun i => [(3, .int .i64 ((compactM (l.take i)).length : Int)), (5, .int .i64 ((i - k : Nat) : Int))]) (fun i => [(0, .rows 4 ((compactM (l.take i) ++ l.drop (compactM (l.take i)).length).map tmRow))]) 1 (fun i => l.length - i) (k + 1) ⟨by omega, by omega, by omega, by omega⟩ ?_
      conv => whnf
      refine ⟨by (refine GOES.cutting h0 rfl rfl rfl (by first | rfl | (simp only [belowO, belowH, plainLL_below _ (plainTms _), Bool.and_self, Bool.and_true] <;> rfl)) ?_ ?_ <;> (repeat' (first | (with_reducible rfl) | (exact sl_eq rfl (by first | (simp; done) | omega | (simp; omega))) | (exact congrArg (SV.int _) (by first | omega | (simp (disch := omega) only [lnB, wrap64, wrap32] <;> omega) | (simp; done) | (simp <;> omega))) | (exact congrArg (Hp.rows _) (by (rw [hs, List.length_take, Nat.min_eq_left hkl, List.take_append_drop]))) | ((conv => whnf); refine ⟨?_, ?_⟩) | exact trivial | rfl))), ?_⟩
      rintro i ⟨hi1, hi2, hi3, hi4⟩
      obtain ⟨C, hC⟩ : ∃ C, C = compactM (l.take i) := ⟨_, rfl⟩
      have hsi := fun h => compact_succ (l := l) (i := i) (by omega) h
      rw [← hC] at hi3 hi4 hsi
      dsimp only
      rw [← hC]
      conv => whnf
      rcases Nat.lt_or_ge i l.length with hil | hil
      · have hsi := hsi hil
        have hwr : IntKind.i64.wrap (((i - k : Nat) : Int) - 1) = ((i - 1 - k : Nat) : Int) := by rw [wrap64 (by omega) (by omega)]; omega
        have hg1 : ((C ++ l.drop C.length).map tmRow)[i]? = some (tmRow l[i]) := mid_at tmRow (by omega) hil
        have hg2 : ((C ++ l.drop C.length).map tmRow)[i - 1]? = some (tmRow (l[i - 1]'(by omega))) := mid_at tmRow (by omega) (by omega)
        have hg3 : ((C ++ l.drop C.length).map tmRow)[C.length]? = some (tmRow (l[C.length]'(by omega))) := mid_at tmRow (Nat.le_refl _) (by omega)
        repeat' ((first | with_reducible refine IF.tt ?_ | with_reducible refine IF.ff ?_ | refine DRAWN.of (id := 6) tabOK mixed plSets10 (by kernel_rfl) ?_ | refine DRAWN.of (id := 11) tabOK mixed plSets10 (by kernel_rfl) ?_ | with_reducible refine ADD.mk (fun _ _ => ?_) | with_reducible refine NEED.mk (Det.of rfl) ?_ | refine NEED.mk (det_pos (by omega)) ?_ | with_reducible refine FORK.mk ?_ ?_ | (refine GET.at (row := tmRow (l[i]'(by omega))) (at_eq hg1 (by omega)) ?_; conv => whnf) | (refine GET.at (row := tmRow (l[i - 1]'(by omega))) (at_eq hg2 (by rw [hwr]; omega)) ?_; conv => whnf) | (refine GET.at (row := tmRow (l[C.length]'(by omega))) (at_eq hg3 (by omega)) ?_; conv => whnf) | ((with_reducible refine NEED.mk ?_ ?_); (first | with_reducible rfl | omega | (simp (disch := omega) only [lnB, wrap64, wrap32] <;> omega) | (intro h; (try simp (disch := omega) only [hsB, hsC, lnB, wrap64, wrap32, simprocAttr] at h); (first | omega | (simp (disch := omega) only [lnB, wrap64, wrap32] <;> omega))) | (exact needApp 256 rfl rfl (by simp) (by simp) (by omega)) | (exact ⟨by omega, le_reach (by omega)⟩) | (exact ⟨by omega, by omega, le_reach (by omega)⟩) | (simp <;> omega))) | ((with_reducible apply GET.at); rfl) | ((with_reducible apply GETG.at); rfl) | ((with_reducible refine UNK.mk (fun h => ?_) ?_) <;> try (exfalso; omega)) | ((with_reducible refine IF.mk (fun h => ?_) (fun h => ?_)) <;> (try simp (disch := omega) only [hsB, hsC, lnB, wrap64, wrap32, simprocAttr] at h) <;> try (exfalso; omega))) <;> conv => whnf)
        · have hne : ¬ l[i] = l[i - 1]'(by omega) := fun he => by rw [he] at h; simp at h
          rw [if_neg hne] at hsi
          refine ⟨i + 1, ⟨by omega, by omega, by rw [hsi, List.length_append]; simp; omega, by rw [hsi, List.length_append]; simp; omega⟩, by omega, ?_⟩
          rw [hsi]
          conv => whnf
          (refine GOES.cutting h0 rfl rfl rfl (by first | rfl | (simp only [belowO, belowH, plainLL_below _ (plainTms _), Bool.and_self, Bool.and_true] <;> rfl)) ?_ ?_ <;> (repeat' (first | (with_reducible rfl) | (exact sl_eq rfl (by first | (simp; done) | omega | (simp; omega))) | (exact congrArg (SV.int _) (by first | omega | (simp (disch := omega) only [lnB, wrap64, wrap32] <;> omega) | (simp; done) | (simp <;> omega))) | (exact congrArg (Hp.rows _) (by (first | (simp only [Nat.zero_add, Int.toNat_natCast]; exact mid_set tmRow _ (by omega)) | rfl))) | ((conv => whnf); refine ⟨?_, ?_⟩) | exact trivial | rfl)))
        · have heq : l[i] = l[i - 1]'(by omega) := Tm.ext' (by simp only [tmRow, List.cons.injEq, SV.int.injEq, SV.str.injEq, true_and, and_true]; exact h)
          rw [if_pos heq] at hsi
          refine ⟨i + 1, ⟨by omega, by omega, by rw [hsi]; omega, by rw [hsi]; omega⟩, by omega, ?_⟩
          rw [hsi]
          conv => whnf
          (refine GOES.cutting h0 rfl rfl rfl (by first | rfl | (simp only [belowO, belowH, plainLL_below _ (plainTms _), Bool.and_self, Bool.and_true] <;> rfl)) ?_ ?_ <;> (repeat' (first | (with_reducible rfl) | (exact sl_eq rfl (by first | (simp; done) | omega | (simp; omega))) | (exact congrArg (SV.int _) (by first | omega | (simp (disch := omega) only [lnB, wrap64, wrap32] <;> omega) | (simp; done) | (simp <;> omega))) | (exact congrArg (Hp.rows _) (by rfl)) | ((conv => whnf); refine ⟨?_, ?_⟩) | exact trivial | rfl)))
      · have hCl : C = compactM l := by rw [hC, List.take_of_length_le hil]
        have hcl : C.length ≤ l.length := by omega
        repeat' ((first | with_reducible refine IF.tt ?_ | with_reducible refine IF.ff ?_ | (refine NEED.mk (by simp only [List.length_map, List.length_append, List.length_drop]; omega) ?_; conv => whnf) | (refine NEED.mk ⟨by omega, le_reach (by omega)⟩ ?_; conv => whnf) | ((with_reducible refine NEED.mk ?_ ?_); (first | with_reducible rfl | omega | (simp (disch := omega) only [lnB, wrap64, wrap32] <;> omega) | (intro h; (try simp (disch := omega) only [hsB, hsC, lnB, wrap64, wrap32, simprocAttr] at h); (first | omega | (simp (disch := omega) only [lnB, wrap64, wrap32] <;> omega))) | (exact needApp 256 rfl rfl (by simp) (by simp) (by omega)) | (exact ⟨by omega, le_reach (by omega)⟩) | (exact ⟨by omega, by omega, le_reach (by omega)⟩) | (simp <;> omega))) | ((with_reducible apply GET.at); rfl) | ((with_reducible apply GETG.at); rfl) | ((with_reducible refine UNK.mk (fun h => ?_) ?_) <;> try (exfalso; omega)) | ((with_reducible refine IF.mk (fun h => ?_) (fun h => ?_)) <;> (try simp (disch := omega) only [hsB, hsC, lnB, wrap64, wrap32, simprocAttr] at h) <;> try (exfalso; omega))) <;> conv => whnf)
        rw [← hCl]
        refine FIN.here h0 (rc := .sl (.loc 0) 0 4 C.length none) (Oc := [(0, .rows 4 ((C ++ List.replicate (l.length - C.length) zeroTm).map tmRow))]) (by simp) rfl (by first | rfl | (simp only [belowO, belowH, plainLL_below _ (plainTms _), Bool.and_self, Bool.and_true] <;> rfl)) ⟨?_, trivial⟩ ⟨rfl, rfl, rfl⟩
        refine congrArg (Hp.rows 4) ?_
        simp only [Nat.zero_add, Int.toNat_natCast]
        exact mid_clear tmRow zeroTm hcl
    · have hne : ¬ l[k] = l[k - 1] := fun he => by rw [he] at h; simp at h
      rw [if_neg hne, hk] at hs
      refine ⟨k + 1, ⟨by omega, by omega, by rw [hs, List.take_succ_eq_append_getElem hlt]⟩, by omega, ?_⟩
      conv => whnf
      (refine GOES.cutting h0 rfl rfl rfl (by first | rfl | (simp only [belowO, belowH, plainLL_below _ (plainTms _), Bool.and_self, Bool.and_true] <;> rfl)) ?_ ?_ <;> (repeat' (first | (with_reducible rfl) | (exact sl_eq rfl (by first | (simp; done) | omega | (simp; omega))) | (exact congrArg (SV.int _) (by first | omega | (simp (disch := omega) only [lnB, wrap64, wrap32] <;> omega) | (simp; done) | (simp <;> omega))) | (exact congrArg (Hp.rows _) (by rfl)) | ((conv => whnf); refine ⟨?_, ?_⟩) | exact trivial | rfl)))
  · have hkn : k = l.length := by omega
    rw [hkn, List.take_of_length_le (Nat.le_refl _)] at hk
    obtain ⟨f1, f2⟩ := fin rfl hk
    repeat' ((first | with_reducible refine IF.tt ?_ | with_reducible refine IF.ff ?_ | ((with_reducible refine NEED.mk ?_ ?_); (first | with_reducible rfl | omega | (simp (disch := omega) only [lnB, wrap64, wrap32] <;> omega) | (intro h; (try simp (disch := omega) only [hsB, hsC, lnB, wrap64, wrap32, simprocAttr] at h); (first | omega | (simp (disch := omega) only [lnB, wrap64, wrap32] <;> omega))) | (exact needApp 256 rfl rfl (by simp) (by simp) (by omega)) | (exact ⟨by omega, le_reach (by omega)⟩) | (exact ⟨by omega, by omega, le_reach (by omega)⟩) | (simp <;> omega))) | ((with_reducible apply GET.at); rfl) | ((with_reducible apply GETG.at); rfl) | ((with_reducible refine UNK.mk (fun h => ?_) ?_) <;> try (exfalso; omega)) | ((with_reducible refine IF.mk (fun h => ?_) (fun h => ?_)) <;> (try simp (disch := omega) only [hsB, hsC, lnB, wrap64, wrap32, simprocAttr] at h) <;> try (exfalso; omega))) <;> conv => whnf)
    rw [f1, f2]
    refine FIN.here h0 (rc := .sl (.loc 0) 0 4 (compactM l).length none) (Oc := [(0, .rows 4 ((compactM l ++ List.replicate (l.length - (compactM l).length) zeroTm).map tmRow))]) rfl rfl (by first | rfl | (simp only [belowO, belowH, plainLL_below _ (plainTms _), Bool.and_self, Bool.and_true] <;> rfl)) ⟨rfl, trivial⟩ ⟨rfl, rfl, rfl⟩
def sortQ_ren : Go.Shelf.Ren := ⟨fun | 6 => 51 | 15 => 66 | 14 => 68 | 28 => 84 | 29 => 85 | 20 => 86 | 21 => 87 | 22 => 88 | 23 => 89 | 24 => 90 | 25 => 91 | 26 => 92 | 27 => 93 | 46 => 110 | 47 => 105 | 48 => 106 | 49 => 111 | 50 => 112 | 57 => 117 | n => n, fun | 22 => 22 | 24 => 26 | 25 => 58 | 3 => 3 | 39 => 82 | 0 => 0 | 53 => 102 | 55 => 104 | 4 => 4 | 46 => 95 | 45 => 94 | 50 => 36 | 5 => 5 | 9 => 9 | 66 => 116 | 70 => 120 | 76 => 127 | 77 => 128 | n => n, fun | n => n⟩
theorem sortQ : Go.Proofs.SlLaysF0.n6 Try.prog sortQ_ren where
  mixed := by kernel_rfl
  f6 := ⟨Try.f51.name, by decide, Try.func51.trans (congrArg some (by kernel_rfl))⟩
  f14 := ⟨Try.f68.name, by decide, Try.func68.trans (congrArg some (by kernel_rfl))⟩
  f15 := Try.func66.trans (congrArg some (by kernel_rfl))
  f20 := ⟨Try.f86.name, by decide, Try.func86.trans (congrArg some (by kernel_rfl))⟩
  f21 := ⟨Try.f87.name, by decide, Try.func87.trans (congrArg some (by kernel_rfl))⟩
  f22 := ⟨Try.f88.name, by decide, Try.func88.trans (congrArg some (by kernel_rfl))⟩
  f23 := ⟨Try.f89.name, by decide, Try.func89.trans (congrArg some (by kernel_rfl))⟩
  f24 := ⟨Try.f90.name, by decide, Try.func90.trans (congrArg some (by kernel_rfl))⟩
  f25 := ⟨Try.f91.name, by decide, Try.func91.trans (congrArg some (by kernel_rfl))⟩
  f26 := ⟨Try.f92.name, by decide, Try.func92.trans (congrArg some (by kernel_rfl))⟩
  f27 := ⟨Try.f93.name, by decide, Try.func93.trans (congrArg some (by kernel_rfl))⟩
  f28 := Try.func84.trans (congrArg some (by kernel_rfl))
  f29 := Try.func85.trans (congrArg some (by kernel_rfl))
  f46 := ⟨Try.f110.name, by decide, Try.func110.trans (congrArg some (by kernel_rfl))⟩
  f47 := Try.func105.trans (congrArg some (by kernel_rfl))
  f48 := Try.func106.trans (congrArg some (by kernel_rfl))
  f49 := ⟨Try.f111.name, by decide, Try.func111.trans (congrArg some (by kernel_rfl))⟩
  f50 := ⟨Try.f112.name, by decide, Try.func112.trans (congrArg some (by kernel_rfl))⟩
  f57 := ⟨Try.f117.name, by decide, Try.func117.trans (congrArg some (by kernel_rfl))⟩
  t0 := Try.underlying0
  a0 := Try.isAgg0
  z0 := Try.sizeOf0
  v0 := Try.zeroValue0
  t3 := Try.underlying3
  a3 := Try.isAgg3
  z3 := Try.sizeOf3
  v3 := Try.zeroValue3
  t4 := Try.underlying4
  a4 := Try.isAgg4
  z4 := Try.sizeOf4
  v4 := Try.zeroValue4
  t5 := Try.underlying5
  a5 := Try.isAgg5
  z5 := Try.sizeOf5
  v5 := Try.zeroValue5
  t9 := Try.underlying9
  a9 := Try.isAgg9
  z9 := Try.sizeOf9
  v9 := Try.zeroValue9
  t22 := Try.underlying22
  a22 := Try.isAgg22
  z22 := Try.sizeOf22
  v22 := Try.zeroValue22
  t25 := Try.underlying58
  a25 := Try.isAgg58
  z25 := Try.sizeOf58
  v25 := Try.zeroValue58
  t39 := Try.underlying82
  a39 := Try.isAgg82
  z39 := Try.sizeOf82
  v39 := Try.zeroValue82
  t45 := Try.underlying94
  a45 := Try.isAgg94
  z45 := Try.sizeOf94
  v45 := Try.zeroValue94
  t46 := Try.underlying95
  a46 := Try.isAgg95
  z46 := Try.sizeOf95
  v46 := Try.zeroValue95
  t50 := Try.underlying36
  a50 := Try.isAgg36
  z50 := Try.sizeOf36
  v50 := Try.zeroValue36
  t53 := Try.underlying102
  a53 := Try.isAgg102
  z53 := Try.sizeOf102
  v53 := Try.zeroValue102
  t55 := Try.underlying104
  a55 := Try.isAgg104
  z55 := Try.sizeOf104
  v55 := Try.zeroValue104
  t66 := Try.underlying116
  a66 := Try.isAgg116
  z66 := Try.sizeOf116
  v66 := Try.zeroValue116
  t70 := Try.underlying120
  a70 := Try.isAgg120
  z70 := Try.sizeOf120
  v70 := Try.zeroValue120
  t76 := Try.underlying127
  a76 := Try.isAgg127
  z76 := Try.sizeOf127
  v76 := Try.zeroValue127
  t77 := Try.underlying128
  a77 := Try.isAgg128
  z77 := Try.sizeOf128
  v77 := Try.zeroValue128
def sortT_ren : Go.Shelf.Ren := ⟨fun | 6 => 60 | 15 => 66 | 14 => 72 | 28 => 84 | 29 => 85 | 20 => 95 | 21 => 96 | 22 => 97 | 23 => 98 | 24 => 99 | 25 => 100 | 26 => 101 | 27 => 102 | 46 => 113 | 47 => 105 | 48 => 106 | 49 => 114 | 50 => 115 | 57 => 118 | n => n, fun | 22 => 43 | 24 => 24 | 25 => 67 | 3 => 3 | 39 => 82 | 0 => 0 | 53 => 102 | 55 => 104 | 4 => 4 | 46 => 95 | 45 => 94 | 50 => 36 | 5 => 5 | 9 => 9 | 66 => 116 | 70 => 120 | 76 => 127 | 77 => 128 | n => n, fun | n => n⟩
theorem sortT : Go.Proofs.SlLaysF0.n6 Try.prog sortT_ren where
  mixed := by kernel_rfl
  f6 := ⟨Try.f60.name, by decide, Try.func60.trans (congrArg some (by kernel_rfl))⟩
  f14 := ⟨Try.f72.name, by decide, Try.func72.trans (congrArg some (by kernel_rfl))⟩
  f15 := Try.func66.trans (congrArg some (by kernel_rfl))
  f20 := ⟨Try.f95.name, by decide, Try.func95.trans (congrArg some (by kernel_rfl))⟩
  f21 := ⟨Try.f96.name, by decide, Try.func96.trans (congrArg some (by kernel_rfl))⟩
  f22 := ⟨Try.f97.name, by decide, Try.func97.trans (congrArg some (by kernel_rfl))⟩
  f23 := ⟨Try.f98.name, by decide, Try.func98.trans (congrArg some (by kernel_rfl))⟩
  f24 := ⟨Try.f99.name, by decide, Try.func99.trans (congrArg some (by kernel_rfl))⟩
  f25 := ⟨Try.f100.name, by decide, Try.func100.trans (congrArg some (by kernel_rfl))⟩
  f26 := ⟨Try.f101.name, by decide, Try.func101.trans (congrArg some (by kernel_rfl))⟩
  f27 := ⟨Try.f102.name, by decide, Try.func102.trans (congrArg some (by kernel_rfl))⟩
  f28 := Try.func84.trans (congrArg some (by kernel_rfl))
  f29 := Try.func85.trans (congrArg some (by kernel_rfl))
  f46 := ⟨Try.f113.name, by decide, Try.func113.trans (congrArg some (by kernel_rfl))⟩
  f47 := Try.func105.trans (congrArg some (by kernel_rfl))
  f48 := Try.func106.trans (congrArg some (by kernel_rfl))
  f49 := ⟨Try.f114.name, by decide, Try.func114.trans (congrArg some (by kernel_rfl))⟩
  f50 := ⟨Try.f115.name, by decide, Try.func115.trans (congrArg some (by kernel_rfl))⟩
  f57 := ⟨Try.f118.name, by decide, Try.func118.trans (congrArg some (by kernel_rfl))⟩
  t0 := Try.underlying0
  a0 := Try.isAgg0
  z0 := Try.sizeOf0
  v0 := Try.zeroValue0
  t3 := Try.underlying3
  a3 := Try.isAgg3
  z3 := Try.sizeOf3
  v3 := Try.zeroValue3
  t4 := Try.underlying4
  a4 := Try.isAgg4
  z4 := Try.sizeOf4
  v4 := Try.zeroValue4
  t5 := Try.underlying5
  a5 := Try.isAgg5
  z5 := Try.sizeOf5
  v5 := Try.zeroValue5
  t9 := Try.underlying9
  a9 := Try.isAgg9
  z9 := Try.sizeOf9
  v9 := Try.zeroValue9
  t22 := Try.underlying43
  a22 := Try.isAgg43
  z22 := Try.sizeOf43
  v22 := Try.zeroValue43
  t25 := Try.underlying67
  a25 := Try.isAgg67
  z25 := Try.sizeOf67
  v25 := Try.zeroValue67
  t39 := Try.underlying82
  a39 := Try.isAgg82
  z39 := Try.sizeOf82
  v39 := Try.zeroValue82
  t45 := Try.underlying94
  a45 := Try.isAgg94
  z45 := Try.sizeOf94
  v45 := Try.zeroValue94
  t46 := Try.underlying95
  a46 := Try.isAgg95
  z46 := Try.sizeOf95
  v46 := Try.zeroValue95
  t50 := Try.underlying36
  a50 := Try.isAgg36
  z50 := Try.sizeOf36
  v50 := Try.zeroValue36
  t53 := Try.underlying102
  a53 := Try.isAgg102
  z53 := Try.sizeOf102
  v53 := Try.zeroValue102
  t55 := Try.underlying104
  a55 := Try.isAgg104
  z55 := Try.sizeOf104
  v55 := Try.zeroValue104
  t66 := Try.underlying116
  a66 := Try.isAgg116
  z66 := Try.sizeOf116
  v66 := Try.zeroValue116
  t70 := Try.underlying120
  a70 := Try.isAgg120
  z70 := Try.sizeOf120
  v70 := Try.zeroValue120
  t76 := Try.underlying127
  a76 := Try.isAgg127
  z76 := Try.sizeOf127
  v76 := Try.zeroValue127
  t77 := Try.underlying128
  a77 := Try.isAgg128
  z77 := Try.sizeOf128
  v77 := Try.zeroValue128
abbrev strU (s : List UInt8) : Value := .string ⟨s.toArray⟩
def qdE (q : Qd) : List Value := [.int .i64 q.s.k, strU q.s.t, strU q.s.y, strU q.s.l, .int .i64 q.p.k, strU q.p.t, strU q.p.y, strU q.p.l, .int .i64 q.o.k, strU q.o.t, strU q.o.y, strU q.o.l, .int .i64 q.g.k, strU q.g.t, strU q.g.y, strU q.g.l]
def tmE (x : Tm) : List Value := [.int .i64 x.k, strU x.t, strU x.y, strU x.l]
instance : Inhabited Tm := ⟨zeroTm⟩
instance : Inhabited Qd := ⟨zeroQd⟩
theorem ltOf_eq {α : Type} (c : α → α → Int) (x y : α) : ltOf c x y = decide (c x y < 0) := rfl
theorem swo_of {α : Type} {c : α → α → Int} (h : Tri c) : SWO (ltOf c) where
  irrefl x := by rw [ltOf_eq, h.self]; rfl
  trans x y z h1 h2 := by rw [ltOf_eq] at *; simp only [decide_eq_true_iff] at *; exact h.lt_trans h1 (by omega)
  ntrans x y z h1 h2 := by
    rw [ltOf_eq] at *
    simp only [decide_eq_false_iff_not] at *
    intro hc
    have := h.anti x y; have := h.anti y z; have := h.anti x z
    have := h.trans z y x (by omega) (by omega)
    omega
theorem one_of {α : Type} {c : α → α → Int} (h : Tri c) (x y : α) (h1 : ltOf c x y = false) (h2 : ltOf c y x = false) : x = y := by
  rw [ltOf_eq] at *
  simp only [decide_eq_false_iff_not] at *
  have := h.anti x y
  exact (h.zero x y).1 (by omega)
theorem denL_row {η : Env} : ∀ {vs us : List Value} {cs : List SV}, DenL η cs vs → DenL η cs us → detVL cs = true → vs = us := fun h h' hd => DetL.of hd _ _ _ h h'
theorem sortQ_does (l : List Qd) (hl : l.length * 224 ≤ 140737488351232) : Does Try.prog tab 51 1 [.sl (.loc 0) 0 16 l.length none, .fn (.func 32) [] []] [(0, .rows 16 (l.map qdRow))] []
    (fun r O nx => r = .tup [] ∧ O = [(0, .rows 16 ((l.mergeSort (leC qdCmp)).map qdRow))] ∧ nx = 1) := by
  have hrow : ∀ (η : Env) (q : Qd), DenL η (qdRow q) (qdE q) ∧ ∀ u ∈ qdE q, u.oneCell' = true := fun η q => by
    refine ⟨by simp only [qdRow, qdE, DenL, Den]; exact ⟨_, _, rfl, rfl, _, _, rfl, rfl, _, _, rfl, rfl, _, _, rfl, rfl, _, _, rfl, rfl, _, _, rfl, rfl, _, _, rfl, rfl, _, _, rfl, rfl, _, _, rfl, rfl, _, _, rfl, rfl, _, _, rfl, rfl, _, _, rfl, rfl, _, _, rfl, rfl, _, _, rfl, rfl, _, _, rfl, rfl, _, _, rfl, rfl, rfl⟩, fun u hu => ?_⟩
    simp only [qdE, List.mem_cons, List.not_mem_nil, or_false] at hu
    rcases hu with rfl | rfl | rfl | rfl | rfl | rfl | rfl | rfl | rfl | rfl | rfl | rfl | rfl | rfl | rfl | rfl <;> rfl
  exact sortFunc_does (enc := qdE) (k := 16) (row := qdRow) (cf := qdCmp) tabOK sortQ sortQ (fun w => by kernel_rfl) (fun w => by kernel_rfl) (fun q => ⟨rfl, rfl⟩) (by omega) (swo_of triQ) (one_of triQ) rfl (fun x y => qdCmp_does x y) Try.call32 Try.call51 hrow (fun η x vs h => denL_row h (hrow η x).1 rfl) l (by omega)
theorem sortT_does (l : List Tm) (hl : l.length * 224 ≤ 140737488351232) : Does Try.prog tab 60 1 [.sl (.loc 0) 0 4 l.length none, .fn (.func 43) [] []] [(0, .rows 4 (l.map tmRow))] []
    (fun r O nx => r = .tup [] ∧ O = [(0, .rows 4 ((l.mergeSort (leC tmCmp)).map tmRow))] ∧ nx = 1) := by
  have hrow : ∀ (η : Env) (q : Tm), DenL η (tmRow q) (tmE q) ∧ ∀ u ∈ tmE q, u.oneCell' = true := fun η q => by
    refine ⟨by simp only [tmRow, tmE, DenL, Den]; exact ⟨_, _, rfl, rfl, _, _, rfl, rfl, _, _, rfl, rfl, _, _, rfl, rfl, rfl⟩, fun u hu => ?_⟩
    simp only [tmE, List.mem_cons, List.not_mem_nil, or_false] at hu
    rcases hu with rfl | rfl | rfl | rfl <;> rfl
  exact sortFunc_does (enc := tmE) (k := 4) (row := tmRow) (cf := tmCmp) tabOK sortT sortT (fun w => by kernel_rfl) (fun w => by kernel_rfl) (fun q => ⟨rfl, rfl⟩) (by omega) (swo_of triT) (one_of triT) rfl (fun x y => tmCmp_does x y) Try.call43 Try.call60 hrow (fun η x vs h => denL_row h (hrow η x).1 rfl) l (by omega)
end Go.Proofs.Ytillkgjdbnjnoaa
/- term: sorted and Sort; walked. Conditions: none. -/
set_option linter.unusedVariables false
set_option linter.unusedSimpArgs false
set_option maxRecDepth 20000
namespace Go.Proofs.Ytillkgjdbnjnoaa
open Go.Sx Go.Our
/-- A new set: its slice is clipped; behind its end lie noughts. -/
def NewSet {α : Type} (f : α → List SV) (es k : Nat) (z : α) (n : Nat) (l : List α) : SV → Hps → Nat → Prop := fun r O nx => ∃ j, j + l.length ≤ n ∧ r = .sl (.loc k) 0 es l.length (some l.length) ∧ O = [(k, .rows es ((l ++ List.replicate j z).map f))] ∧ nx = k + 1
theorem sortedQ_does (l z : List Qd) (lim : Option Nat) (hl : l.length * 224 ≤ 140737488351232) : Does Try.prog tab 31 1 [.sl (.loc 0) 0 16 l.length lim, .fn (.func 32) [] []] [] [(0, .rows 16 ((l ++ z).map qdRow))]
    (NewSet qdRow 16 1 zeroQd l.length (setL qdCmp l)) := by
  have hm : (l.mergeSort (leC qdCmp)).length = l.length := List.length_mergeSort l
  have hc := compact_len (l.mergeSort (leC qdCmp))
  have hcc : (compactM (l.mergeSort (leC qdCmp)) ++ List.replicate ((l.mergeSort (leC qdCmp)).length - (compactM (l.mergeSort (leC qdCmp))).length) zeroQd).length * 224 ≤ 140737488351232 := by rw [List.length_append, List.length_replicate]; omega
  refine Does.enter tabOK (g := 31) (fn := Try.f31) Try.call31 Try.func31 rfl 14 rfl rfl [.tmp 4] rfl ?_
  intro w0 F η0 h0
  conv => whnf
  refine CALL.at [0] (cloneQ_does l z lim hl) rfl rfl rfl rfl (by first | rfl | (simp only [belowO, belowH, plainLL_below _ (plainQds _), Bool.and_self, Bool.and_true] <;> rfl)) (by first | rfl | (simp only [belowO, belowH, plainLL_below _ (plainQds _), Bool.and_self, Bool.and_true] <;> rfl)) (by repeat' (first | exact trivial | exact (renH_plain _ (h := .rows _ _) (plainQds _)).symm | exact rfl | exact (renH_plain _ (h := .rows _ _) (plainQds _)).trans (renH_plain _ (h := .rows _ _) (plainQds _)).symm | ((conv => whnf); refine ⟨?_, ?_⟩))) (by repeat' (first | exact trivial | exact (renH_plain _ (h := .rows _ _) (plainQds _)).symm | exact rfl | exact (renH_plain _ (h := .rows _ _) (plainQds _)).trans (renH_plain _ (h := .rows _ _) (plainQds _)).symm | ((conv => whnf); refine ⟨?_, ?_⟩))) rfl rfl ?_
  rintro r O nx ⟨rfl, rfl, rfl⟩
  conv => whnf
  refine CALL.at [1] (sortQ_does l hl) rfl rfl rfl rfl (by first | rfl | (simp only [belowO, belowH, plainLL_below _ (plainQds _), Bool.and_self, Bool.and_true] <;> rfl)) (by first | rfl | (simp only [belowO, belowH, plainLL_below _ (plainQds _), Bool.and_self, Bool.and_true] <;> rfl)) (by repeat' (first | exact trivial | exact (renH_plain _ (h := .rows _ _) (plainQds _)).symm | exact rfl | exact (renH_plain _ (h := .rows _ _) (plainQds _)).trans (renH_plain _ (h := .rows _ _) (plainQds _)).symm | ((conv => whnf); refine ⟨?_, ?_⟩))) (by repeat' (first | exact trivial | exact (renH_plain _ (h := .rows _ _) (plainQds _)).symm | exact rfl | exact (renH_plain _ (h := .rows _ _) (plainQds _)).trans (renH_plain _ (h := .rows _ _) (plainQds _)).symm | ((conv => whnf); refine ⟨?_, ?_⟩))) rfl rfl ?_
  rintro r O nx ⟨rfl, rfl, rfl⟩
  conv => whnf
  rw [← hm]
  refine CALL.at [1] (compactQ_does (l.mergeSort (leC qdCmp)) (by omega)) rfl rfl rfl rfl (by first | rfl | (simp only [belowO, belowH, plainLL_below _ (plainQds _), Bool.and_self, Bool.and_true] <;> rfl)) (by first | rfl | (simp only [belowO, belowH, plainLL_below _ (plainQds _), Bool.and_self, Bool.and_true] <;> rfl)) (by repeat' (first | exact trivial | exact (renH_plain _ (h := .rows _ _) (plainQds _)).symm | exact rfl | exact (renH_plain _ (h := .rows _ _) (plainQds _)).trans (renH_plain _ (h := .rows _ _) (plainQds _)).symm | ((conv => whnf); refine ⟨?_, ?_⟩))) (by repeat' (first | exact trivial | exact (renH_plain _ (h := .rows _ _) (plainQds _)).symm | exact rfl | exact (renH_plain _ (h := .rows _ _) (plainQds _)).trans (renH_plain _ (h := .rows _ _) (plainQds _)).symm | ((conv => whnf); refine ⟨?_, ?_⟩))) rfl rfl ?_
  rintro r O nx ⟨rfl, rfl, rfl⟩
  conv => whnf
  refine CALL.at [1] (clipQ_does (compactM (l.mergeSort (leC qdCmp)) ++ List.replicate ((l.mergeSort (leC qdCmp)).length - (compactM (l.mergeSort (leC qdCmp))).length) zeroQd) (compactM (l.mergeSort (leC qdCmp))).length (by simp) hcc) rfl rfl rfl rfl (by first | rfl | (simp only [belowO, belowH, plainLL_below _ (plainQds _), Bool.and_self, Bool.and_true] <;> rfl)) (by first | rfl | (simp only [belowO, belowH, plainLL_below _ (plainQds _), Bool.and_self, Bool.and_true] <;> rfl)) (by repeat' (first | exact trivial | exact (renH_plain _ (h := .rows _ _) (plainQds _)).symm | exact rfl | exact (renH_plain _ (h := .rows _ _) (plainQds _)).trans (renH_plain _ (h := .rows _ _) (plainQds _)).symm | ((conv => whnf); refine ⟨?_, ?_⟩))) (by repeat' (first | exact trivial | exact (renH_plain _ (h := .rows _ _) (plainQds _)).symm | exact rfl | exact (renH_plain _ (h := .rows _ _) (plainQds _)).trans (renH_plain _ (h := .rows _ _) (plainQds _)).symm | ((conv => whnf); refine ⟨?_, ?_⟩))) rfl rfl ?_
  rintro r O nx ⟨rfl, rfl, rfl⟩
  conv => whnf
  refine FIN.at h0 [1] (.sl (.loc 1) 0 16 (setL qdCmp l).length (some (setL qdCmp l).length)) [(1, .rows 16 ((setL qdCmp l ++ List.replicate ((l.mergeSort (leC qdCmp)).length - (compactM (l.mergeSort (leC qdCmp))).length) zeroQd).map qdRow))] rfl rfl rfl (by first | rfl | (simp only [belowO, belowH, plainLL_below _ (plainQds _), Bool.and_self, Bool.and_true] <;> rfl)) (by repeat' (first | exact trivial | exact (renH_plain _ (h := .rows _ _) (plainQds _)).symm | (with_reducible rfl) | (exact (renH_plain _ (h := .rows _ _) (plainQds _)).trans (renH_plain _ (h := .rows _ _) (plainQds _)).symm) | (exact rows_eq (plainQds _) (by simp [qdRow, ofVal, List.take_of_length_le])) | exact rfl | ((conv => whnf); refine ⟨?_, ?_⟩))) rfl ?_
  exact ⟨_, by unfold setL; omega, rfl, rfl, rfl⟩
theorem sortedT_does (l z : List Tm) (lim : Option Nat) (hl : l.length * 224 ≤ 140737488351232) : Does Try.prog tab 42 1 [.sl (.loc 0) 0 4 l.length lim, .fn (.func 43) [] []] [] [(0, .rows 4 ((l ++ z).map tmRow))]
    (NewSet tmRow 4 1 zeroTm l.length (setL tmCmp l)) := by
  have hm : (l.mergeSort (leC tmCmp)).length = l.length := List.length_mergeSort l
  have hc := compact_len (l.mergeSort (leC tmCmp))
  have hcc : (compactM (l.mergeSort (leC tmCmp)) ++ List.replicate ((l.mergeSort (leC tmCmp)).length - (compactM (l.mergeSort (leC tmCmp))).length) zeroTm).length * 224 ≤ 140737488351232 := by rw [List.length_append, List.length_replicate]; omega
  refine Does.enter tabOK (g := 42) (fn := Try.f42) Try.call42 Try.func42 rfl 14 rfl rfl [.tmp 4] rfl ?_
  intro w0 F η0 h0
  conv => whnf
  refine CALL.at [0] (cloneT_does l z lim hl) rfl rfl rfl rfl (by first | rfl | (simp only [belowO, belowH, plainLL_below _ (plainTms _), Bool.and_self, Bool.and_true] <;> rfl)) (by first | rfl | (simp only [belowO, belowH, plainLL_below _ (plainTms _), Bool.and_self, Bool.and_true] <;> rfl)) (by repeat' (first | exact trivial | exact (renH_plain _ (h := .rows _ _) (plainTms _)).symm | exact rfl | exact (renH_plain _ (h := .rows _ _) (plainTms _)).trans (renH_plain _ (h := .rows _ _) (plainTms _)).symm | ((conv => whnf); refine ⟨?_, ?_⟩))) (by repeat' (first | exact trivial | exact (renH_plain _ (h := .rows _ _) (plainTms _)).symm | exact rfl | exact (renH_plain _ (h := .rows _ _) (plainTms _)).trans (renH_plain _ (h := .rows _ _) (plainTms _)).symm | ((conv => whnf); refine ⟨?_, ?_⟩))) rfl rfl ?_
  rintro r O nx ⟨rfl, rfl, rfl⟩
  conv => whnf
  refine CALL.at [1] (sortT_does l hl) rfl rfl rfl rfl (by first | rfl | (simp only [belowO, belowH, plainLL_below _ (plainTms _), Bool.and_self, Bool.and_true] <;> rfl)) (by first | rfl | (simp only [belowO, belowH, plainLL_below _ (plainTms _), Bool.and_self, Bool.and_true] <;> rfl)) (by repeat' (first | exact trivial | exact (renH_plain _ (h := .rows _ _) (plainTms _)).symm | exact rfl | exact (renH_plain _ (h := .rows _ _) (plainTms _)).trans (renH_plain _ (h := .rows _ _) (plainTms _)).symm | ((conv => whnf); refine ⟨?_, ?_⟩))) (by repeat' (first | exact trivial | exact (renH_plain _ (h := .rows _ _) (plainTms _)).symm | exact rfl | exact (renH_plain _ (h := .rows _ _) (plainTms _)).trans (renH_plain _ (h := .rows _ _) (plainTms _)).symm | ((conv => whnf); refine ⟨?_, ?_⟩))) rfl rfl ?_
  rintro r O nx ⟨rfl, rfl, rfl⟩
  conv => whnf
  rw [← hm]
  refine CALL.at [1] (compactT_does (l.mergeSort (leC tmCmp)) (by omega)) rfl rfl rfl rfl (by first | rfl | (simp only [belowO, belowH, plainLL_below _ (plainTms _), Bool.and_self, Bool.and_true] <;> rfl)) (by first | rfl | (simp only [belowO, belowH, plainLL_below _ (plainTms _), Bool.and_self, Bool.and_true] <;> rfl)) (by repeat' (first | exact trivial | exact (renH_plain _ (h := .rows _ _) (plainTms _)).symm | exact rfl | exact (renH_plain _ (h := .rows _ _) (plainTms _)).trans (renH_plain _ (h := .rows _ _) (plainTms _)).symm | ((conv => whnf); refine ⟨?_, ?_⟩))) (by repeat' (first | exact trivial | exact (renH_plain _ (h := .rows _ _) (plainTms _)).symm | exact rfl | exact (renH_plain _ (h := .rows _ _) (plainTms _)).trans (renH_plain _ (h := .rows _ _) (plainTms _)).symm | ((conv => whnf); refine ⟨?_, ?_⟩))) rfl rfl ?_
  rintro r O nx ⟨rfl, rfl, rfl⟩
  conv => whnf
  refine CALL.at [1] (clipT_does (compactM (l.mergeSort (leC tmCmp)) ++ List.replicate ((l.mergeSort (leC tmCmp)).length - (compactM (l.mergeSort (leC tmCmp))).length) zeroTm) (compactM (l.mergeSort (leC tmCmp))).length (by simp) hcc) rfl rfl rfl rfl (by first | rfl | (simp only [belowO, belowH, plainLL_below _ (plainTms _), Bool.and_self, Bool.and_true] <;> rfl)) (by first | rfl | (simp only [belowO, belowH, plainLL_below _ (plainTms _), Bool.and_self, Bool.and_true] <;> rfl)) (by repeat' (first | exact trivial | exact (renH_plain _ (h := .rows _ _) (plainTms _)).symm | exact rfl | exact (renH_plain _ (h := .rows _ _) (plainTms _)).trans (renH_plain _ (h := .rows _ _) (plainTms _)).symm | ((conv => whnf); refine ⟨?_, ?_⟩))) (by repeat' (first | exact trivial | exact (renH_plain _ (h := .rows _ _) (plainTms _)).symm | exact rfl | exact (renH_plain _ (h := .rows _ _) (plainTms _)).trans (renH_plain _ (h := .rows _ _) (plainTms _)).symm | ((conv => whnf); refine ⟨?_, ?_⟩))) rfl rfl ?_
  rintro r O nx ⟨rfl, rfl, rfl⟩
  conv => whnf
  refine FIN.at h0 [1] (.sl (.loc 1) 0 4 (setL tmCmp l).length (some (setL tmCmp l).length)) [(1, .rows 4 ((setL tmCmp l ++ List.replicate ((l.mergeSort (leC tmCmp)).length - (compactM (l.mergeSort (leC tmCmp))).length) zeroTm).map tmRow))] rfl rfl rfl (by first | rfl | (simp only [belowO, belowH, plainLL_below _ (plainTms _), Bool.and_self, Bool.and_true] <;> rfl)) (by repeat' (first | exact trivial | exact (renH_plain _ (h := .rows _ _) (plainTms _)).symm | (with_reducible rfl) | (exact (renH_plain _ (h := .rows _ _) (plainTms _)).trans (renH_plain _ (h := .rows _ _) (plainTms _)).symm) | (exact rows_eq (plainTms _) (by simp [tmRow, ofVal, List.take_of_length_le])) | exact rfl | ((conv => whnf); refine ⟨?_, ?_⟩))) rfl ?_
  exact ⟨_, by unfold setL; omega, rfl, rfl, rfl⟩
theorem tsort_does (l z : List Qd) (lim : Option Nat) (hl : QdsOK l) : Does Try.prog tab 11 1 [.sl (.loc 0) 0 16 l.length lim] [] [(0, .rows 16 ((l ++ z).map qdRow))] (NewSet qdRow 16 1 zeroQd l.length (setL qdCmp l)) := by
  refine Does.enter tabOK (g := 11) (fn := Try.f11) Try.call11 Try.func11 rfl 5 rfl rfl [.tmp 2] rfl ?_
  intro w0 F η0 h0
  conv => whnf
  refine CALL.at [0] (sortedQ_does l z lim hl) rfl rfl rfl rfl (by first | rfl | (simp only [belowO, belowH, plainLL_below _ (plainQds _), Bool.and_self, Bool.and_true] <;> rfl)) (by first | rfl | (simp only [belowO, belowH, plainLL_below _ (plainQds _), Bool.and_self, Bool.and_true] <;> rfl)) (by repeat' (first | exact trivial | exact (renH_plain _ (h := .rows _ _) (plainQds _)).symm | exact rfl | exact (renH_plain _ (h := .rows _ _) (plainQds _)).trans (renH_plain _ (h := .rows _ _) (plainQds _)).symm | ((conv => whnf); refine ⟨?_, ?_⟩))) (by repeat' (first | exact trivial | exact (renH_plain _ (h := .rows _ _) (plainQds _)).symm | exact rfl | exact (renH_plain _ (h := .rows _ _) (plainQds _)).trans (renH_plain _ (h := .rows _ _) (plainQds _)).symm | ((conv => whnf); refine ⟨?_, ?_⟩))) rfl rfl ?_
  rintro r O nx ⟨j, hj, rfl, rfl, rfl⟩
  conv => whnf
  refine FIN.at h0 [1] (.sl (.loc 1) 0 16 (setL qdCmp l).length (some (setL qdCmp l).length)) [(1, .rows 16 ((setL qdCmp l ++ List.replicate j zeroQd).map qdRow))] rfl rfl rfl (by first | rfl | (simp only [belowO, belowH, plainLL_below _ (plainQds _), Bool.and_self, Bool.and_true] <;> rfl)) (by repeat' (first | exact trivial | exact (renH_plain _ (h := .rows _ _) (plainQds _)).symm | (with_reducible rfl) | (exact (renH_plain _ (h := .rows _ _) (plainQds _)).trans (renH_plain _ (h := .rows _ _) (plainQds _)).symm) | (exact rows_eq (plainQds _) (by simp [qdRow, ofVal, List.take_of_length_le])) | exact rfl | ((conv => whnf); refine ⟨?_, ?_⟩))) rfl ?_
  exact ⟨j, hj, rfl, rfl, rfl⟩
end Go.Proofs.Ytillkgjdbnjnoaa
/- The reference's merged and Sort; walked. Conditions: none. -/
set_option linter.unusedVariables false
set_option linter.unusedSimpArgs false
set_option maxRecDepth 20000
namespace Go.Proofs.Ytillkgjdbnjnoaa
open Go.Sx Go.Our
def plSets30 : Plan := (planOf [(0, 1), (1, 1), (2, 1), (3, 1), (4, 1), (5, 1), (6, 1), (7, 1), (8, 1), (9, 1), (11, 1), (12, 1), (10, 2), (13, 2), (14, 3), (15, 1), (16, 1), (17, 1)])
def plSets31 : Plan := (planOf [(0, 1), (1, 1), (2, 1), (3, 1), (4, 1), (5, 1), (6, 1), (7, 1), (8, 1), (9, 2), (10, 2), (11, 3), (12, 1), (13, 1)])
def plSets32 : Plan := (planOf [(0, 1), (1, 1), (2, 1), (3, 1), (4, 1), (6, 1), (7, 1), (8, 1), (9, 1), (10, 1), (5, 3), (11, 3), (12, 3), (13, 1)])
/-- A new list, and nothing else; what lies behind its end is not told. -/
def NewList {α : Type} (f : α → List SV) (es k : Nat) (l : List α) : SV → Hps → Nat → Prop := fun r O nx => r = .sl (.loc k) 0 es l.length none ∧ O = [(k, .rows es (l.map f))] ∧ nx = k + 1
theorem push_some {α : Type} {c : α → α → Int} {out : List α} (h : out ≠ []) (q : α) : pushM c out q = if c (out.getLast h) q < 0 then out ++ [q] else out := by
  unfold pushM
  rw [List.getLast?_eq_some_getLast h]
theorem push_len {α : Type} {c : α → α → Int} (out : List α) (q : α) : (pushM c out q).length ≤ out.length + 1 := by
  unfold pushM
  split
  · simp
  · split <;> simp
theorem push_yes {α : Type} {c : α → α → Int} {out : List α} {q : α} (h : out.length = 0 ∨ ∃ h0 : 0 < out.length, c (out[out.length - 1]'(by omega)) q < 0) : pushM c out q = out ++ [q] := by
  rcases h with h | ⟨h0, h⟩
  · have := List.length_eq_zero_iff.1 h
    subst this; rfl
  · have hne : out ≠ [] := fun e => by subst e; simp at h0
    rw [push_some hne, List.getLast_eq_getElem, if_pos h]
theorem push_no {α : Type} {c : α → α → Int} {out : List α} {q : α} (h : ∃ h0 : 0 < out.length, 0 ≤ c (out[out.length - 1]'(by omega)) q) : pushM c out q = out := by
  obtain ⟨h0, h⟩ := h
  have hne : out ≠ [] := fun e => by subst e; simp at h0
  rw [push_some hne, List.getLast_eq_getElem, if_neg (by omega)]
theorem rmerge_nil {α : Type} {c : α → α → Int} (out : List α) : rmerge c out [] [] = out := by unfold rmerge; rfl
theorem rmerge_left {α : Type} {c : α → α → Int} {out a b : List α} (x : α) (h : b = [] ∨ ∃ y t, b = y :: t ∧ c x y ≤ 0) : rmerge c out (x :: a) b = rmerge c (pushM c out x) a b := by
  rcases h with rfl | ⟨y, t, rfl, h⟩
  · conv => lhs; unfold rmerge
  · conv => lhs; unfold rmerge
    rw [if_pos h]
theorem rmerge_right {α : Type} {c : α → α → Int} {out a b : List α} (y : α) (h : a = [] ∨ ∃ x t, a = x :: t ∧ ¬ c x y ≤ 0) : rmerge c out a (y :: b) = rmerge c (pushM c out y) a b := by
  rcases h with rfl | ⟨x, t, rfl, h⟩
  · conv => lhs; unfold rmerge
  · conv => lhs; unfold rmerge
    rw [if_neg h]
theorem cut_cons {α : Type} {A : List α} {i k n : Nat} (h : k < n) (hA : i + n ≤ A.length) : (A.drop (i + k)).take (n - k) = A[i + k] :: (A.drop (i + (k + 1))).take (n - (k + 1)) := by
  rw [List.drop_eq_getElem_cons (by omega), show n - k = (n - (k + 1)) + 1 by omega, List.take_succ_cons]; rfl
set_option maxHeartbeats 4000000 in
theorem rmergedQ_does (A B : List Qd) (i n j m : Nat) (lA lB : Option Nat) (hA : i + n ≤ A.length) (hB : j + m ≤ B.length) (hl : (A.length + B.length) * 224 ≤ 140737488351232) : Does Try.prog tab 33 2 [.sl (.loc 0) i 16 n lA, .sl (.loc 1) j 16 m lB] [] [(0, .rows 16 (A.map qdRow)), (1, .rows 16 (B.map qdRow))]
    (NewList qdRow 16 2 (rmerge qdCmp [] ((A.drop i).take n) ((B.drop j).take m))) := by
  refine Does.enter tabOK (g := 33) (fn := Try.f33) Try.call33 Try.func33 rfl 62 rfl rfl [.tmp 4] rfl ?_
  intro w0 F η0 h0
  conv => whnf
  refine LOOP.nil 5 16 rfl ?_
  refine LOOP.go tabOK [] (X := List Qd × Nat × Nat) (fun x => x.2.1 ≤ n ∧ x.2.2 ≤ m ∧ x.1.length ≤ x.2.1 + x.2.2 ∧ rmerge qdCmp [] ((A.drop i).take n) ((B.drop j).take m) = rmerge qdCmp x.1 ((A.drop (i + x.2.1)).take (n - x.2.1)) ((B.drop (j + x.2.2)).take (m - x.2.2)))
    (fun x => [(0, .sl (.loc 0) (i + x.2.1) 16 (n - x.2.1) lA), (1, .sl (.loc 1) (j + x.2.2) 16 (m - x.2.2) lB), (5, .sl (.loc 2) 0 16 x.1.length none)]) (fun x => [(2, .rows 16 (x.1.map qdRow))]) 3 (fun x => (n - x.2.1) + (m - x.2.2)) ([], 0, 0) ⟨by simp, by simp, by simp, rfl⟩ ?_
  conv => whnf
  refine ⟨by (refine GOES.cutting h0 rfl rfl rfl (by first | rfl | simp [belowO, belowH, plainLL_below, plainLL_map, plainL, plain]) ?_ ?_ <;> (repeat' (first | (with_reducible rfl) | (exact congrArg (fun n => SV.sl _ _ _ n _) (by simp)) | (exact congrArg (Hp.rows _) (by simp)) | (exact congrArg (SV.int _) (by first | omega | (simp (disch := omega) only [lnB, wrap64, wrap32] <;> omega) | (simp; done) | (simp <;> omega))) | ((conv => whnf); refine ⟨?_, ?_⟩) | exact trivial | (simp; done) | rfl))), ?_⟩
  rintro ⟨out, p, q⟩ ⟨hp, hq, ho, hr⟩
  dsimp only at hp hq ho hr ⊢
  have hlast : ∀ (h : 0 < out.length), IntKind.i64.wrap ((out.length : Int) - 1) = ((out.length - 1 : Nat) : Int) := fun h => by rw [wrap64 (by omega) (by omega)]; omega
  rcases Nat.lt_or_ge p n with hpn | hpn <;> rcases Nat.lt_or_ge q m with hqm | hqm
  · have ha := cut_cons (A := A) (i := i) hpn hA
    have hb := cut_cons (A := B) (i := j) hqm hB
    rw [ha, hb] at hr
    conv => whnf
    repeat' ((first | with_reducible refine IF.tt ?_ | with_reducible refine IF.ff ?_ | refine DRAWN.of (id := 4) tabOK mixed plSets30 (by kernel_rfl) ?_ | refine DRAWN.of (id := 9) tabOK mixed plSets31 (by kernel_rfl) ?_ | with_reducible refine ADD.mk (fun _ _ => ?_) | with_reducible refine NEED.mk (Det.of rfl) ?_ | refine NEED.mk (det_pos (by omega)) ?_ | with_reducible refine FORK.mk ?_ ?_ | refine CALL.value (rqdCmp_does _ _) rfl rfl ?_ | (refine NEED.mk (needApp 224 rfl rfl rfl (by simp) (by omega)) ?_; conv => whnf) | (refine GET.at (row := qdRow (A[i + p]'(by omega))) (row_at0 (by omega) (by omega)) ?_; conv => whnf) | (refine GET.at (row := qdRow (B[j + q]'(by omega))) (row_at0 (by omega) (by omega)) ?_; conv => whnf) | (refine GET.at (row := qdRow (out[out.length - 1]'(by omega))) (row_at0 (by omega) (by rw [hlast (by omega)]; omega)) ?_; conv => whnf) | ((with_reducible refine NEED.mk ?_ ?_); (first | with_reducible rfl | omega | (simp (disch := omega) only [lnB, wrap64, wrap32] <;> omega) | (intro h; (try simp (disch := omega) only [hsB, hsC, lnB, wrap64, wrap32, simprocAttr] at h); (first | omega | (simp (disch := omega) only [lnB, wrap64, wrap32] <;> omega))) | (exact needApp 256 rfl rfl (by simp) (by simp) (by omega)) | (exact ⟨by omega, le_reach (by omega)⟩) | (exact ⟨by omega, by omega, le_reach (by omega)⟩) | (simp <;> omega))) | ((with_reducible apply GET.at); rfl) | ((with_reducible apply GETG.at); rfl) | ((with_reducible refine UNK.mk (fun h => ?_) ?_) <;> try (exfalso; omega)) | ((with_reducible refine IF.mk (fun h => ?_) (fun h => ?_)) <;> (try simp (disch := omega) only [hsB, hsC, lnB, wrap64, wrap32, simprocAttr] at h) <;> try (exfalso; omega))) <;> conv => whnf)
    all_goals first
      | (refine ⟨(out ++ [A[i + p]'(by omega)], p + 1, q), ⟨by dsimp only; omega, by dsimp only; omega, by simp only [List.length_append, List.length_cons, List.length_nil]; omega, by dsimp only; rw [hr, rmerge_left _ (.inr ⟨_, _, rfl, by omega⟩), push_yes (by first | (left; omega) | (right; exact ⟨by omega, by assumption⟩))]; (first | done | rw [hb] | rw [ha])⟩, by dsimp only; omega, ?_⟩; dsimp only; (conv => whnf); (refine GOES.keeping h0 [5] rfl rfl rfl (by first | rfl | (simp only [belowO, belowH, plainLL_below _ (plainQds _), Bool.and_self, Bool.and_true] <;> rfl)) ?_ ?_ <;> (repeat' (first | (with_reducible rfl) | (exact rows_eq (plainQds _) (renLL_plain _ (plainQds _))) | (exact rows_eq (plainQds _) (by (simp [List.take_of_length_le, ofVal, qdRow]))) | (exact sl_eq rfl (by first | (simp; done) | omega | (simp; omega))) | (exact congrArg (SV.int _) (by first | omega | (simp (disch := omega) only [lnB, wrap64, wrap32] <;> omega) | (simp; done) | (simp <;> omega))) | ((conv => whnf); refine ⟨?_, ?_⟩) | exact trivial | (simp only [ren, renB]; done) | rfl))); done)
      | (refine ⟨(out, p + 1, q), ⟨by dsimp only; omega, by dsimp only; omega, by dsimp only; omega, by dsimp only; rw [hr, rmerge_left _ (.inr ⟨_, _, rfl, by omega⟩), push_no ⟨by omega, by assumption⟩]; (first | done | rw [hb] | rw [ha])⟩, by dsimp only; omega, ?_⟩; dsimp only; (conv => whnf); (refine GOES.cutting h0 rfl rfl rfl (by first | rfl | (simp only [belowO, belowH, plainLL_below _ (plainQds _), Bool.and_self, Bool.and_true] <;> rfl)) ?_ ?_ <;> (repeat' (first | (with_reducible rfl) | (exact sl_eq rfl (by first | (simp; done) | omega | (simp; omega))) | (exact congrArg (SV.int _) (by first | omega | (simp (disch := omega) only [lnB, wrap64, wrap32] <;> omega) | (simp; done) | (simp <;> omega))) | (exact congrArg (Hp.rows _) (by rfl)) | ((conv => whnf); refine ⟨?_, ?_⟩) | exact trivial | rfl))); done)
      | (refine ⟨(out ++ [B[j + q]'(by omega)], p, q + 1), ⟨by dsimp only; omega, by dsimp only; omega, by simp only [List.length_append, List.length_cons, List.length_nil]; omega, by dsimp only; rw [hr, rmerge_right _ (.inr ⟨_, _, rfl, by omega⟩), push_yes (by first | (left; omega) | (right; exact ⟨by omega, by assumption⟩))]; (first | done | rw [hb] | rw [ha])⟩, by dsimp only; omega, ?_⟩; dsimp only; (conv => whnf); (refine GOES.keeping h0 [5] rfl rfl rfl (by first | rfl | (simp only [belowO, belowH, plainLL_below _ (plainQds _), Bool.and_self, Bool.and_true] <;> rfl)) ?_ ?_ <;> (repeat' (first | (with_reducible rfl) | (exact rows_eq (plainQds _) (renLL_plain _ (plainQds _))) | (exact rows_eq (plainQds _) (by (simp [List.take_of_length_le, ofVal, qdRow]))) | (exact sl_eq rfl (by first | (simp; done) | omega | (simp; omega))) | (exact congrArg (SV.int _) (by first | omega | (simp (disch := omega) only [lnB, wrap64, wrap32] <;> omega) | (simp; done) | (simp <;> omega))) | ((conv => whnf); refine ⟨?_, ?_⟩) | exact trivial | (simp only [ren, renB]; done) | rfl))); done)
      | (refine ⟨(out, p, q + 1), ⟨by dsimp only; omega, by dsimp only; omega, by dsimp only; omega, by dsimp only; rw [hr, rmerge_right _ (.inr ⟨_, _, rfl, by omega⟩), push_no ⟨by omega, by assumption⟩]; (first | done | rw [hb] | rw [ha])⟩, by dsimp only; omega, ?_⟩; dsimp only; (conv => whnf); (refine GOES.cutting h0 rfl rfl rfl (by first | rfl | (simp only [belowO, belowH, plainLL_below _ (plainQds _), Bool.and_self, Bool.and_true] <;> rfl)) ?_ ?_ <;> (repeat' (first | (with_reducible rfl) | (exact sl_eq rfl (by first | (simp; done) | omega | (simp; omega))) | (exact congrArg (SV.int _) (by first | omega | (simp (disch := omega) only [lnB, wrap64, wrap32] <;> omega) | (simp; done) | (simp <;> omega))) | (exact congrArg (Hp.rows _) (by rfl)) | ((conv => whnf); refine ⟨?_, ?_⟩) | exact trivial | rfl))); done)
  · have ha := cut_cons (A := A) (i := i) hpn hA
    have hb : (B.drop (j + q)).take (m - q) = [] := by rw [show m - q = 0 by omega]; rfl
    rw [ha, hb] at hr
    conv => whnf
    repeat' ((first | with_reducible refine IF.tt ?_ | with_reducible refine IF.ff ?_ | refine DRAWN.of (id := 4) tabOK mixed plSets30 (by kernel_rfl) ?_ | refine DRAWN.of (id := 9) tabOK mixed plSets31 (by kernel_rfl) ?_ | with_reducible refine ADD.mk (fun _ _ => ?_) | with_reducible refine NEED.mk (Det.of rfl) ?_ | refine NEED.mk (det_pos (by omega)) ?_ | with_reducible refine FORK.mk ?_ ?_ | refine CALL.value (rqdCmp_does _ _) rfl rfl ?_ | (refine NEED.mk (needApp 224 rfl rfl rfl (by simp) (by omega)) ?_; conv => whnf) | (refine GET.at (row := qdRow (A[i + p]'(by omega))) (row_at0 (by omega) (by omega)) ?_; conv => whnf) | (refine GET.at (row := qdRow (B[j + q]'(by omega))) (row_at0 (by omega) (by omega)) ?_; conv => whnf) | (refine GET.at (row := qdRow (out[out.length - 1]'(by omega))) (row_at0 (by omega) (by rw [hlast (by omega)]; omega)) ?_; conv => whnf) | ((with_reducible refine NEED.mk ?_ ?_); (first | with_reducible rfl | omega | (simp (disch := omega) only [lnB, wrap64, wrap32] <;> omega) | (intro h; (try simp (disch := omega) only [hsB, hsC, lnB, wrap64, wrap32, simprocAttr] at h); (first | omega | (simp (disch := omega) only [lnB, wrap64, wrap32] <;> omega))) | (exact needApp 256 rfl rfl (by simp) (by simp) (by omega)) | (exact ⟨by omega, le_reach (by omega)⟩) | (exact ⟨by omega, by omega, le_reach (by omega)⟩) | (simp <;> omega))) | ((with_reducible apply GET.at); rfl) | ((with_reducible apply GETG.at); rfl) | ((with_reducible refine UNK.mk (fun h => ?_) ?_) <;> try (exfalso; omega)) | ((with_reducible refine IF.mk (fun h => ?_) (fun h => ?_)) <;> (try simp (disch := omega) only [hsB, hsC, lnB, wrap64, wrap32, simprocAttr] at h) <;> try (exfalso; omega))) <;> conv => whnf)
    all_goals first
      | (refine ⟨(out ++ [A[i + p]'(by omega)], p + 1, q), ⟨by dsimp only; omega, by dsimp only; omega, by simp only [List.length_append, List.length_cons, List.length_nil]; omega, by dsimp only; rw [hb, hr, rmerge_left _ (.inl rfl), push_yes (by first | (left; omega) | (right; exact ⟨by omega, by assumption⟩))]; (first | done | rw [hb] | rw [ha])⟩, by dsimp only; omega, ?_⟩; dsimp only; (conv => whnf); (refine GOES.keeping h0 [5] rfl rfl rfl (by first | rfl | (simp only [belowO, belowH, plainLL_below _ (plainQds _), Bool.and_self, Bool.and_true] <;> rfl)) ?_ ?_ <;> (repeat' (first | (with_reducible rfl) | (exact rows_eq (plainQds _) (renLL_plain _ (plainQds _))) | (exact rows_eq (plainQds _) (by (simp [List.take_of_length_le, ofVal, qdRow]))) | (exact sl_eq rfl (by first | (simp; done) | omega | (simp; omega))) | (exact congrArg (SV.int _) (by first | omega | (simp (disch := omega) only [lnB, wrap64, wrap32] <;> omega) | (simp; done) | (simp <;> omega))) | ((conv => whnf); refine ⟨?_, ?_⟩) | exact trivial | (simp only [ren, renB]; done) | rfl))); done)
      | (refine ⟨(out, p + 1, q), ⟨by dsimp only; omega, by dsimp only; omega, by dsimp only; omega, by dsimp only; rw [hb, hr, rmerge_left _ (.inl rfl), push_no ⟨by omega, by assumption⟩]; (first | done | rw [hb] | rw [ha])⟩, by dsimp only; omega, ?_⟩; dsimp only; (conv => whnf); (refine GOES.cutting h0 rfl rfl rfl (by first | rfl | (simp only [belowO, belowH, plainLL_below _ (plainQds _), Bool.and_self, Bool.and_true] <;> rfl)) ?_ ?_ <;> (repeat' (first | (with_reducible rfl) | (exact sl_eq rfl (by first | (simp; done) | omega | (simp; omega))) | (exact congrArg (SV.int _) (by first | omega | (simp (disch := omega) only [lnB, wrap64, wrap32] <;> omega) | (simp; done) | (simp <;> omega))) | (exact congrArg (Hp.rows _) (by rfl)) | ((conv => whnf); refine ⟨?_, ?_⟩) | exact trivial | rfl))); done)
  · have hb := cut_cons (A := B) (i := j) hqm hB
    have ha : (A.drop (i + p)).take (n - p) = [] := by rw [show n - p = 0 by omega]; rfl
    rw [ha, hb] at hr
    conv => whnf
    repeat' ((first | with_reducible refine IF.tt ?_ | with_reducible refine IF.ff ?_ | refine DRAWN.of (id := 4) tabOK mixed plSets30 (by kernel_rfl) ?_ | refine DRAWN.of (id := 9) tabOK mixed plSets31 (by kernel_rfl) ?_ | with_reducible refine ADD.mk (fun _ _ => ?_) | with_reducible refine NEED.mk (Det.of rfl) ?_ | refine NEED.mk (det_pos (by omega)) ?_ | with_reducible refine FORK.mk ?_ ?_ | refine CALL.value (rqdCmp_does _ _) rfl rfl ?_ | (refine NEED.mk (needApp 224 rfl rfl rfl (by simp) (by omega)) ?_; conv => whnf) | (refine GET.at (row := qdRow (A[i + p]'(by omega))) (row_at0 (by omega) (by omega)) ?_; conv => whnf) | (refine GET.at (row := qdRow (B[j + q]'(by omega))) (row_at0 (by omega) (by omega)) ?_; conv => whnf) | (refine GET.at (row := qdRow (out[out.length - 1]'(by omega))) (row_at0 (by omega) (by rw [hlast (by omega)]; omega)) ?_; conv => whnf) | ((with_reducible refine NEED.mk ?_ ?_); (first | with_reducible rfl | omega | (simp (disch := omega) only [lnB, wrap64, wrap32] <;> omega) | (intro h; (try simp (disch := omega) only [hsB, hsC, lnB, wrap64, wrap32, simprocAttr] at h); (first | omega | (simp (disch := omega) only [lnB, wrap64, wrap32] <;> omega))) | (exact needApp 256 rfl rfl (by simp) (by simp) (by omega)) | (exact ⟨by omega, le_reach (by omega)⟩) | (exact ⟨by omega, by omega, le_reach (by omega)⟩) | (simp <;> omega))) | ((with_reducible apply GET.at); rfl) | ((with_reducible apply GETG.at); rfl) | ((with_reducible refine UNK.mk (fun h => ?_) ?_) <;> try (exfalso; omega)) | ((with_reducible refine IF.mk (fun h => ?_) (fun h => ?_)) <;> (try simp (disch := omega) only [hsB, hsC, lnB, wrap64, wrap32, simprocAttr] at h) <;> try (exfalso; omega))) <;> conv => whnf)
    all_goals first
      | (refine ⟨(out ++ [B[j + q]'(by omega)], p, q + 1), ⟨by dsimp only; omega, by dsimp only; omega, by simp only [List.length_append, List.length_cons, List.length_nil]; omega, by dsimp only; rw [ha, hr, rmerge_right _ (.inl rfl), push_yes (by first | (left; omega) | (right; exact ⟨by omega, by assumption⟩))]; (first | done | rw [hb] | rw [ha])⟩, by dsimp only; omega, ?_⟩; dsimp only; (conv => whnf); (refine GOES.keeping h0 [5] rfl rfl rfl (by first | rfl | (simp only [belowO, belowH, plainLL_below _ (plainQds _), Bool.and_self, Bool.and_true] <;> rfl)) ?_ ?_ <;> (repeat' (first | (with_reducible rfl) | (exact rows_eq (plainQds _) (renLL_plain _ (plainQds _))) | (exact rows_eq (plainQds _) (by (simp [List.take_of_length_le, ofVal, qdRow]))) | (exact sl_eq rfl (by first | (simp; done) | omega | (simp; omega))) | (exact congrArg (SV.int _) (by first | omega | (simp (disch := omega) only [lnB, wrap64, wrap32] <;> omega) | (simp; done) | (simp <;> omega))) | ((conv => whnf); refine ⟨?_, ?_⟩) | exact trivial | (simp only [ren, renB]; done) | rfl))); done)
      | (refine ⟨(out, p, q + 1), ⟨by dsimp only; omega, by dsimp only; omega, by dsimp only; omega, by dsimp only; rw [ha, hr, rmerge_right _ (.inl rfl), push_no ⟨by omega, by assumption⟩]; (first | done | rw [hb] | rw [ha])⟩, by dsimp only; omega, ?_⟩; dsimp only; (conv => whnf); (refine GOES.cutting h0 rfl rfl rfl (by first | rfl | (simp only [belowO, belowH, plainLL_below _ (plainQds _), Bool.and_self, Bool.and_true] <;> rfl)) ?_ ?_ <;> (repeat' (first | (with_reducible rfl) | (exact sl_eq rfl (by first | (simp; done) | omega | (simp; omega))) | (exact congrArg (SV.int _) (by first | omega | (simp (disch := omega) only [lnB, wrap64, wrap32] <;> omega) | (simp; done) | (simp <;> omega))) | (exact congrArg (Hp.rows _) (by rfl)) | ((conv => whnf); refine ⟨?_, ?_⟩) | exact trivial | rfl))); done)
  · have ha : (A.drop (i + p)).take (n - p) = [] := by rw [show n - p = 0 by omega]; rfl
    have hb : (B.drop (j + q)).take (m - q) = [] := by rw [show m - q = 0 by omega]; rfl
    rw [ha, hb, rmerge_nil] at hr
    conv => whnf
    repeat' ((first | with_reducible refine IF.tt ?_ | with_reducible refine IF.ff ?_ | ((with_reducible refine NEED.mk ?_ ?_); (first | with_reducible rfl | omega | (simp (disch := omega) only [lnB, wrap64, wrap32] <;> omega) | (intro h; (try simp (disch := omega) only [hsB, hsC, lnB, wrap64, wrap32, simprocAttr] at h); (first | omega | (simp (disch := omega) only [lnB, wrap64, wrap32] <;> omega))) | (exact needApp 256 rfl rfl (by simp) (by simp) (by omega)) | (exact ⟨by omega, le_reach (by omega)⟩) | (exact ⟨by omega, by omega, le_reach (by omega)⟩) | (simp <;> omega))) | ((with_reducible apply GET.at); rfl) | ((with_reducible apply GETG.at); rfl) | ((with_reducible refine UNK.mk (fun h => ?_) ?_) <;> try (exfalso; omega)) | ((with_reducible refine IF.mk (fun h => ?_) (fun h => ?_)) <;> (try simp (disch := omega) only [hsB, hsC, lnB, wrap64, wrap32, simprocAttr] at h) <;> try (exfalso; omega))) <;> conv => whnf)
    rw [hr]
    exact FIN.rows h0 2 16 out.length rfl rfl rfl (plainQds _) ⟨rfl, rfl, rfl⟩
theorem rsort_len {α : Type} [DecidableEq α] {c : α → α → Int} (h : Tri c) (l : List α) : (rsort c l).length ≤ l.length := by
  rw [rsort_set h _ l (Nat.le_refl _)]; exact set_len l
set_option maxHeartbeats 4000000 in
theorem rsortQ_does (A : List Qd) (hA : A.length * 224 ≤ 140737488351232) : ∀ (k n i : Nat) (hk : n ≤ k) (hi : i + n ≤ A.length), Does Try.prog tab 13 1 [.sl (.loc 0) i 16 n none] [] [(0, .rows 16 (A.map qdRow))] (NewList qdRow 16 1 (rsort qdCmp ((A.drop i).take n)))
  | k, n, i, hk, hi => by
    obtain ⟨l, hl⟩ : ∃ l, l = (A.drop i).take n := ⟨_, rfl⟩
    have hln : l.length = n := by rw [hl]; simp; omega
    have hrows : ((A.map qdRow).drop i).take n = l.map qdRow := by rw [hl, List.map_take, List.map_drop]
    rw [← hl]
    refine Does.enter tabOK (g := 13) (fn := Try.f13) Try.call13 Try.func13 rfl 22 rfl rfl [.tmp 2] rfl ?_
    intro w0 F η0 h0
    conv => whnf
    repeat' ((first | with_reducible refine IF.tt ?_ | with_reducible refine IF.ff ?_ | (rw [hrows]; conv => whnf) | (refine NEED.mk (needApp 224 rfl rfl (by rw [List.length_map]; exact hln) (by simp) (by omega)) ?_; conv => whnf) | ((with_reducible refine NEED.mk ?_ ?_); (first | with_reducible rfl | omega | (simp (disch := omega) only [lnB, wrap64, wrap32] <;> omega) | (intro h; (try simp (disch := omega) only [hsB, hsC, lnB, wrap64, wrap32, simprocAttr] at h); (first | omega | (simp (disch := omega) only [lnB, wrap64, wrap32] <;> omega))) | (exact needApp 256 rfl rfl (by simp) (by simp) (by omega)) | (exact ⟨by omega, le_reach (by omega)⟩) | (exact ⟨by omega, by omega, le_reach (by omega)⟩) | (simp <;> omega))) | ((with_reducible apply GET.at); rfl) | ((with_reducible apply GETG.at); rfl) | ((with_reducible refine UNK.mk (fun h => ?_) ?_) <;> try (exfalso; omega)) | ((with_reducible refine IF.mk (fun h => ?_) (fun h => ?_)) <;> (try simp (disch := omega) only [hsB, hsC, lnB, wrap64, wrap32, simprocAttr] at h) <;> try (exfalso; omega))) <;> conv => whnf)
    · have hs : rsort qdCmp l = l := by unfold rsort; rw [if_pos (by omega)]
      rw [hs]
      rw [Nat.zero_add]
      exact FIN.rows h0 2 16 n rfl rfl rfl (plainQds _) ⟨by rw [hln], rfl, rfl⟩
    · have hs : rsort qdCmp l = rmerge qdCmp [] (rsort qdCmp (l.take (n / 2))) (rsort qdCmp (l.drop (n / 2))) := by
        conv => lhs; unfold rsort
        rw [if_neg (by omega), hln]
      have e1 : l.take (n / 2) = (A.drop i).take (n / 2) := by rw [hl, List.take_take, Nat.min_eq_left (by omega)]
      have e2 : l.drop (n / 2) = (A.drop (i + n / 2)).take (n - n / 2) := by rw [hl, List.drop_take, List.drop_drop]
      have hn2 : 2 ≤ n := by omega
      obtain ⟨k', rfl⟩ : ∃ k', k = k' + 1 := ⟨k - 1, by omega⟩
      have r1 := rsortQ_does A hA k' (n / 2) i (by omega) (by omega)
      have r2 := rsortQ_does A hA k' (n - n / 2) (i + n / 2) (by omega) (by omega)
      rw [← e1] at r1
      rw [← e2] at r2
      have l1 := rsort_len triQ (l.take (n / 2))
      have l2 := rsort_len triQ (l.drop (n / 2))
      generalize rsort qdCmp (l.take (n / 2)) = X at r1 hs l1
      generalize rsort qdCmp (l.drop (n / 2)) = Y at r2 hs l2
      have r3 := rmergedQ_does X Y 0 X.length 0 Y.length none none (by omega) (by omega) (by simp at l1 l2; omega)
      rw [List.drop_zero, List.take_length, List.drop_zero, List.take_length, ← hs] at r3
      have hw : IntKind.i64.wrap (Int.tdiv (n : Int) 2) = ((n / 2 : Nat) : Int) := by rw [Int.tdiv_eq_ediv_of_nonneg (by omega), wrap64 (by omega) (by omega)]; omega
      repeat' ((first | with_reducible refine IF.tt ?_ | with_reducible refine IF.ff ?_ | refine DRAWN.of (id := 3) tabOK mixed plSets32 (by kernel_rfl) ?_ | with_reducible refine ADD.mk (fun _ _ => ?_) | with_reducible refine NEED.mk (Det.of rfl) ?_ | refine NEED.mk (det_pos (by omega)) ?_ | with_reducible refine FORK.mk ?_ ?_ | (rw [hw]; conv => whnf) | (rw [Int.toNat_natCast]; conv => whnf) | ((with_reducible refine NEED.mk ?_ ?_); (first | with_reducible rfl | omega | (simp (disch := omega) only [lnB, wrap64, wrap32] <;> omega) | (intro h; (try simp (disch := omega) only [hsB, hsC, lnB, wrap64, wrap32, simprocAttr] at h); (first | omega | (simp (disch := omega) only [lnB, wrap64, wrap32] <;> omega))) | (exact needApp 256 rfl rfl (by simp) (by simp) (by omega)) | (exact ⟨by omega, le_reach (by omega)⟩) | (exact ⟨by omega, by omega, le_reach (by omega)⟩) | (simp <;> omega))) | ((with_reducible apply GET.at); rfl) | ((with_reducible apply GETG.at); rfl) | ((with_reducible refine UNK.mk (fun h => ?_) ?_) <;> try (exfalso; omega)) | ((with_reducible refine IF.mk (fun h => ?_) (fun h => ?_)) <;> (try simp (disch := omega) only [hsB, hsC, lnB, wrap64, wrap32, simprocAttr] at h) <;> try (exfalso; omega))) <;> conv => whnf)
      refine CALL.at [0] (r1) rfl rfl rfl rfl (by first | rfl | (simp only [belowO, belowH, plainLL_below _ (plainQds _), Bool.and_self, Bool.and_true] <;> rfl)) (by first | rfl | (simp only [belowO, belowH, plainLL_below _ (plainQds _), Bool.and_self, Bool.and_true] <;> rfl)) (by repeat' (first | exact trivial | exact (renH_plain _ (h := .rows _ _) (plainQds _)).symm | exact rfl | exact (renH_plain _ (h := .rows _ _) (plainQds _)).trans (renH_plain _ (h := .rows _ _) (plainQds _)).symm | ((conv => whnf); refine ⟨?_, ?_⟩))) (by repeat' (first | exact trivial | exact (renH_plain _ (h := .rows _ _) (plainQds _)).symm | exact rfl | exact (renH_plain _ (h := .rows _ _) (plainQds _)).trans (renH_plain _ (h := .rows _ _) (plainQds _)).symm | ((conv => whnf); refine ⟨?_, ?_⟩))) rfl rfl ?_
      rintro r O nx ⟨rfl, rfl, rfl⟩
      conv => whnf
      repeat' ((first | with_reducible refine IF.tt ?_ | with_reducible refine IF.ff ?_ | refine DRAWN.of (id := 3) tabOK mixed plSets32 (by kernel_rfl) ?_ | with_reducible refine ADD.mk (fun _ _ => ?_) | with_reducible refine NEED.mk (Det.of rfl) ?_ | refine NEED.mk (det_pos (by omega)) ?_ | with_reducible refine FORK.mk ?_ ?_ | (rw [hw]; conv => whnf) | (rw [Int.toNat_natCast]; conv => whnf) | ((with_reducible refine NEED.mk ?_ ?_); (first | with_reducible rfl | omega | (simp (disch := omega) only [lnB, wrap64, wrap32] <;> omega) | (intro h; (try simp (disch := omega) only [hsB, hsC, lnB, wrap64, wrap32, simprocAttr] at h); (first | omega | (simp (disch := omega) only [lnB, wrap64, wrap32] <;> omega))) | (exact needApp 256 rfl rfl (by simp) (by simp) (by omega)) | (exact ⟨by omega, le_reach (by omega)⟩) | (exact ⟨by omega, by omega, le_reach (by omega)⟩) | (simp <;> omega))) | ((with_reducible apply GET.at); rfl) | ((with_reducible apply GETG.at); rfl) | ((with_reducible refine UNK.mk (fun h => ?_) ?_) <;> try (exfalso; omega)) | ((with_reducible refine IF.mk (fun h => ?_) (fun h => ?_)) <;> (try simp (disch := omega) only [hsB, hsC, lnB, wrap64, wrap32, simprocAttr] at h) <;> try (exfalso; omega))) <;> conv => whnf)
      refine CALL.at [0] (r2) rfl rfl rfl rfl (by first | rfl | (simp only [belowO, belowH, plainLL_below _ (plainQds _), Bool.and_self, Bool.and_true] <;> rfl)) (by first | rfl | (simp only [belowO, belowH, plainLL_below _ (plainQds _), Bool.and_self, Bool.and_true] <;> rfl)) (by repeat' (first | exact trivial | exact (renH_plain _ (h := .rows _ _) (plainQds _)).symm | exact rfl | exact (renH_plain _ (h := .rows _ _) (plainQds _)).trans (renH_plain _ (h := .rows _ _) (plainQds _)).symm | ((conv => whnf); refine ⟨?_, ?_⟩))) (by repeat' (first | exact trivial | exact (renH_plain _ (h := .rows _ _) (plainQds _)).symm | exact rfl | exact (renH_plain _ (h := .rows _ _) (plainQds _)).trans (renH_plain _ (h := .rows _ _) (plainQds _)).symm | ((conv => whnf); refine ⟨?_, ?_⟩))) rfl rfl ?_
      rintro r O nx ⟨rfl, rfl, rfl⟩
      conv => whnf
      repeat' ((first | with_reducible refine IF.tt ?_ | with_reducible refine IF.ff ?_ | refine DRAWN.of (id := 3) tabOK mixed plSets32 (by kernel_rfl) ?_ | with_reducible refine ADD.mk (fun _ _ => ?_) | with_reducible refine NEED.mk (Det.of rfl) ?_ | refine NEED.mk (det_pos (by omega)) ?_ | with_reducible refine FORK.mk ?_ ?_ | ((with_reducible refine NEED.mk ?_ ?_); (first | with_reducible rfl | omega | (simp (disch := omega) only [lnB, wrap64, wrap32] <;> omega) | (intro h; (try simp (disch := omega) only [hsB, hsC, lnB, wrap64, wrap32, simprocAttr] at h); (first | omega | (simp (disch := omega) only [lnB, wrap64, wrap32] <;> omega))) | (exact needApp 256 rfl rfl (by simp) (by simp) (by omega)) | (exact ⟨by omega, le_reach (by omega)⟩) | (exact ⟨by omega, by omega, le_reach (by omega)⟩) | (simp <;> omega))) | ((with_reducible apply GET.at); rfl) | ((with_reducible apply GETG.at); rfl) | ((with_reducible refine UNK.mk (fun h => ?_) ?_) <;> try (exfalso; omega)) | ((with_reducible refine IF.mk (fun h => ?_) (fun h => ?_)) <;> (try simp (disch := omega) only [hsB, hsC, lnB, wrap64, wrap32, simprocAttr] at h) <;> try (exfalso; omega))) <;> conv => whnf)
      refine CALL.at [1, 2] (r3) rfl rfl rfl rfl (by first | rfl | (simp only [belowO, belowH, plainLL_below _ (plainQds _), Bool.and_self, Bool.and_true] <;> rfl)) (by first | rfl | (simp only [belowO, belowH, plainLL_below _ (plainQds _), Bool.and_self, Bool.and_true] <;> rfl)) (by repeat' (first | exact trivial | exact (renH_plain _ (h := .rows _ _) (plainQds _)).symm | exact rfl | exact (renH_plain _ (h := .rows _ _) (plainQds _)).trans (renH_plain _ (h := .rows _ _) (plainQds _)).symm | ((conv => whnf); refine ⟨?_, ?_⟩))) (by repeat' (first | exact trivial | exact (renH_plain _ (h := .rows _ _) (plainQds _)).symm | exact rfl | exact (renH_plain _ (h := .rows _ _) (plainQds _)).trans (renH_plain _ (h := .rows _ _) (plainQds _)).symm | ((conv => whnf); refine ⟨?_, ?_⟩))) rfl rfl ?_
      rintro r O nx ⟨rfl, rfl, rfl⟩
      conv => whnf
      repeat' ((first | with_reducible refine IF.tt ?_ | with_reducible refine IF.ff ?_ | refine DRAWN.of (id := 3) tabOK mixed plSets32 (by kernel_rfl) ?_ | with_reducible refine ADD.mk (fun _ _ => ?_) | with_reducible refine NEED.mk (Det.of rfl) ?_ | refine NEED.mk (det_pos (by omega)) ?_ | with_reducible refine FORK.mk ?_ ?_ | ((with_reducible refine NEED.mk ?_ ?_); (first | with_reducible rfl | omega | (simp (disch := omega) only [lnB, wrap64, wrap32] <;> omega) | (intro h; (try simp (disch := omega) only [hsB, hsC, lnB, wrap64, wrap32, simprocAttr] at h); (first | omega | (simp (disch := omega) only [lnB, wrap64, wrap32] <;> omega))) | (exact needApp 256 rfl rfl (by simp) (by simp) (by omega)) | (exact ⟨by omega, le_reach (by omega)⟩) | (exact ⟨by omega, by omega, le_reach (by omega)⟩) | (simp <;> omega))) | ((with_reducible apply GET.at); rfl) | ((with_reducible apply GETG.at); rfl) | ((with_reducible refine UNK.mk (fun h => ?_) ?_) <;> try (exfalso; omega)) | ((with_reducible refine IF.mk (fun h => ?_) (fun h => ?_)) <;> (try simp (disch := omega) only [hsB, hsC, lnB, wrap64, wrap32, simprocAttr] at h) <;> try (exfalso; omega))) <;> conv => whnf)
      refine FIN.at h0 [3] (.sl (.loc 1) 0 16 (rsort qdCmp l).length none) [(1, .rows 16 ((rsort qdCmp l).map qdRow))] rfl rfl rfl (by first | rfl | (simp only [belowO, belowH, plainLL_below _ (plainQds _), Bool.and_self, Bool.and_true] <;> rfl)) (by repeat' (first | exact trivial | exact (renH_plain _ (h := .rows _ _) (plainQds _)).symm | (with_reducible rfl) | (exact (renH_plain _ (h := .rows _ _) (plainQds _)).trans (renH_plain _ (h := .rows _ _) (plainQds _)).symm) | (exact rows_eq (plainQds _) (by simp [qdRow, ofVal, List.take_of_length_le])) | exact rfl | ((conv => whnf); refine ⟨?_, ?_⟩))) rfl ?_
      exact ⟨rfl, rfl, rfl⟩
end Go.Proofs.Ytillkgjdbnjnoaa
/- The program's merges, Union, Meet, Minus; walked. Conditions: none. -/
set_option linter.unusedVariables false
set_option linter.unusedSimpArgs false
set_option maxRecDepth 20000
namespace Go.Proofs.Ytillkgjdbnjnoaa
open Go.Sx Go.Our
def plSets40 : Plan := (planOf [(0, 1), (1, 1), (2, 1), (4, 1), (5, 1), (3, 2), (6, 2), (7, 3), (8, 1)])
theorem pm_nil {α : Type} {c : α → α → Int} {f b s : Bool} : pmerge c f b s [] [] = [] := by unfold pmerge; rfl
theorem pm_a {α : Type} {c : α → α → Int} {f b s : Bool} (x : α) (xs : List α) : pmerge c f b s (x :: xs) [] = (if f then [x] else []) ++ pmerge c f b s xs [] := by conv => lhs; unfold pmerge
theorem pm_b {α : Type} {c : α → α → Int} {f b s : Bool} (y : α) (ys : List α) : pmerge c f b s [] (y :: ys) = (if s then [y] else []) ++ pmerge c f b s [] ys := by conv => lhs; unfold pmerge
theorem pm_lt {α : Type} {c : α → α → Int} {f b s : Bool} {x y : α} {xs ys : List α} (h : c x y < 0) : pmerge c f b s (x :: xs) (y :: ys) = (if f then [x] else []) ++ pmerge c f b s xs (y :: ys) := by
  conv => lhs; unfold pmerge
  rw [if_pos h]
theorem pm_eq {α : Type} {c : α → α → Int} {f b s : Bool} {x y : α} {xs ys : List α} (h : c x y = 0) : pmerge c f b s (x :: xs) (y :: ys) = (if b then [x] else []) ++ pmerge c f b s xs ys := by
  conv => lhs; unfold pmerge
  rw [if_neg (by omega), if_pos h]
theorem pm_gt {α : Type} {c : α → α → Int} {f b s : Bool} {x y : α} {xs ys : List α} (h : 0 < c x y) : pmerge c f b s (x :: xs) (y :: ys) = (if s then [y] else []) ++ pmerge c f b s (x :: xs) ys := by
  conv => lhs; unfold pmerge
  rw [if_neg (by omega), if_neg (by omega)]
set_option maxHeartbeats 4000000 in
theorem pmergedU_does (A B : List Qd) (i n j m : Nat) (lA lB : Option Nat) (hA : i + n ≤ A.length) (hB : j + m ≤ B.length) (hl : (A.length + B.length) * 224 ≤ 281474976710656) (hnm : (n + m) * 224 ≤ 140737488351232) : Does Try.prog tab 70 2 [.sl (.loc 0) i 16 n lA, .sl (.loc 1) j 16 m lB, .fn (.func 32) [] [], .bool true, .bool true, .bool true] [] [(0, .rows 16 (A.map qdRow)), (1, .rows 16 (B.map qdRow))]
    (NewList qdRow 16 2 (pmerge qdCmp true true true ((A.drop i).take n) ((B.drop j).take m))) := by
  refine Does.enter tabOK (g := 70) (fn := Try.f70) Try.call70 Try.func70 rfl 75 rfl rfl [.tmp 12] rfl ?_
  intro w0 F η0 h0
  conv => whnf
  refine LOOP.nil 13 16 rfl ?_
  refine LOOP.go tabOK [2, 3, 4, 5] (X := List Qd × Nat × Nat) (fun x => x.2.1 ≤ n ∧ x.2.2 ≤ m ∧ x.1.length ≤ x.2.1 + x.2.2 ∧ pmerge qdCmp true true true ((A.drop i).take n) ((B.drop j).take m) = x.1 ++ pmerge qdCmp true true true ((A.drop (i + x.2.1)).take (n - x.2.1)) ((B.drop (j + x.2.2)).take (m - x.2.2)))
    (fun x => [(0, .sl (.loc 0) (i + x.2.1) 16 (n - x.2.1) lA), (1, .sl (.loc 1) (j + x.2.2) 16 (m - x.2.2) lB), (13, .sl (.loc 2) 0 16 x.1.length none)]) (fun x => [(2, .rows 16 (x.1.map qdRow))]) 3 (fun x => (n - x.2.1) + (m - x.2.2)) ([], 0, 0) ⟨by simp, by simp, by simp, rfl⟩ ?_
  conv => whnf
  refine ⟨by (refine GOES.cutting h0 rfl rfl rfl (by first | rfl | simp [belowO, belowH, plainLL_below, plainLL_map, plainL, plain]) ?_ ?_ <;> (repeat' (first | (with_reducible rfl) | (exact congrArg (fun n => SV.sl _ _ _ n _) (by simp)) | (exact congrArg (Hp.rows _) (by simp)) | (exact congrArg (SV.int _) (by first | omega | (simp (disch := omega) only [lnB, wrap64, wrap32] <;> omega) | (simp; done) | (simp <;> omega))) | ((conv => whnf); refine ⟨?_, ?_⟩) | exact trivial | (simp; done) | rfl))), ?_⟩
  rintro ⟨out, p, q⟩ ⟨hp, hq, ho, hr⟩
  dsimp only at hp hq ho hr ⊢
  have hsum : IntKind.i64.wrap (((n - p : Nat) : Int) + ((m - q : Nat) : Int)) = ((n - p + (m - q) : Nat) : Int) := by rw [wrap64 (by omega) (by omega)]; omega
  rcases Nat.lt_or_ge p n with hpn | hpn <;> rcases Nat.lt_or_ge q m with hqm | hqm
  · have ha := cut_cons (A := A) (i := i) hpn hA
    have hb := cut_cons (A := B) (i := j) hqm hB
    rw [ha, hb] at hr
    conv => whnf
    repeat' ((first | with_reducible refine IF.tt ?_ | with_reducible refine IF.ff ?_ | refine DRAWN.of (id := 7) tabOK mixed plSets40 (by kernel_rfl) ?_ | with_reducible refine ADD.mk (fun _ _ => ?_) | with_reducible refine NEED.mk (Det.of rfl) ?_ | refine NEED.mk (det_pos (by omega)) ?_ | with_reducible refine FORK.mk ?_ ?_ | refine CALL.value (qdCmp_does _ _) rfl rfl ?_ | (rw [hsum]; conv => whnf) | (refine NEED.mk (needApp 224 rfl rfl rfl (by simp) (by omega)) ?_; conv => whnf) | (refine GET.at (row := qdRow (A[i + p]'(by omega))) (row_at0 (by omega) (by omega)) ?_; conv => whnf) | (refine GET.at (row := qdRow (B[j + q]'(by omega))) (row_at0 (by omega) (by omega)) ?_; conv => whnf) | ((with_reducible refine NEED.mk ?_ ?_); (first | with_reducible rfl | omega | (simp (disch := omega) only [lnB, wrap64, wrap32] <;> omega) | (intro h; (try simp (disch := omega) only [hsB, hsC, lnB, wrap64, wrap32, simprocAttr] at h); (first | omega | (simp (disch := omega) only [lnB, wrap64, wrap32] <;> omega))) | (exact needApp 256 rfl rfl (by simp) (by simp) (by omega)) | (exact ⟨by omega, le_reach (by omega)⟩) | (exact ⟨by omega, by omega, le_reach (by omega)⟩) | (simp <;> omega))) | ((with_reducible apply GET.at); rfl) | ((with_reducible apply GETG.at); rfl) | ((with_reducible refine UNK.mk (fun h => ?_) ?_) <;> try (exfalso; omega)) | ((with_reducible refine IF.mk (fun h => ?_) (fun h => ?_)) <;> (try simp (disch := omega) only [hsB, hsC, lnB, wrap64, wrap32, simprocAttr] at h) <;> try (exfalso; omega))) <;> conv => whnf)
    all_goals first
      | (refine ⟨(out ++ [A[i + p]'(by omega)], p + 1, q), ⟨by dsimp only; omega, by dsimp only; omega, by simp only [List.length_append, List.length_cons, List.length_nil]; omega, by dsimp only; rw [hr, pm_lt (by omega)]; (first | done | rfl | (simp only [List.append_assoc, if_pos, if_neg]; (first | done | rfl | rw [hb] | rw [ha]))  | skip)⟩, by dsimp only; omega, ?_⟩; dsimp only; (conv => whnf); (refine GOES.keeping h0 [4] rfl rfl rfl (by first | rfl | (simp only [belowO, belowH, plainLL_below _ (plainQds _), Bool.and_self, Bool.and_true] <;> rfl)) ?_ ?_ <;> (repeat' (first | (with_reducible rfl) | (exact rows_eq (plainQds _) (renLL_plain _ (plainQds _))) | (exact rows_eq (plainQds _) (by (simp [List.take_of_length_le, ofVal, qdRow]))) | (exact sl_eq rfl (by first | (simp; done) | omega | (simp; omega))) | (exact congrArg (SV.int _) (by first | omega | (simp (disch := omega) only [lnB, wrap64, wrap32] <;> omega) | (simp; done) | (simp <;> omega))) | ((conv => whnf); refine ⟨?_, ?_⟩) | exact trivial | (simp only [ren, renB]; done) | rfl))); done)
      | (refine ⟨(out, p + 1, q), ⟨by dsimp only; omega, by dsimp only; omega, by dsimp only; omega, by dsimp only; rw [hr, pm_lt (by omega)]; (first | done | rfl | rw [hb]; rfl | rw [ha]; rfl | skip)⟩, by dsimp only; omega, ?_⟩; dsimp only; (conv => whnf); (refine GOES.cutting h0 rfl rfl rfl (by first | rfl | (simp only [belowO, belowH, plainLL_below _ (plainQds _), Bool.and_self, Bool.and_true] <;> rfl)) ?_ ?_ <;> (repeat' (first | (with_reducible rfl) | (exact sl_eq rfl (by first | (simp; done) | omega | (simp; omega))) | (exact congrArg (SV.int _) (by first | omega | (simp (disch := omega) only [lnB, wrap64, wrap32] <;> omega) | (simp; done) | (simp <;> omega))) | (exact congrArg (Hp.rows _) (by rfl)) | ((conv => whnf); refine ⟨?_, ?_⟩) | exact trivial | rfl))); done)
      | (refine ⟨(out ++ [A[i + p]'(by omega)], p + 1, q + 1), ⟨by dsimp only; omega, by dsimp only; omega, by simp only [List.length_append, List.length_cons, List.length_nil]; omega, by dsimp only; rw [hr, pm_eq (by omega)]; (first | done | rfl | (simp only [List.append_assoc, if_pos, if_neg]; (first | done | rfl | rw [hb] | rw [ha]))  | skip)⟩, by dsimp only; omega, ?_⟩; dsimp only; (conv => whnf); (refine GOES.keeping h0 [4] rfl rfl rfl (by first | rfl | (simp only [belowO, belowH, plainLL_below _ (plainQds _), Bool.and_self, Bool.and_true] <;> rfl)) ?_ ?_ <;> (repeat' (first | (with_reducible rfl) | (exact rows_eq (plainQds _) (renLL_plain _ (plainQds _))) | (exact rows_eq (plainQds _) (by (simp [List.take_of_length_le, ofVal, qdRow]))) | (exact sl_eq rfl (by first | (simp; done) | omega | (simp; omega))) | (exact congrArg (SV.int _) (by first | omega | (simp (disch := omega) only [lnB, wrap64, wrap32] <;> omega) | (simp; done) | (simp <;> omega))) | ((conv => whnf); refine ⟨?_, ?_⟩) | exact trivial | (simp only [ren, renB]; done) | rfl))); done)
      | (refine ⟨(out, p + 1, q + 1), ⟨by dsimp only; omega, by dsimp only; omega, by dsimp only; omega, by dsimp only; rw [hr, pm_eq (by omega)]; (first | done | rfl | rw [hb]; rfl | rw [ha]; rfl | skip)⟩, by dsimp only; omega, ?_⟩; dsimp only; (conv => whnf); (refine GOES.cutting h0 rfl rfl rfl (by first | rfl | (simp only [belowO, belowH, plainLL_below _ (plainQds _), Bool.and_self, Bool.and_true] <;> rfl)) ?_ ?_ <;> (repeat' (first | (with_reducible rfl) | (exact sl_eq rfl (by first | (simp; done) | omega | (simp; omega))) | (exact congrArg (SV.int _) (by first | omega | (simp (disch := omega) only [lnB, wrap64, wrap32] <;> omega) | (simp; done) | (simp <;> omega))) | (exact congrArg (Hp.rows _) (by rfl)) | ((conv => whnf); refine ⟨?_, ?_⟩) | exact trivial | rfl))); done)
      | (refine ⟨(out ++ [B[j + q]'(by omega)], p, q + 1), ⟨by dsimp only; omega, by dsimp only; omega, by simp only [List.length_append, List.length_cons, List.length_nil]; omega, by dsimp only; rw [hr, pm_gt (by omega)]; (first | done | rfl | (simp only [List.append_assoc, if_pos, if_neg]; (first | done | rfl | rw [hb] | rw [ha]))  | skip)⟩, by dsimp only; omega, ?_⟩; dsimp only; (conv => whnf); (refine GOES.keeping h0 [4] rfl rfl rfl (by first | rfl | (simp only [belowO, belowH, plainLL_below _ (plainQds _), Bool.and_self, Bool.and_true] <;> rfl)) ?_ ?_ <;> (repeat' (first | (with_reducible rfl) | (exact rows_eq (plainQds _) (renLL_plain _ (plainQds _))) | (exact rows_eq (plainQds _) (by (simp [List.take_of_length_le, ofVal, qdRow]))) | (exact sl_eq rfl (by first | (simp; done) | omega | (simp; omega))) | (exact congrArg (SV.int _) (by first | omega | (simp (disch := omega) only [lnB, wrap64, wrap32] <;> omega) | (simp; done) | (simp <;> omega))) | ((conv => whnf); refine ⟨?_, ?_⟩) | exact trivial | (simp only [ren, renB]; done) | rfl))); done)
      | (refine ⟨(out, p, q + 1), ⟨by dsimp only; omega, by dsimp only; omega, by dsimp only; omega, by dsimp only; rw [hr, pm_gt (by omega)]; (first | done | rfl | rw [hb]; rfl | rw [ha]; rfl | skip)⟩, by dsimp only; omega, ?_⟩; dsimp only; (conv => whnf); (refine GOES.cutting h0 rfl rfl rfl (by first | rfl | (simp only [belowO, belowH, plainLL_below _ (plainQds _), Bool.and_self, Bool.and_true] <;> rfl)) ?_ ?_ <;> (repeat' (first | (with_reducible rfl) | (exact sl_eq rfl (by first | (simp; done) | omega | (simp; omega))) | (exact congrArg (SV.int _) (by first | omega | (simp (disch := omega) only [lnB, wrap64, wrap32] <;> omega) | (simp; done) | (simp <;> omega))) | (exact congrArg (Hp.rows _) (by rfl)) | ((conv => whnf); refine ⟨?_, ?_⟩) | exact trivial | rfl))); done)
      | trace_state
  · have ha := cut_cons (A := A) (i := i) hpn hA
    have hb : (B.drop (j + q)).take (m - q) = [] := by rw [show m - q = 0 by omega]; rfl
    rw [ha, hb] at hr
    conv => whnf
    repeat' ((first | with_reducible refine IF.tt ?_ | with_reducible refine IF.ff ?_ | refine DRAWN.of (id := 7) tabOK mixed plSets40 (by kernel_rfl) ?_ | with_reducible refine ADD.mk (fun _ _ => ?_) | with_reducible refine NEED.mk (Det.of rfl) ?_ | refine NEED.mk (det_pos (by omega)) ?_ | with_reducible refine FORK.mk ?_ ?_ | refine CALL.value (qdCmp_does _ _) rfl rfl ?_ | (rw [hsum]; conv => whnf) | (refine NEED.mk (needApp 224 rfl rfl rfl (by simp) (by omega)) ?_; conv => whnf) | (refine GET.at (row := qdRow (A[i + p]'(by omega))) (row_at0 (by omega) (by omega)) ?_; conv => whnf) | (refine GET.at (row := qdRow (B[j + q]'(by omega))) (row_at0 (by omega) (by omega)) ?_; conv => whnf) | ((with_reducible refine NEED.mk ?_ ?_); (first | with_reducible rfl | omega | (simp (disch := omega) only [lnB, wrap64, wrap32] <;> omega) | (intro h; (try simp (disch := omega) only [hsB, hsC, lnB, wrap64, wrap32, simprocAttr] at h); (first | omega | (simp (disch := omega) only [lnB, wrap64, wrap32] <;> omega))) | (exact needApp 256 rfl rfl (by simp) (by simp) (by omega)) | (exact ⟨by omega, le_reach (by omega)⟩) | (exact ⟨by omega, by omega, le_reach (by omega)⟩) | (simp <;> omega))) | ((with_reducible apply GET.at); rfl) | ((with_reducible apply GETG.at); rfl) | ((with_reducible refine UNK.mk (fun h => ?_) ?_) <;> try (exfalso; omega)) | ((with_reducible refine IF.mk (fun h => ?_) (fun h => ?_)) <;> (try simp (disch := omega) only [hsB, hsC, lnB, wrap64, wrap32, simprocAttr] at h) <;> try (exfalso; omega))) <;> conv => whnf)
    all_goals first
      | (refine ⟨(out ++ [A[i + p]'(by omega)], p + 1, q), ⟨by dsimp only; omega, by dsimp only; omega, by simp only [List.length_append, List.length_cons, List.length_nil]; omega, by dsimp only; rw [hr, pm_a]; (first | done | rfl | (simp only [List.append_assoc, if_pos, if_neg]; (first | done | rfl | rw [hb] | rw [ha]))  | skip)⟩, by dsimp only; omega, ?_⟩; dsimp only; (conv => whnf); (refine GOES.keeping h0 [4] rfl rfl rfl (by first | rfl | (simp only [belowO, belowH, plainLL_below _ (plainQds _), Bool.and_self, Bool.and_true] <;> rfl)) ?_ ?_ <;> (repeat' (first | (with_reducible rfl) | (exact rows_eq (plainQds _) (renLL_plain _ (plainQds _))) | (exact rows_eq (plainQds _) (by (simp [List.take_of_length_le, ofVal, qdRow]))) | (exact sl_eq rfl (by first | (simp; done) | omega | (simp; omega))) | (exact congrArg (SV.int _) (by first | omega | (simp (disch := omega) only [lnB, wrap64, wrap32] <;> omega) | (simp; done) | (simp <;> omega))) | ((conv => whnf); refine ⟨?_, ?_⟩) | exact trivial | (simp only [ren, renB]; done) | rfl))); done)
      | (refine ⟨(out, p + 1, q), ⟨by dsimp only; omega, by dsimp only; omega, by dsimp only; omega, by dsimp only; rw [hr, pm_a]; (first | done | rfl | rw [hb]; rfl | rw [ha]; rfl | skip)⟩, by dsimp only; omega, ?_⟩; dsimp only; (conv => whnf); (refine GOES.cutting h0 rfl rfl rfl (by first | rfl | (simp only [belowO, belowH, plainLL_below _ (plainQds _), Bool.and_self, Bool.and_true] <;> rfl)) ?_ ?_ <;> (repeat' (first | (with_reducible rfl) | (exact sl_eq rfl (by first | (simp; done) | omega | (simp; omega))) | (exact congrArg (SV.int _) (by first | omega | (simp (disch := omega) only [lnB, wrap64, wrap32] <;> omega) | (simp; done) | (simp <;> omega))) | (exact congrArg (Hp.rows _) (by rfl)) | ((conv => whnf); refine ⟨?_, ?_⟩) | exact trivial | rfl))); done)
      | trace_state
  · have hb := cut_cons (A := B) (i := j) hqm hB
    have ha : (A.drop (i + p)).take (n - p) = [] := by rw [show n - p = 0 by omega]; rfl
    rw [ha, hb] at hr
    conv => whnf
    repeat' ((first | with_reducible refine IF.tt ?_ | with_reducible refine IF.ff ?_ | refine DRAWN.of (id := 7) tabOK mixed plSets40 (by kernel_rfl) ?_ | with_reducible refine ADD.mk (fun _ _ => ?_) | with_reducible refine NEED.mk (Det.of rfl) ?_ | refine NEED.mk (det_pos (by omega)) ?_ | with_reducible refine FORK.mk ?_ ?_ | refine CALL.value (qdCmp_does _ _) rfl rfl ?_ | (rw [hsum]; conv => whnf) | (refine NEED.mk (needApp 224 rfl rfl rfl (by simp) (by omega)) ?_; conv => whnf) | (refine GET.at (row := qdRow (A[i + p]'(by omega))) (row_at0 (by omega) (by omega)) ?_; conv => whnf) | (refine GET.at (row := qdRow (B[j + q]'(by omega))) (row_at0 (by omega) (by omega)) ?_; conv => whnf) | ((with_reducible refine NEED.mk ?_ ?_); (first | with_reducible rfl | omega | (simp (disch := omega) only [lnB, wrap64, wrap32] <;> omega) | (intro h; (try simp (disch := omega) only [hsB, hsC, lnB, wrap64, wrap32, simprocAttr] at h); (first | omega | (simp (disch := omega) only [lnB, wrap64, wrap32] <;> omega))) | (exact needApp 256 rfl rfl (by simp) (by simp) (by omega)) | (exact ⟨by omega, le_reach (by omega)⟩) | (exact ⟨by omega, by omega, le_reach (by omega)⟩) | (simp <;> omega))) | ((with_reducible apply GET.at); rfl) | ((with_reducible apply GETG.at); rfl) | ((with_reducible refine UNK.mk (fun h => ?_) ?_) <;> try (exfalso; omega)) | ((with_reducible refine IF.mk (fun h => ?_) (fun h => ?_)) <;> (try simp (disch := omega) only [hsB, hsC, lnB, wrap64, wrap32, simprocAttr] at h) <;> try (exfalso; omega))) <;> conv => whnf)
    all_goals first
      | (refine ⟨(out ++ [B[j + q]'(by omega)], p, q + 1), ⟨by dsimp only; omega, by dsimp only; omega, by simp only [List.length_append, List.length_cons, List.length_nil]; omega, by dsimp only; rw [hr, pm_b]; (first | done | rfl | (simp only [List.append_assoc, if_pos, if_neg]; (first | done | rfl | rw [hb] | rw [ha]))  | skip)⟩, by dsimp only; omega, ?_⟩; dsimp only; (conv => whnf); (refine GOES.keeping h0 [4] rfl rfl rfl (by first | rfl | (simp only [belowO, belowH, plainLL_below _ (plainQds _), Bool.and_self, Bool.and_true] <;> rfl)) ?_ ?_ <;> (repeat' (first | (with_reducible rfl) | (exact rows_eq (plainQds _) (renLL_plain _ (plainQds _))) | (exact rows_eq (plainQds _) (by (simp [List.take_of_length_le, ofVal, qdRow]))) | (exact sl_eq rfl (by first | (simp; done) | omega | (simp; omega))) | (exact congrArg (SV.int _) (by first | omega | (simp (disch := omega) only [lnB, wrap64, wrap32] <;> omega) | (simp; done) | (simp <;> omega))) | ((conv => whnf); refine ⟨?_, ?_⟩) | exact trivial | (simp only [ren, renB]; done) | rfl))); done)
      | (refine ⟨(out, p, q + 1), ⟨by dsimp only; omega, by dsimp only; omega, by dsimp only; omega, by dsimp only; rw [hr, pm_b]; (first | done | rfl | rw [hb]; rfl | rw [ha]; rfl | skip)⟩, by dsimp only; omega, ?_⟩; dsimp only; (conv => whnf); (refine GOES.cutting h0 rfl rfl rfl (by first | rfl | (simp only [belowO, belowH, plainLL_below _ (plainQds _), Bool.and_self, Bool.and_true] <;> rfl)) ?_ ?_ <;> (repeat' (first | (with_reducible rfl) | (exact sl_eq rfl (by first | (simp; done) | omega | (simp; omega))) | (exact congrArg (SV.int _) (by first | omega | (simp (disch := omega) only [lnB, wrap64, wrap32] <;> omega) | (simp; done) | (simp <;> omega))) | (exact congrArg (Hp.rows _) (by rfl)) | ((conv => whnf); refine ⟨?_, ?_⟩) | exact trivial | rfl))); done)
      | trace_state
  · have ha : (A.drop (i + p)).take (n - p) = [] := by rw [show n - p = 0 by omega]; rfl
    have hb : (B.drop (j + q)).take (m - q) = [] := by rw [show m - q = 0 by omega]; rfl
    rw [ha, hb, pm_nil, List.append_nil] at hr
    conv => whnf
    repeat' ((first | with_reducible refine IF.tt ?_ | with_reducible refine IF.ff ?_ | (rw [hsum]; conv => whnf) | ((with_reducible refine NEED.mk ?_ ?_); (first | with_reducible rfl | omega | (simp (disch := omega) only [lnB, wrap64, wrap32] <;> omega) | (intro h; (try simp (disch := omega) only [hsB, hsC, lnB, wrap64, wrap32, simprocAttr] at h); (first | omega | (simp (disch := omega) only [lnB, wrap64, wrap32] <;> omega))) | (exact needApp 256 rfl rfl (by simp) (by simp) (by omega)) | (exact ⟨by omega, le_reach (by omega)⟩) | (exact ⟨by omega, by omega, le_reach (by omega)⟩) | (simp <;> omega))) | ((with_reducible apply GET.at); rfl) | ((with_reducible apply GETG.at); rfl) | ((with_reducible refine UNK.mk (fun h => ?_) ?_) <;> try (exfalso; omega)) | ((with_reducible refine IF.mk (fun h => ?_) (fun h => ?_)) <;> (try simp (disch := omega) only [hsB, hsC, lnB, wrap64, wrap32, simprocAttr] at h) <;> try (exfalso; omega))) <;> conv => whnf)
    rw [hr]
    exact FIN.rows h0 2 16 out.length rfl rfl rfl (plainQds _) ⟨rfl, rfl, rfl⟩
set_option maxHeartbeats 4000000 in
theorem pmergedM_does (A B : List Qd) (i n j m : Nat) (lA lB : Option Nat) (hA : i + n ≤ A.length) (hB : j + m ≤ B.length) (hl : (A.length + B.length) * 224 ≤ 281474976710656) (hnm : (n + m) * 224 ≤ 140737488351232) : Does Try.prog tab 70 2 [.sl (.loc 0) i 16 n lA, .sl (.loc 1) j 16 m lB, .fn (.func 32) [] [], .bool false, .bool true, .bool false] [] [(0, .rows 16 (A.map qdRow)), (1, .rows 16 (B.map qdRow))]
    (NewList qdRow 16 2 (pmerge qdCmp false true false ((A.drop i).take n) ((B.drop j).take m))) := by
  refine Does.enter tabOK (g := 70) (fn := Try.f70) Try.call70 Try.func70 rfl 75 rfl rfl [.tmp 12] rfl ?_
  intro w0 F η0 h0
  conv => whnf
  refine LOOP.nil 13 16 rfl ?_
  refine LOOP.go tabOK [2, 3, 4, 5] (X := List Qd × Nat × Nat) (fun x => x.2.1 ≤ n ∧ x.2.2 ≤ m ∧ x.1.length ≤ x.2.1 + x.2.2 ∧ pmerge qdCmp false true false ((A.drop i).take n) ((B.drop j).take m) = x.1 ++ pmerge qdCmp false true false ((A.drop (i + x.2.1)).take (n - x.2.1)) ((B.drop (j + x.2.2)).take (m - x.2.2)))
    (fun x => [(0, .sl (.loc 0) (i + x.2.1) 16 (n - x.2.1) lA), (1, .sl (.loc 1) (j + x.2.2) 16 (m - x.2.2) lB), (13, .sl (.loc 2) 0 16 x.1.length none)]) (fun x => [(2, .rows 16 (x.1.map qdRow))]) 3 (fun x => (n - x.2.1) + (m - x.2.2)) ([], 0, 0) ⟨by simp, by simp, by simp, rfl⟩ ?_
  conv => whnf
  refine ⟨by (refine GOES.cutting h0 rfl rfl rfl (by first | rfl | simp [belowO, belowH, plainLL_below, plainLL_map, plainL, plain]) ?_ ?_ <;> (repeat' (first | (with_reducible rfl) | (exact congrArg (fun n => SV.sl _ _ _ n _) (by simp)) | (exact congrArg (Hp.rows _) (by simp)) | (exact congrArg (SV.int _) (by first | omega | (simp (disch := omega) only [lnB, wrap64, wrap32] <;> omega) | (simp; done) | (simp <;> omega))) | ((conv => whnf); refine ⟨?_, ?_⟩) | exact trivial | (simp; done) | rfl))), ?_⟩
  rintro ⟨out, p, q⟩ ⟨hp, hq, ho, hr⟩
  dsimp only at hp hq ho hr ⊢
  have hsum : IntKind.i64.wrap (((n - p : Nat) : Int) + ((m - q : Nat) : Int)) = ((n - p + (m - q) : Nat) : Int) := by rw [wrap64 (by omega) (by omega)]; omega
  rcases Nat.lt_or_ge p n with hpn | hpn <;> rcases Nat.lt_or_ge q m with hqm | hqm
  · have ha := cut_cons (A := A) (i := i) hpn hA
    have hb := cut_cons (A := B) (i := j) hqm hB
    rw [ha, hb] at hr
    conv => whnf
    repeat' ((first | with_reducible refine IF.tt ?_ | with_reducible refine IF.ff ?_ | refine DRAWN.of (id := 7) tabOK mixed plSets40 (by kernel_rfl) ?_ | with_reducible refine ADD.mk (fun _ _ => ?_) | with_reducible refine NEED.mk (Det.of rfl) ?_ | refine NEED.mk (det_pos (by omega)) ?_ | with_reducible refine FORK.mk ?_ ?_ | refine CALL.value (qdCmp_does _ _) rfl rfl ?_ | (rw [hsum]; conv => whnf) | (refine NEED.mk (needApp 224 rfl rfl rfl (by simp) (by omega)) ?_; conv => whnf) | (refine GET.at (row := qdRow (A[i + p]'(by omega))) (row_at0 (by omega) (by omega)) ?_; conv => whnf) | (refine GET.at (row := qdRow (B[j + q]'(by omega))) (row_at0 (by omega) (by omega)) ?_; conv => whnf) | ((with_reducible refine NEED.mk ?_ ?_); (first | with_reducible rfl | omega | (simp (disch := omega) only [lnB, wrap64, wrap32] <;> omega) | (intro h; (try simp (disch := omega) only [hsB, hsC, lnB, wrap64, wrap32, simprocAttr] at h); (first | omega | (simp (disch := omega) only [lnB, wrap64, wrap32] <;> omega))) | (exact needApp 256 rfl rfl (by simp) (by simp) (by omega)) | (exact ⟨by omega, le_reach (by omega)⟩) | (exact ⟨by omega, by omega, le_reach (by omega)⟩) | (simp <;> omega))) | ((with_reducible apply GET.at); rfl) | ((with_reducible apply GETG.at); rfl) | ((with_reducible refine UNK.mk (fun h => ?_) ?_) <;> try (exfalso; omega)) | ((with_reducible refine IF.mk (fun h => ?_) (fun h => ?_)) <;> (try simp (disch := omega) only [hsB, hsC, lnB, wrap64, wrap32, simprocAttr] at h) <;> try (exfalso; omega))) <;> conv => whnf)
    all_goals first
      | (refine ⟨(out ++ [A[i + p]'(by omega)], p + 1, q), ⟨by dsimp only; omega, by dsimp only; omega, by simp only [List.length_append, List.length_cons, List.length_nil]; omega, by dsimp only; rw [hr, pm_lt (by omega)]; (first | done | rfl | (simp only [List.append_assoc, if_pos, if_neg]; (first | done | rfl | rw [hb] | rw [ha]))  | skip)⟩, by dsimp only; omega, ?_⟩; dsimp only; (conv => whnf); (refine GOES.keeping h0 [4] rfl rfl rfl (by first | rfl | (simp only [belowO, belowH, plainLL_below _ (plainQds _), Bool.and_self, Bool.and_true] <;> rfl)) ?_ ?_ <;> (repeat' (first | (with_reducible rfl) | (exact rows_eq (plainQds _) (renLL_plain _ (plainQds _))) | (exact rows_eq (plainQds _) (by (simp [List.take_of_length_le, ofVal, qdRow]))) | (exact sl_eq rfl (by first | (simp; done) | omega | (simp; omega))) | (exact congrArg (SV.int _) (by first | omega | (simp (disch := omega) only [lnB, wrap64, wrap32] <;> omega) | (simp; done) | (simp <;> omega))) | ((conv => whnf); refine ⟨?_, ?_⟩) | exact trivial | (simp only [ren, renB]; done) | rfl))); done)
      | (refine ⟨(out, p + 1, q), ⟨by dsimp only; omega, by dsimp only; omega, by dsimp only; omega, by dsimp only; rw [hr, pm_lt (by omega)]; (first | done | rfl | rw [hb]; rfl | rw [ha]; rfl | skip)⟩, by dsimp only; omega, ?_⟩; dsimp only; (conv => whnf); (refine GOES.cutting h0 rfl rfl rfl (by first | rfl | (simp only [belowO, belowH, plainLL_below _ (plainQds _), Bool.and_self, Bool.and_true] <;> rfl)) ?_ ?_ <;> (repeat' (first | (with_reducible rfl) | (exact sl_eq rfl (by first | (simp; done) | omega | (simp; omega))) | (exact congrArg (SV.int _) (by first | omega | (simp (disch := omega) only [lnB, wrap64, wrap32] <;> omega) | (simp; done) | (simp <;> omega))) | (exact congrArg (Hp.rows _) (by rfl)) | ((conv => whnf); refine ⟨?_, ?_⟩) | exact trivial | rfl))); done)
      | (refine ⟨(out ++ [A[i + p]'(by omega)], p + 1, q + 1), ⟨by dsimp only; omega, by dsimp only; omega, by simp only [List.length_append, List.length_cons, List.length_nil]; omega, by dsimp only; rw [hr, pm_eq (by omega)]; (first | done | rfl | (simp only [List.append_assoc, if_pos, if_neg]; (first | done | rfl | rw [hb] | rw [ha]))  | skip)⟩, by dsimp only; omega, ?_⟩; dsimp only; (conv => whnf); (refine GOES.keeping h0 [4] rfl rfl rfl (by first | rfl | (simp only [belowO, belowH, plainLL_below _ (plainQds _), Bool.and_self, Bool.and_true] <;> rfl)) ?_ ?_ <;> (repeat' (first | (with_reducible rfl) | (exact rows_eq (plainQds _) (renLL_plain _ (plainQds _))) | (exact rows_eq (plainQds _) (by (simp [List.take_of_length_le, ofVal, qdRow]))) | (exact sl_eq rfl (by first | (simp; done) | omega | (simp; omega))) | (exact congrArg (SV.int _) (by first | omega | (simp (disch := omega) only [lnB, wrap64, wrap32] <;> omega) | (simp; done) | (simp <;> omega))) | ((conv => whnf); refine ⟨?_, ?_⟩) | exact trivial | (simp only [ren, renB]; done) | rfl))); done)
      | (refine ⟨(out, p + 1, q + 1), ⟨by dsimp only; omega, by dsimp only; omega, by dsimp only; omega, by dsimp only; rw [hr, pm_eq (by omega)]; (first | done | rfl | rw [hb]; rfl | rw [ha]; rfl | skip)⟩, by dsimp only; omega, ?_⟩; dsimp only; (conv => whnf); (refine GOES.cutting h0 rfl rfl rfl (by first | rfl | (simp only [belowO, belowH, plainLL_below _ (plainQds _), Bool.and_self, Bool.and_true] <;> rfl)) ?_ ?_ <;> (repeat' (first | (with_reducible rfl) | (exact sl_eq rfl (by first | (simp; done) | omega | (simp; omega))) | (exact congrArg (SV.int _) (by first | omega | (simp (disch := omega) only [lnB, wrap64, wrap32] <;> omega) | (simp; done) | (simp <;> omega))) | (exact congrArg (Hp.rows _) (by rfl)) | ((conv => whnf); refine ⟨?_, ?_⟩) | exact trivial | rfl))); done)
      | (refine ⟨(out ++ [B[j + q]'(by omega)], p, q + 1), ⟨by dsimp only; omega, by dsimp only; omega, by simp only [List.length_append, List.length_cons, List.length_nil]; omega, by dsimp only; rw [hr, pm_gt (by omega)]; (first | done | rfl | (simp only [List.append_assoc, if_pos, if_neg]; (first | done | rfl | rw [hb] | rw [ha]))  | skip)⟩, by dsimp only; omega, ?_⟩; dsimp only; (conv => whnf); (refine GOES.keeping h0 [4] rfl rfl rfl (by first | rfl | (simp only [belowO, belowH, plainLL_below _ (plainQds _), Bool.and_self, Bool.and_true] <;> rfl)) ?_ ?_ <;> (repeat' (first | (with_reducible rfl) | (exact rows_eq (plainQds _) (renLL_plain _ (plainQds _))) | (exact rows_eq (plainQds _) (by (simp [List.take_of_length_le, ofVal, qdRow]))) | (exact sl_eq rfl (by first | (simp; done) | omega | (simp; omega))) | (exact congrArg (SV.int _) (by first | omega | (simp (disch := omega) only [lnB, wrap64, wrap32] <;> omega) | (simp; done) | (simp <;> omega))) | ((conv => whnf); refine ⟨?_, ?_⟩) | exact trivial | (simp only [ren, renB]; done) | rfl))); done)
      | (refine ⟨(out, p, q + 1), ⟨by dsimp only; omega, by dsimp only; omega, by dsimp only; omega, by dsimp only; rw [hr, pm_gt (by omega)]; (first | done | rfl | rw [hb]; rfl | rw [ha]; rfl | skip)⟩, by dsimp only; omega, ?_⟩; dsimp only; (conv => whnf); (refine GOES.cutting h0 rfl rfl rfl (by first | rfl | (simp only [belowO, belowH, plainLL_below _ (plainQds _), Bool.and_self, Bool.and_true] <;> rfl)) ?_ ?_ <;> (repeat' (first | (with_reducible rfl) | (exact sl_eq rfl (by first | (simp; done) | omega | (simp; omega))) | (exact congrArg (SV.int _) (by first | omega | (simp (disch := omega) only [lnB, wrap64, wrap32] <;> omega) | (simp; done) | (simp <;> omega))) | (exact congrArg (Hp.rows _) (by rfl)) | ((conv => whnf); refine ⟨?_, ?_⟩) | exact trivial | rfl))); done)
      | trace_state
  · have ha := cut_cons (A := A) (i := i) hpn hA
    have hb : (B.drop (j + q)).take (m - q) = [] := by rw [show m - q = 0 by omega]; rfl
    rw [ha, hb] at hr
    conv => whnf
    repeat' ((first | with_reducible refine IF.tt ?_ | with_reducible refine IF.ff ?_ | refine DRAWN.of (id := 7) tabOK mixed plSets40 (by kernel_rfl) ?_ | with_reducible refine ADD.mk (fun _ _ => ?_) | with_reducible refine NEED.mk (Det.of rfl) ?_ | refine NEED.mk (det_pos (by omega)) ?_ | with_reducible refine FORK.mk ?_ ?_ | refine CALL.value (qdCmp_does _ _) rfl rfl ?_ | (rw [hsum]; conv => whnf) | (refine NEED.mk (needApp 224 rfl rfl rfl (by simp) (by omega)) ?_; conv => whnf) | (refine GET.at (row := qdRow (A[i + p]'(by omega))) (row_at0 (by omega) (by omega)) ?_; conv => whnf) | (refine GET.at (row := qdRow (B[j + q]'(by omega))) (row_at0 (by omega) (by omega)) ?_; conv => whnf) | ((with_reducible refine NEED.mk ?_ ?_); (first | with_reducible rfl | omega | (simp (disch := omega) only [lnB, wrap64, wrap32] <;> omega) | (intro h; (try simp (disch := omega) only [hsB, hsC, lnB, wrap64, wrap32, simprocAttr] at h); (first | omega | (simp (disch := omega) only [lnB, wrap64, wrap32] <;> omega))) | (exact needApp 256 rfl rfl (by simp) (by simp) (by omega)) | (exact ⟨by omega, le_reach (by omega)⟩) | (exact ⟨by omega, by omega, le_reach (by omega)⟩) | (simp <;> omega))) | ((with_reducible apply GET.at); rfl) | ((with_reducible apply GETG.at); rfl) | ((with_reducible refine UNK.mk (fun h => ?_) ?_) <;> try (exfalso; omega)) | ((with_reducible refine IF.mk (fun h => ?_) (fun h => ?_)) <;> (try simp (disch := omega) only [hsB, hsC, lnB, wrap64, wrap32, simprocAttr] at h) <;> try (exfalso; omega))) <;> conv => whnf)
    all_goals first
      | (refine ⟨(out ++ [A[i + p]'(by omega)], p + 1, q), ⟨by dsimp only; omega, by dsimp only; omega, by simp only [List.length_append, List.length_cons, List.length_nil]; omega, by dsimp only; rw [hr, pm_a]; (first | done | rfl | (simp only [List.append_assoc, if_pos, if_neg]; (first | done | rfl | rw [hb] | rw [ha]))  | skip)⟩, by dsimp only; omega, ?_⟩; dsimp only; (conv => whnf); (refine GOES.keeping h0 [4] rfl rfl rfl (by first | rfl | (simp only [belowO, belowH, plainLL_below _ (plainQds _), Bool.and_self, Bool.and_true] <;> rfl)) ?_ ?_ <;> (repeat' (first | (with_reducible rfl) | (exact rows_eq (plainQds _) (renLL_plain _ (plainQds _))) | (exact rows_eq (plainQds _) (by (simp [List.take_of_length_le, ofVal, qdRow]))) | (exact sl_eq rfl (by first | (simp; done) | omega | (simp; omega))) | (exact congrArg (SV.int _) (by first | omega | (simp (disch := omega) only [lnB, wrap64, wrap32] <;> omega) | (simp; done) | (simp <;> omega))) | ((conv => whnf); refine ⟨?_, ?_⟩) | exact trivial | (simp only [ren, renB]; done) | rfl))); done)
      | (refine ⟨(out, p + 1, q), ⟨by dsimp only; omega, by dsimp only; omega, by dsimp only; omega, by dsimp only; rw [hr, pm_a]; (first | done | rfl | rw [hb]; rfl | rw [ha]; rfl | skip)⟩, by dsimp only; omega, ?_⟩; dsimp only; (conv => whnf); (refine GOES.cutting h0 rfl rfl rfl (by first | rfl | (simp only [belowO, belowH, plainLL_below _ (plainQds _), Bool.and_self, Bool.and_true] <;> rfl)) ?_ ?_ <;> (repeat' (first | (with_reducible rfl) | (exact sl_eq rfl (by first | (simp; done) | omega | (simp; omega))) | (exact congrArg (SV.int _) (by first | omega | (simp (disch := omega) only [lnB, wrap64, wrap32] <;> omega) | (simp; done) | (simp <;> omega))) | (exact congrArg (Hp.rows _) (by rfl)) | ((conv => whnf); refine ⟨?_, ?_⟩) | exact trivial | rfl))); done)
      | trace_state
  · have hb := cut_cons (A := B) (i := j) hqm hB
    have ha : (A.drop (i + p)).take (n - p) = [] := by rw [show n - p = 0 by omega]; rfl
    rw [ha, hb] at hr
    conv => whnf
    repeat' ((first | with_reducible refine IF.tt ?_ | with_reducible refine IF.ff ?_ | refine DRAWN.of (id := 7) tabOK mixed plSets40 (by kernel_rfl) ?_ | with_reducible refine ADD.mk (fun _ _ => ?_) | with_reducible refine NEED.mk (Det.of rfl) ?_ | refine NEED.mk (det_pos (by omega)) ?_ | with_reducible refine FORK.mk ?_ ?_ | refine CALL.value (qdCmp_does _ _) rfl rfl ?_ | (rw [hsum]; conv => whnf) | (refine NEED.mk (needApp 224 rfl rfl rfl (by simp) (by omega)) ?_; conv => whnf) | (refine GET.at (row := qdRow (A[i + p]'(by omega))) (row_at0 (by omega) (by omega)) ?_; conv => whnf) | (refine GET.at (row := qdRow (B[j + q]'(by omega))) (row_at0 (by omega) (by omega)) ?_; conv => whnf) | ((with_reducible refine NEED.mk ?_ ?_); (first | with_reducible rfl | omega | (simp (disch := omega) only [lnB, wrap64, wrap32] <;> omega) | (intro h; (try simp (disch := omega) only [hsB, hsC, lnB, wrap64, wrap32, simprocAttr] at h); (first | omega | (simp (disch := omega) only [lnB, wrap64, wrap32] <;> omega))) | (exact needApp 256 rfl rfl (by simp) (by simp) (by omega)) | (exact ⟨by omega, le_reach (by omega)⟩) | (exact ⟨by omega, by omega, le_reach (by omega)⟩) | (simp <;> omega))) | ((with_reducible apply GET.at); rfl) | ((with_reducible apply GETG.at); rfl) | ((with_reducible refine UNK.mk (fun h => ?_) ?_) <;> try (exfalso; omega)) | ((with_reducible refine IF.mk (fun h => ?_) (fun h => ?_)) <;> (try simp (disch := omega) only [hsB, hsC, lnB, wrap64, wrap32, simprocAttr] at h) <;> try (exfalso; omega))) <;> conv => whnf)
    all_goals first
      | (refine ⟨(out ++ [B[j + q]'(by omega)], p, q + 1), ⟨by dsimp only; omega, by dsimp only; omega, by simp only [List.length_append, List.length_cons, List.length_nil]; omega, by dsimp only; rw [hr, pm_b]; (first | done | rfl | (simp only [List.append_assoc, if_pos, if_neg]; (first | done | rfl | rw [hb] | rw [ha]))  | skip)⟩, by dsimp only; omega, ?_⟩; dsimp only; (conv => whnf); (refine GOES.keeping h0 [4] rfl rfl rfl (by first | rfl | (simp only [belowO, belowH, plainLL_below _ (plainQds _), Bool.and_self, Bool.and_true] <;> rfl)) ?_ ?_ <;> (repeat' (first | (with_reducible rfl) | (exact rows_eq (plainQds _) (renLL_plain _ (plainQds _))) | (exact rows_eq (plainQds _) (by (simp [List.take_of_length_le, ofVal, qdRow]))) | (exact sl_eq rfl (by first | (simp; done) | omega | (simp; omega))) | (exact congrArg (SV.int _) (by first | omega | (simp (disch := omega) only [lnB, wrap64, wrap32] <;> omega) | (simp; done) | (simp <;> omega))) | ((conv => whnf); refine ⟨?_, ?_⟩) | exact trivial | (simp only [ren, renB]; done) | rfl))); done)
      | (refine ⟨(out, p, q + 1), ⟨by dsimp only; omega, by dsimp only; omega, by dsimp only; omega, by dsimp only; rw [hr, pm_b]; (first | done | rfl | rw [hb]; rfl | rw [ha]; rfl | skip)⟩, by dsimp only; omega, ?_⟩; dsimp only; (conv => whnf); (refine GOES.cutting h0 rfl rfl rfl (by first | rfl | (simp only [belowO, belowH, plainLL_below _ (plainQds _), Bool.and_self, Bool.and_true] <;> rfl)) ?_ ?_ <;> (repeat' (first | (with_reducible rfl) | (exact sl_eq rfl (by first | (simp; done) | omega | (simp; omega))) | (exact congrArg (SV.int _) (by first | omega | (simp (disch := omega) only [lnB, wrap64, wrap32] <;> omega) | (simp; done) | (simp <;> omega))) | (exact congrArg (Hp.rows _) (by rfl)) | ((conv => whnf); refine ⟨?_, ?_⟩) | exact trivial | rfl))); done)
      | trace_state
  · have ha : (A.drop (i + p)).take (n - p) = [] := by rw [show n - p = 0 by omega]; rfl
    have hb : (B.drop (j + q)).take (m - q) = [] := by rw [show m - q = 0 by omega]; rfl
    rw [ha, hb, pm_nil, List.append_nil] at hr
    conv => whnf
    repeat' ((first | with_reducible refine IF.tt ?_ | with_reducible refine IF.ff ?_ | (rw [hsum]; conv => whnf) | ((with_reducible refine NEED.mk ?_ ?_); (first | with_reducible rfl | omega | (simp (disch := omega) only [lnB, wrap64, wrap32] <;> omega) | (intro h; (try simp (disch := omega) only [hsB, hsC, lnB, wrap64, wrap32, simprocAttr] at h); (first | omega | (simp (disch := omega) only [lnB, wrap64, wrap32] <;> omega))) | (exact needApp 256 rfl rfl (by simp) (by simp) (by omega)) | (exact ⟨by omega, le_reach (by omega)⟩) | (exact ⟨by omega, by omega, le_reach (by omega)⟩) | (simp <;> omega))) | ((with_reducible apply GET.at); rfl) | ((with_reducible apply GETG.at); rfl) | ((with_reducible refine UNK.mk (fun h => ?_) ?_) <;> try (exfalso; omega)) | ((with_reducible refine IF.mk (fun h => ?_) (fun h => ?_)) <;> (try simp (disch := omega) only [hsB, hsC, lnB, wrap64, wrap32, simprocAttr] at h) <;> try (exfalso; omega))) <;> conv => whnf)
    rw [hr]
    exact FIN.rows h0 2 16 out.length rfl rfl rfl (plainQds _) ⟨rfl, rfl, rfl⟩
set_option maxHeartbeats 4000000 in
theorem pmergedN_does (A B : List Qd) (i n j m : Nat) (lA lB : Option Nat) (hA : i + n ≤ A.length) (hB : j + m ≤ B.length) (hl : (A.length + B.length) * 224 ≤ 281474976710656) (hnm : (n + m) * 224 ≤ 140737488351232) : Does Try.prog tab 70 2 [.sl (.loc 0) i 16 n lA, .sl (.loc 1) j 16 m lB, .fn (.func 32) [] [], .bool true, .bool false, .bool false] [] [(0, .rows 16 (A.map qdRow)), (1, .rows 16 (B.map qdRow))]
    (NewList qdRow 16 2 (pmerge qdCmp true false false ((A.drop i).take n) ((B.drop j).take m))) := by
  refine Does.enter tabOK (g := 70) (fn := Try.f70) Try.call70 Try.func70 rfl 75 rfl rfl [.tmp 12] rfl ?_
  intro w0 F η0 h0
  conv => whnf
  refine LOOP.nil 13 16 rfl ?_
  refine LOOP.go tabOK [2, 3, 4, 5] (X := List Qd × Nat × Nat) (fun x => x.2.1 ≤ n ∧ x.2.2 ≤ m ∧ x.1.length ≤ x.2.1 + x.2.2 ∧ pmerge qdCmp true false false ((A.drop i).take n) ((B.drop j).take m) = x.1 ++ pmerge qdCmp true false false ((A.drop (i + x.2.1)).take (n - x.2.1)) ((B.drop (j + x.2.2)).take (m - x.2.2)))
    (fun x => [(0, .sl (.loc 0) (i + x.2.1) 16 (n - x.2.1) lA), (1, .sl (.loc 1) (j + x.2.2) 16 (m - x.2.2) lB), (13, .sl (.loc 2) 0 16 x.1.length none)]) (fun x => [(2, .rows 16 (x.1.map qdRow))]) 3 (fun x => (n - x.2.1) + (m - x.2.2)) ([], 0, 0) ⟨by simp, by simp, by simp, rfl⟩ ?_
  conv => whnf
  refine ⟨by (refine GOES.cutting h0 rfl rfl rfl (by first | rfl | simp [belowO, belowH, plainLL_below, plainLL_map, plainL, plain]) ?_ ?_ <;> (repeat' (first | (with_reducible rfl) | (exact congrArg (fun n => SV.sl _ _ _ n _) (by simp)) | (exact congrArg (Hp.rows _) (by simp)) | (exact congrArg (SV.int _) (by first | omega | (simp (disch := omega) only [lnB, wrap64, wrap32] <;> omega) | (simp; done) | (simp <;> omega))) | ((conv => whnf); refine ⟨?_, ?_⟩) | exact trivial | (simp; done) | rfl))), ?_⟩
  rintro ⟨out, p, q⟩ ⟨hp, hq, ho, hr⟩
  dsimp only at hp hq ho hr ⊢
  have hsum : IntKind.i64.wrap (((n - p : Nat) : Int) + ((m - q : Nat) : Int)) = ((n - p + (m - q) : Nat) : Int) := by rw [wrap64 (by omega) (by omega)]; omega
  rcases Nat.lt_or_ge p n with hpn | hpn <;> rcases Nat.lt_or_ge q m with hqm | hqm
  · have ha := cut_cons (A := A) (i := i) hpn hA
    have hb := cut_cons (A := B) (i := j) hqm hB
    rw [ha, hb] at hr
    conv => whnf
    repeat' ((first | with_reducible refine IF.tt ?_ | with_reducible refine IF.ff ?_ | refine DRAWN.of (id := 7) tabOK mixed plSets40 (by kernel_rfl) ?_ | with_reducible refine ADD.mk (fun _ _ => ?_) | with_reducible refine NEED.mk (Det.of rfl) ?_ | refine NEED.mk (det_pos (by omega)) ?_ | with_reducible refine FORK.mk ?_ ?_ | refine CALL.value (qdCmp_does _ _) rfl rfl ?_ | (rw [hsum]; conv => whnf) | (refine NEED.mk (needApp 224 rfl rfl rfl (by simp) (by omega)) ?_; conv => whnf) | (refine GET.at (row := qdRow (A[i + p]'(by omega))) (row_at0 (by omega) (by omega)) ?_; conv => whnf) | (refine GET.at (row := qdRow (B[j + q]'(by omega))) (row_at0 (by omega) (by omega)) ?_; conv => whnf) | ((with_reducible refine NEED.mk ?_ ?_); (first | with_reducible rfl | omega | (simp (disch := omega) only [lnB, wrap64, wrap32] <;> omega) | (intro h; (try simp (disch := omega) only [hsB, hsC, lnB, wrap64, wrap32, simprocAttr] at h); (first | omega | (simp (disch := omega) only [lnB, wrap64, wrap32] <;> omega))) | (exact needApp 256 rfl rfl (by simp) (by simp) (by omega)) | (exact ⟨by omega, le_reach (by omega)⟩) | (exact ⟨by omega, by omega, le_reach (by omega)⟩) | (simp <;> omega))) | ((with_reducible apply GET.at); rfl) | ((with_reducible apply GETG.at); rfl) | ((with_reducible refine UNK.mk (fun h => ?_) ?_) <;> try (exfalso; omega)) | ((with_reducible refine IF.mk (fun h => ?_) (fun h => ?_)) <;> (try simp (disch := omega) only [hsB, hsC, lnB, wrap64, wrap32, simprocAttr] at h) <;> try (exfalso; omega))) <;> conv => whnf)
    all_goals first
      | (refine ⟨(out ++ [A[i + p]'(by omega)], p + 1, q), ⟨by dsimp only; omega, by dsimp only; omega, by simp only [List.length_append, List.length_cons, List.length_nil]; omega, by dsimp only; rw [hr, pm_lt (by omega)]; (first | done | rfl | (simp only [List.append_assoc, if_pos, if_neg]; (first | done | rfl | rw [hb] | rw [ha]))  | skip)⟩, by dsimp only; omega, ?_⟩; dsimp only; (conv => whnf); (refine GOES.keeping h0 [4] rfl rfl rfl (by first | rfl | (simp only [belowO, belowH, plainLL_below _ (plainQds _), Bool.and_self, Bool.and_true] <;> rfl)) ?_ ?_ <;> (repeat' (first | (with_reducible rfl) | (exact rows_eq (plainQds _) (renLL_plain _ (plainQds _))) | (exact rows_eq (plainQds _) (by (simp [List.take_of_length_le, ofVal, qdRow]))) | (exact sl_eq rfl (by first | (simp; done) | omega | (simp; omega))) | (exact congrArg (SV.int _) (by first | omega | (simp (disch := omega) only [lnB, wrap64, wrap32] <;> omega) | (simp; done) | (simp <;> omega))) | ((conv => whnf); refine ⟨?_, ?_⟩) | exact trivial | (simp only [ren, renB]; done) | rfl))); done)
      | (refine ⟨(out, p + 1, q), ⟨by dsimp only; omega, by dsimp only; omega, by dsimp only; omega, by dsimp only; rw [hr, pm_lt (by omega)]; (first | done | rfl | rw [hb]; rfl | rw [ha]; rfl | skip)⟩, by dsimp only; omega, ?_⟩; dsimp only; (conv => whnf); (refine GOES.cutting h0 rfl rfl rfl (by first | rfl | (simp only [belowO, belowH, plainLL_below _ (plainQds _), Bool.and_self, Bool.and_true] <;> rfl)) ?_ ?_ <;> (repeat' (first | (with_reducible rfl) | (exact sl_eq rfl (by first | (simp; done) | omega | (simp; omega))) | (exact congrArg (SV.int _) (by first | omega | (simp (disch := omega) only [lnB, wrap64, wrap32] <;> omega) | (simp; done) | (simp <;> omega))) | (exact congrArg (Hp.rows _) (by rfl)) | ((conv => whnf); refine ⟨?_, ?_⟩) | exact trivial | rfl))); done)
      | (refine ⟨(out ++ [A[i + p]'(by omega)], p + 1, q + 1), ⟨by dsimp only; omega, by dsimp only; omega, by simp only [List.length_append, List.length_cons, List.length_nil]; omega, by dsimp only; rw [hr, pm_eq (by omega)]; (first | done | rfl | (simp only [List.append_assoc, if_pos, if_neg]; (first | done | rfl | rw [hb] | rw [ha]))  | skip)⟩, by dsimp only; omega, ?_⟩; dsimp only; (conv => whnf); (refine GOES.keeping h0 [4] rfl rfl rfl (by first | rfl | (simp only [belowO, belowH, plainLL_below _ (plainQds _), Bool.and_self, Bool.and_true] <;> rfl)) ?_ ?_ <;> (repeat' (first | (with_reducible rfl) | (exact rows_eq (plainQds _) (renLL_plain _ (plainQds _))) | (exact rows_eq (plainQds _) (by (simp [List.take_of_length_le, ofVal, qdRow]))) | (exact sl_eq rfl (by first | (simp; done) | omega | (simp; omega))) | (exact congrArg (SV.int _) (by first | omega | (simp (disch := omega) only [lnB, wrap64, wrap32] <;> omega) | (simp; done) | (simp <;> omega))) | ((conv => whnf); refine ⟨?_, ?_⟩) | exact trivial | (simp only [ren, renB]; done) | rfl))); done)
      | (refine ⟨(out, p + 1, q + 1), ⟨by dsimp only; omega, by dsimp only; omega, by dsimp only; omega, by dsimp only; rw [hr, pm_eq (by omega)]; (first | done | rfl | rw [hb]; rfl | rw [ha]; rfl | skip)⟩, by dsimp only; omega, ?_⟩; dsimp only; (conv => whnf); (refine GOES.cutting h0 rfl rfl rfl (by first | rfl | (simp only [belowO, belowH, plainLL_below _ (plainQds _), Bool.and_self, Bool.and_true] <;> rfl)) ?_ ?_ <;> (repeat' (first | (with_reducible rfl) | (exact sl_eq rfl (by first | (simp; done) | omega | (simp; omega))) | (exact congrArg (SV.int _) (by first | omega | (simp (disch := omega) only [lnB, wrap64, wrap32] <;> omega) | (simp; done) | (simp <;> omega))) | (exact congrArg (Hp.rows _) (by rfl)) | ((conv => whnf); refine ⟨?_, ?_⟩) | exact trivial | rfl))); done)
      | (refine ⟨(out ++ [B[j + q]'(by omega)], p, q + 1), ⟨by dsimp only; omega, by dsimp only; omega, by simp only [List.length_append, List.length_cons, List.length_nil]; omega, by dsimp only; rw [hr, pm_gt (by omega)]; (first | done | rfl | (simp only [List.append_assoc, if_pos, if_neg]; (first | done | rfl | rw [hb] | rw [ha]))  | skip)⟩, by dsimp only; omega, ?_⟩; dsimp only; (conv => whnf); (refine GOES.keeping h0 [4] rfl rfl rfl (by first | rfl | (simp only [belowO, belowH, plainLL_below _ (plainQds _), Bool.and_self, Bool.and_true] <;> rfl)) ?_ ?_ <;> (repeat' (first | (with_reducible rfl) | (exact rows_eq (plainQds _) (renLL_plain _ (plainQds _))) | (exact rows_eq (plainQds _) (by (simp [List.take_of_length_le, ofVal, qdRow]))) | (exact sl_eq rfl (by first | (simp; done) | omega | (simp; omega))) | (exact congrArg (SV.int _) (by first | omega | (simp (disch := omega) only [lnB, wrap64, wrap32] <;> omega) | (simp; done) | (simp <;> omega))) | ((conv => whnf); refine ⟨?_, ?_⟩) | exact trivial | (simp only [ren, renB]; done) | rfl))); done)
      | (refine ⟨(out, p, q + 1), ⟨by dsimp only; omega, by dsimp only; omega, by dsimp only; omega, by dsimp only; rw [hr, pm_gt (by omega)]; (first | done | rfl | rw [hb]; rfl | rw [ha]; rfl | skip)⟩, by dsimp only; omega, ?_⟩; dsimp only; (conv => whnf); (refine GOES.cutting h0 rfl rfl rfl (by first | rfl | (simp only [belowO, belowH, plainLL_below _ (plainQds _), Bool.and_self, Bool.and_true] <;> rfl)) ?_ ?_ <;> (repeat' (first | (with_reducible rfl) | (exact sl_eq rfl (by first | (simp; done) | omega | (simp; omega))) | (exact congrArg (SV.int _) (by first | omega | (simp (disch := omega) only [lnB, wrap64, wrap32] <;> omega) | (simp; done) | (simp <;> omega))) | (exact congrArg (Hp.rows _) (by rfl)) | ((conv => whnf); refine ⟨?_, ?_⟩) | exact trivial | rfl))); done)
      | trace_state
  · have ha := cut_cons (A := A) (i := i) hpn hA
    have hb : (B.drop (j + q)).take (m - q) = [] := by rw [show m - q = 0 by omega]; rfl
    rw [ha, hb] at hr
    conv => whnf
    repeat' ((first | with_reducible refine IF.tt ?_ | with_reducible refine IF.ff ?_ | refine DRAWN.of (id := 7) tabOK mixed plSets40 (by kernel_rfl) ?_ | with_reducible refine ADD.mk (fun _ _ => ?_) | with_reducible refine NEED.mk (Det.of rfl) ?_ | refine NEED.mk (det_pos (by omega)) ?_ | with_reducible refine FORK.mk ?_ ?_ | refine CALL.value (qdCmp_does _ _) rfl rfl ?_ | (rw [hsum]; conv => whnf) | (refine NEED.mk (needApp 224 rfl rfl rfl (by simp) (by omega)) ?_; conv => whnf) | (refine GET.at (row := qdRow (A[i + p]'(by omega))) (row_at0 (by omega) (by omega)) ?_; conv => whnf) | (refine GET.at (row := qdRow (B[j + q]'(by omega))) (row_at0 (by omega) (by omega)) ?_; conv => whnf) | ((with_reducible refine NEED.mk ?_ ?_); (first | with_reducible rfl | omega | (simp (disch := omega) only [lnB, wrap64, wrap32] <;> omega) | (intro h; (try simp (disch := omega) only [hsB, hsC, lnB, wrap64, wrap32, simprocAttr] at h); (first | omega | (simp (disch := omega) only [lnB, wrap64, wrap32] <;> omega))) | (exact needApp 256 rfl rfl (by simp) (by simp) (by omega)) | (exact ⟨by omega, le_reach (by omega)⟩) | (exact ⟨by omega, by omega, le_reach (by omega)⟩) | (simp <;> omega))) | ((with_reducible apply GET.at); rfl) | ((with_reducible apply GETG.at); rfl) | ((with_reducible refine UNK.mk (fun h => ?_) ?_) <;> try (exfalso; omega)) | ((with_reducible refine IF.mk (fun h => ?_) (fun h => ?_)) <;> (try simp (disch := omega) only [hsB, hsC, lnB, wrap64, wrap32, simprocAttr] at h) <;> try (exfalso; omega))) <;> conv => whnf)
    all_goals first
      | (refine ⟨(out ++ [A[i + p]'(by omega)], p + 1, q), ⟨by dsimp only; omega, by dsimp only; omega, by simp only [List.length_append, List.length_cons, List.length_nil]; omega, by dsimp only; rw [hr, pm_a]; (first | done | rfl | (simp only [List.append_assoc, if_pos, if_neg]; (first | done | rfl | rw [hb] | rw [ha]))  | skip)⟩, by dsimp only; omega, ?_⟩; dsimp only; (conv => whnf); (refine GOES.keeping h0 [4] rfl rfl rfl (by first | rfl | (simp only [belowO, belowH, plainLL_below _ (plainQds _), Bool.and_self, Bool.and_true] <;> rfl)) ?_ ?_ <;> (repeat' (first | (with_reducible rfl) | (exact rows_eq (plainQds _) (renLL_plain _ (plainQds _))) | (exact rows_eq (plainQds _) (by (simp [List.take_of_length_le, ofVal, qdRow]))) | (exact sl_eq rfl (by first | (simp; done) | omega | (simp; omega))) | (exact congrArg (SV.int _) (by first | omega | (simp (disch := omega) only [lnB, wrap64, wrap32] <;> omega) | (simp; done) | (simp <;> omega))) | ((conv => whnf); refine ⟨?_, ?_⟩) | exact trivial | (simp only [ren, renB]; done) | rfl))); done)
      | (refine ⟨(out, p + 1, q), ⟨by dsimp only; omega, by dsimp only; omega, by dsimp only; omega, by dsimp only; rw [hr, pm_a]; (first | done | rfl | rw [hb]; rfl | rw [ha]; rfl | skip)⟩, by dsimp only; omega, ?_⟩; dsimp only; (conv => whnf); (refine GOES.cutting h0 rfl rfl rfl (by first | rfl | (simp only [belowO, belowH, plainLL_below _ (plainQds _), Bool.and_self, Bool.and_true] <;> rfl)) ?_ ?_ <;> (repeat' (first | (with_reducible rfl) | (exact sl_eq rfl (by first | (simp; done) | omega | (simp; omega))) | (exact congrArg (SV.int _) (by first | omega | (simp (disch := omega) only [lnB, wrap64, wrap32] <;> omega) | (simp; done) | (simp <;> omega))) | (exact congrArg (Hp.rows _) (by rfl)) | ((conv => whnf); refine ⟨?_, ?_⟩) | exact trivial | rfl))); done)
      | trace_state
  · have hb := cut_cons (A := B) (i := j) hqm hB
    have ha : (A.drop (i + p)).take (n - p) = [] := by rw [show n - p = 0 by omega]; rfl
    rw [ha, hb] at hr
    conv => whnf
    repeat' ((first | with_reducible refine IF.tt ?_ | with_reducible refine IF.ff ?_ | refine DRAWN.of (id := 7) tabOK mixed plSets40 (by kernel_rfl) ?_ | with_reducible refine ADD.mk (fun _ _ => ?_) | with_reducible refine NEED.mk (Det.of rfl) ?_ | refine NEED.mk (det_pos (by omega)) ?_ | with_reducible refine FORK.mk ?_ ?_ | refine CALL.value (qdCmp_does _ _) rfl rfl ?_ | (rw [hsum]; conv => whnf) | (refine NEED.mk (needApp 224 rfl rfl rfl (by simp) (by omega)) ?_; conv => whnf) | (refine GET.at (row := qdRow (A[i + p]'(by omega))) (row_at0 (by omega) (by omega)) ?_; conv => whnf) | (refine GET.at (row := qdRow (B[j + q]'(by omega))) (row_at0 (by omega) (by omega)) ?_; conv => whnf) | ((with_reducible refine NEED.mk ?_ ?_); (first | with_reducible rfl | omega | (simp (disch := omega) only [lnB, wrap64, wrap32] <;> omega) | (intro h; (try simp (disch := omega) only [hsB, hsC, lnB, wrap64, wrap32, simprocAttr] at h); (first | omega | (simp (disch := omega) only [lnB, wrap64, wrap32] <;> omega))) | (exact needApp 256 rfl rfl (by simp) (by simp) (by omega)) | (exact ⟨by omega, le_reach (by omega)⟩) | (exact ⟨by omega, by omega, le_reach (by omega)⟩) | (simp <;> omega))) | ((with_reducible apply GET.at); rfl) | ((with_reducible apply GETG.at); rfl) | ((with_reducible refine UNK.mk (fun h => ?_) ?_) <;> try (exfalso; omega)) | ((with_reducible refine IF.mk (fun h => ?_) (fun h => ?_)) <;> (try simp (disch := omega) only [hsB, hsC, lnB, wrap64, wrap32, simprocAttr] at h) <;> try (exfalso; omega))) <;> conv => whnf)
    all_goals first
      | (refine ⟨(out ++ [B[j + q]'(by omega)], p, q + 1), ⟨by dsimp only; omega, by dsimp only; omega, by simp only [List.length_append, List.length_cons, List.length_nil]; omega, by dsimp only; rw [hr, pm_b]; (first | done | rfl | (simp only [List.append_assoc, if_pos, if_neg]; (first | done | rfl | rw [hb] | rw [ha]))  | skip)⟩, by dsimp only; omega, ?_⟩; dsimp only; (conv => whnf); (refine GOES.keeping h0 [4] rfl rfl rfl (by first | rfl | (simp only [belowO, belowH, plainLL_below _ (plainQds _), Bool.and_self, Bool.and_true] <;> rfl)) ?_ ?_ <;> (repeat' (first | (with_reducible rfl) | (exact rows_eq (plainQds _) (renLL_plain _ (plainQds _))) | (exact rows_eq (plainQds _) (by (simp [List.take_of_length_le, ofVal, qdRow]))) | (exact sl_eq rfl (by first | (simp; done) | omega | (simp; omega))) | (exact congrArg (SV.int _) (by first | omega | (simp (disch := omega) only [lnB, wrap64, wrap32] <;> omega) | (simp; done) | (simp <;> omega))) | ((conv => whnf); refine ⟨?_, ?_⟩) | exact trivial | (simp only [ren, renB]; done) | rfl))); done)
      | (refine ⟨(out, p, q + 1), ⟨by dsimp only; omega, by dsimp only; omega, by dsimp only; omega, by dsimp only; rw [hr, pm_b]; (first | done | rfl | rw [hb]; rfl | rw [ha]; rfl | skip)⟩, by dsimp only; omega, ?_⟩; dsimp only; (conv => whnf); (refine GOES.cutting h0 rfl rfl rfl (by first | rfl | (simp only [belowO, belowH, plainLL_below _ (plainQds _), Bool.and_self, Bool.and_true] <;> rfl)) ?_ ?_ <;> (repeat' (first | (with_reducible rfl) | (exact sl_eq rfl (by first | (simp; done) | omega | (simp; omega))) | (exact congrArg (SV.int _) (by first | omega | (simp (disch := omega) only [lnB, wrap64, wrap32] <;> omega) | (simp; done) | (simp <;> omega))) | (exact congrArg (Hp.rows _) (by rfl)) | ((conv => whnf); refine ⟨?_, ?_⟩) | exact trivial | rfl))); done)
      | trace_state
  · have ha : (A.drop (i + p)).take (n - p) = [] := by rw [show n - p = 0 by omega]; rfl
    have hb : (B.drop (j + q)).take (m - q) = [] := by rw [show m - q = 0 by omega]; rfl
    rw [ha, hb, pm_nil, List.append_nil] at hr
    conv => whnf
    repeat' ((first | with_reducible refine IF.tt ?_ | with_reducible refine IF.ff ?_ | (rw [hsum]; conv => whnf) | ((with_reducible refine NEED.mk ?_ ?_); (first | with_reducible rfl | omega | (simp (disch := omega) only [lnB, wrap64, wrap32] <;> omega) | (intro h; (try simp (disch := omega) only [hsB, hsC, lnB, wrap64, wrap32, simprocAttr] at h); (first | omega | (simp (disch := omega) only [lnB, wrap64, wrap32] <;> omega))) | (exact needApp 256 rfl rfl (by simp) (by simp) (by omega)) | (exact ⟨by omega, le_reach (by omega)⟩) | (exact ⟨by omega, by omega, le_reach (by omega)⟩) | (simp <;> omega))) | ((with_reducible apply GET.at); rfl) | ((with_reducible apply GETG.at); rfl) | ((with_reducible refine UNK.mk (fun h => ?_) ?_) <;> try (exfalso; omega)) | ((with_reducible refine IF.mk (fun h => ?_) (fun h => ?_)) <;> (try simp (disch := omega) only [hsB, hsC, lnB, wrap64, wrap32, simprocAttr] at h) <;> try (exfalso; omega))) <;> conv => whnf)
    rw [hr]
    exact FIN.rows h0 2 16 out.length rfl rfl rfl (plainQds _) ⟨rfl, rfl, rfl⟩
end Go.Proofs.Ytillkgjdbnjnoaa
