/- Part 21: ClosR, LeastM. Conditions: as each part says. -/
import Derived.Test.YtjbbkimodgffiaaGreatDoorInf8
set_option linter.unusedVariables false
set_option linter.unusedSimpArgs false
namespace Go.Our
open Go.Sx
theorem Z5M : ∀ {l : List Qd} {i : Nat}, (∀ x, badM l i = some x → x.2 ≠ 0)
 | l, i => by
   intro x hx
   by_cases h : i < l.length
   · rw [Z7l h] at hx
     split at hx
     · rename_i hc; injection hx with hx; subst hx; exact hc
     · exact Z5M x hx
   · rw [Z5J (by omega)] at hx; cases hx
 termination_by l i => l.length - i
theorem Z7m : ∀ {l : List Qd} {i : Nat}, Z0A l i = none → ∀ k (hk : k < l.length), 1 ≤ k → i ≤ k → Zm (l[k - 1]'(by omega)) l[k] < 0
 | l, i => by
   intro h k hk h1 hik
   have hil : i < l.length := by omega
   rw [Z5L hil] at h
   split at h
   · cases h
   · rename_i hc
     rcases Nat.lt_or_eq_of_le hik with h2 | rfl
     · exact Z7m h k hk h1 (by omega)
     · omega
 termination_by l i => l.length - i
theorem Wn {l : List Qd} (h : (ZQ l).2 = 0) : Rise Zm l ∧ l.length ≤ 1048576 := by
 unfold ZQ at h
 split at h
 · cases h
 · rename_i hl
   cases hb : badM l 0 with
   | some x => rw [hb] at h; exact (Z5M x hb h).elim
   | none =>
     rw [hb] at h
     cases hf : Z0A l 1 with
     | some i => rw [hf] at h; cases h
     | none => exact ⟨UV fun k hk h1 => Z7m hf k hk h1 h1, by omega⟩
end Go.Our
set_option maxRecDepth 20000
namespace Go.Our
open Go.Sx
theorem ZcC : ∀ {l : List Qd} {i : Nat}, badM l i = none → ∀ k (hk : k < l.length), i ≤ k → Zr l[k] = 0
 | l, i => by
   intro h k hk hik
   rw [Z7l (by omega)] at h
   split at h
   · cases h
   · rename_i hc
     rcases Nat.lt_or_eq_of_le hik with h2 | rfl
     · exact ZcC h k hk (by omega)
     · simpa using hc
 termination_by l i => l.length - i
theorem Zer : ∀ {l : List Qd} {i : Nat}, (∀ q ∈ l, Zr q = 0) → badM l i = none
 | l, i => by
   intro h
   by_cases hi : i < l.length
   · rw [Z7l hi, if_neg (by simpa using h _ (List.getElem_mem hi))]; exact Zer h
   · exact Z5J (by omega)
 termination_by l i => l.length - i
theorem ZcD : ∀ {l : List Qd} {i : Nat}, 1 ≤ i → Rise Zm l → Z0A l i = none
 | l, i => by
   intro h1 h
   by_cases hi : i < l.length
   · have := Z0z h (i := i - 1) (j := i) (by omega) hi
     rw [Z5L hi, if_neg (by omega)]; exact ZcD (by omega) h
   · exact Z5K (by omega)
 termination_by l i => l.length - i
theorem Z7D {l : List Qd} (h : (ZQ l).2 = 0) : ∀ q ∈ l, Zr q = 0 := by
 unfold ZQ at h
 split at h
 · cases h
 · cases hb : badM l 0 with
   | some x => rw [hb] at h; exact (Z5M x hb h).elim
   | none =>
     intro q hq
     obtain ⟨k, hk, rfl⟩ := List.mem_iff_getElem.1 hq
     exact ZcC hb k hk (Nat.zero_le _)
theorem Z9F {l : List Qd} (h1 : l.length ≤ 1048576) (h2 : ∀ q ∈ l, Zr q = 0) (h3 : Rise Zm l) : (ZQ l).2 = 0 := by
 unfold ZQ
 rw [if_neg (by omega), Zer h2, ZcD (Nat.le_refl _) h3]
theorem Z7E {l m : List Qd} (h : ∀ q ∈ l, Der m q) {q : Qd} (hq : Der l q) : Der m q := by
 induction hq with
 | base h1 => exact h _ h1
 | step _ _ hd iha ihb => exact .step iha ihb hd
theorem ZcE {l : List Qd} (hl : ∀ q ∈ l, Zr q = 0) {q : Qd} (h : Der l q) : Zr q = 0 := by
 induction h with
 | base h => exact hl _ h
 | step _ _ h iha ihb => rw [(Xk h).2.2.2.2.2]; exact (Xk h).2.2.2.2.1
theorem ZaS {l m : List Qd} {most : Int} (hv : (ZQ l).2 = 0) (h : IsCl l most (some m)) (hm : m.length ≤ 1048576) : (ZQ m).2 = 0 :=
 Z9F hm (fun q hq => ZcE (Z7D hv) ((h.2.1 q).1 hq)) h.1
theorem Z3z {l m : List Qd} {most : Int} (h : IsCl l most (some m)) : Xo m := fun n a b ha hb hd => (h.2.1 _).2 (.step ((h.2.1 a).1 ha) ((h.2.1 b).1 hb) hd)
theorem Z5P {l m : List Qd} {most : Int} (h : IsCl l most (some m)) : ∀ q ∈ l, q ∈ m := fun q hq => (h.2.1 q).2 (.base hq)
theorem Z3A {m : List Qd} {most : Int} (hr : Rise Zm m) (hc : Xo m) (hm : (m.length : Int) ≤ most) : IsCl m most (some m) := ⟨hr, fun q => ⟨.base, Z75 hc fun _ h => h⟩, hm⟩
theorem ZcF {l m : List Qd} {a b : Int} (h : IsCl l a (some m)) (hb : (m.length : Int) ≤ b) : IsCl l b (some m) := ⟨h.1, h.2.1, hb⟩
theorem Zff {l m : List Qd} {most : Int} (hr : Rise Zm l) (h : IsCl l most (some m)) : Xo l ↔ m = l := by
 constructor
 · intro hc
   injection ZN h (Z3A hr hc (by
     have : m = l := Wk triQ h.1 hr fun q => ⟨fun hq => Z75 hc (fun _ h => h) ((h.2.1 q).1 hq), Z5P h q⟩
     have := h.2.2
     subst m; exact this))
 · rintro rfl; exact Z3z h
theorem Z18 {l m : List Qd} (hl : Rise Zm l) (hm : Rise Zm m) (h : ∀ q ∈ l, q ∈ m) : ZH Zm true false false l m = [] := by
 obtain ⟨_, h2⟩ := Xn triQ true false false _ l m (Nat.le_refl _) hl hm
 refine List.eq_nil_iff_forall_not_mem.2 fun q hq => ?_
 rcases (h2 q).1 hq with h3 | h3 | h3
 · exact h3.2.2 (h q h3.2.1)
 · exact absurd h3.1 (by decide)
 · exact absurd h3.1 (by decide)
def exA : Tm := iriT [97, 58]
def exB : Tm := iriT [98, 58]
def exC : Tm := iriT [99, 58]
def exX : Tm := ⟨2, [120], [], []⟩
def exL : List Qd := [⟨exA, iriT subC, exB, Zk⟩, ⟨exB, iriT subC, exC, Zk⟩, ⟨exX, iriT typB, exA, Zk⟩]
def exM : List Qd := [⟨exA, iriT subC, exB, Zk⟩, ⟨exA, iriT subC, exC, Zk⟩, ⟨exB, iriT subC, exC, Zk⟩, ⟨exX, iriT typB, exA, Zk⟩, ⟨exX, iriT typB, exB, Zk⟩, ⟨exX, iriT typB, exC, Zk⟩]
def exQ : Qd := ⟨exX, iriT typB, exC, Zk⟩
theorem ZcG : ∀ q ∈ exM, Zr q = 0 := by decide +kernel
theorem Z7F : ∀ (l : List Qd), (l.zip l.tail).all (fun x => decide (Zm x.1 x.2 < 0)) = true → Rise Zm l := by
 intro l h
 refine UV fun k hk h1 => ?_
 rw [List.all_eq_true] at h
 have := h (l[k - 1]'(by omega), l[k]) (by
   rw [List.mem_iff_getElem]
   refine ⟨k - 1, by simp; omega, ?_⟩
   simp only [List.getElem_zip, List.getElem_tail]
   congr 1
   congr 1; omega)
 exact of_decide_eq_true this
theorem Z8G : Rise Zm exM := Z7F _ (by decide +kernel)
theorem Z9G : Rise Zm exL := Z7F _ (by decide +kernel)
theorem ZdS : (Zl 11 exM[0] exM[2] = (exM[1], true)) ∧ (Zl 9 exM[0] exM[3] = (exM[4], true)) ∧ (Zl 9 exM[2] exM[4] = (exM[5], true)) := by decide +kernel
theorem ZcH : Xo exM := by
 have h : (exM.all fun a => exM.all fun b => rulesL.all fun n => !(Zw n a b).2 || decide ((Zw n a b).1 ∈ exM)) = true := by decide +kernel
 intro n a b ha hb hd
 have hn := (WR hd).2
 rw [List.all_eq_true] at h
 have h := h a ha
 rw [List.all_eq_true] at h
 have h := h b hb
 rw [List.all_eq_true] at h
 have h := h n hn
 obtain ⟨_, _, _, h2, _, h3⟩ := Xk hd
 rw [h2] at h
 rw [h3]
 simpa using h
theorem ZcI : IsCl exL 100 (some exM) := by
 obtain ⟨d1, d2, d3⟩ := ZdS
 have hs : ∀ q ∈ exL, q ∈ exM := by decide +kernel
 have b0 : Der exL exM[0] := .base (by decide +kernel)
 have b2 : Der exL exM[2] := .base (by decide +kernel)
 have b3 : Der exL exM[3] := .base (by decide +kernel)
 have b1 : Der exL exM[1] := by have := Der.step b0 b2 (n := 11) (by rw [d1]); rwa [d1] at this
 have b4 : Der exL exM[4] := by have := Der.step b0 b3 (n := 9) (by rw [d2]); rwa [d2] at this
 have b5 : Der exL exM[5] := by have := Der.step b2 b4 (n := 9) (by rw [d3]); rwa [d3] at this
 refine ⟨Z8G, fun q => ⟨fun hq => ?_, Z75 ZcH hs⟩, by decide⟩
 have hq : q = exM[0] ∨ q = exM[1] ∨ q = exM[2] ∨ q = exM[3] ∨ q = exM[4] ∨ q = exM[5] := by simpa [exM] using hq
 rcases hq with rfl | rfl | rfl | rfl | rfl | rfl <;> assumption
theorem ZdT : (ZQ exL).2 = 0 := Z9F (by decide) (fun q hq => ZcG q ((by decide +kernel : ∀ q ∈ exL, q ∈ exM) q hq)) Z9G
theorem Zgk : exQ ∈ exM := by decide +kernel
theorem Zg3 : setL Zm exL = exL := Zdz triQ Z9G
end Go.Our
