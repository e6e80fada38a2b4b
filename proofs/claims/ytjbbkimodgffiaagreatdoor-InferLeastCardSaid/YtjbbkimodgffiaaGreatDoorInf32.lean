/- Part 32: LawLeast. Conditions: as each part says. -/
import Derived.Test.YtjbbkimodgffiaaGreatDoorInf27
import Derived.Test.YtjbbkimodgffiaaGreatDoorInf30
import Derived.Test.YtjbbkimodgffiaaGreatDoorInf31
set_option linter.unusedVariables false
set_option linter.unusedSimpArgs false
set_option maxRecDepth 20000
set_option maxHeartbeats 8000000
namespace Go.Proofs.YtjbbkimodgffiaaGreatDoor
open Go.Sx Go.Our
theorem ZaV {n : Int} (h : n ≤ 1048576) : topM n = n := by unfold topM; rw [if_neg (by omega)]
theorem Zfh (n : Int) : topM n ≤ n := by unfold topM; split <;> omega
theorem ZcM {l m m' : List Qd} {a b : Int} (h : IsCl l a (some m)) (h' : IsCl l b (some m')) : m' = m := Wk triQ h'.1 h.1 fun q => (h'.2.1 q).trans (h.2.1 q).symm
theorem Zfi {l : List Qd} (hl : ∀ q ∈ l, QdSm q) {q : Qd} (h : Der l q) : QdSm q := by
 induction h with
 | base h => exact hl _ h
 | step _ _ h iha ihb => rw [(Xk h).2.2.2.2.2]; exact J9 iha ihb
theorem Zgm {l m : List Qd} {a : Int} (hl : WY l) (h : IsCl l a (some m)) : WY m := fun q hq => Zfi hl ((h.2.1 q).1 hq)
set_option maxHeartbeats 16000000 in
theorem Z5T (l other : List Qd) (most : Int) (hl : XQ l) (ho : XQ other) (hq : WY l) (hq2 : WY other) : Does Tryz.prog tab 9 2 [.sl (.loc 0) 0 16 l.length none, .sl (.loc 1) 0 16 other.length none, .int .i64 most] [] [(0, .rows 16 (l.map Z3)), (1, .rows 16 (other.map Z3))] (ValK 2 (.bool true)) := by
 unfold XQ at hl ho
 have t4 : topM 4096 = 4096 := ZaV (by decide)
 have hV := Um l [] none (by omega) hq
 have hC := fun most => X0 l [] none most (by omega) hq (by simp; omega)
 rw [List.append_nil] at hV
 simp only [List.append_nil] at hC
 refine Does.enter Z2 (g := 9) (fn := Tryz.f9) Tryz.call9 Tryz.func9 rfl 164 rfl rfl [.tmp 6] rfl ?_
 intro w0 F η0 h0
 conv => whnf
 repeat' ((first | refine CALL.value (Z7H) rfl rfl ?_ | refine AU ?_ | (refine IW (fun h => ?_) (fun h => ?_) <;> try (exfalso; omega))) <;> conv => whnf)
 refine CALL.aA [0] (hV) ?_
 rintro r O nx ⟨rfl, rfl, rfl⟩
 conv => whnf
 repeat' ((first | refine AU ?_ | (refine IW (fun h => ?_) (fun h => ?_) <;> try (exfalso; omega))) <;> conv => whnf)
 refine CALL.aA [0] (hC 4096) ?_
 rintro r O nx (⟨hv1, rfl, rfl, rfl⟩ | ⟨hv1, c1, hc1, (⟨rfl, rfl, rfl, rfl⟩ | ⟨s1, j1, rfl, hj1, rfl, rfl, rfl⟩)⟩)
 · conv => whnf
   repeat' ((first | refine AU ?_ | (refine IW (fun h => ?_) (fun h => ?_) <;> try (exfalso; omega))) <;> conv => whnf)
   all_goals exact FIN.valueK h0 rfl (congrArg SV.bool (by simp))
 · conv => whnf
   repeat' ((first | refine AU ?_ | (refine IW (fun h => ?_) (fun h => ?_) <;> try (exfalso; omega))) <;> conv => whnf)
   all_goals exact FIN.valueK h0 rfl (congrArg SV.bool (by simp))
 · rw [t4] at hc1
   have hs1 := hc1.2.2
   have hv2 := ZaS hv1 hc1 (by omega)
   have hm := Zgm hq hc1
   have hr1 := (Wn hv1).1
   have hls := Z16 (Z15 hr1) (Z5P hc1)
   have hD := WZ l [] none (by omega) hq (by simp; omega)
   rw [List.append_nil] at hD
   have hcl := Z3z hc1
   have hC2 := X0 s1 (List.replicate j1 Zv) (some s1.length) 4096 (by omega) hm (by simp; omega)
   have hD2 := WZ s1 (List.replicate j1 Zv) (some s1.length) (by omega) hm (by simp; omega)
   have hM := Un l [] s1 (List.replicate j1 Zv) none (some s1.length) (by simp; omega) (by unfold Z7I; omega)
   rw [UW ⟨Yw (Nat.le_refl 1) hr1, Yw (Nat.le_refl 1) hc1.1⟩, Z18 hr1 hc1.1 (Z5P hc1), List.append_nil] at hM
   conv => whnf
   repeat' ((first | refine AU ?_ | (refine IW (fun h => ?_) (fun h => ?_) <;> try (exfalso; omega))) <;> conv => whnf)
   refine CALL.aA [2] (hC2) ?_
   rintro r O nx (⟨hv3, _⟩ | ⟨-, c2, hc2, (⟨rfl, _⟩ | ⟨s2, j2, rfl, hj2, rfl, rfl, rfl⟩)⟩)
   · exact (hv3 hv2).elim
   · rw [t4] at hc2; cases ZN hc2 (Z3A hc1.1 hcl hc1.2.2)
   rw [t4] at hc2
   obtain rfl : s1 = s2 := by injection (ZN hc2 (Z3A hc1.1 hcl hc1.2.2)).symm
   have hS1 := YY (s1 ++ List.replicate j2 Zv) (s1 ++ List.replicate j1 Zv) 0 s1.length 0 s1.length (some s1.length) (some s1.length) (by simp) (by simp) (by simp; omega) (by simp; omega)
   rw [decide_eq_true (by simp)] at hS1
   have hS2 := YY (s1 ++ List.replicate j1 Zv) l 0 s1.length 0 l.length (some s1.length) none (by simp) (by simp) (by simp; omega) (by omega)
   rw [show decide (((s1 ++ List.replicate j1 Zv).drop 0).take s1.length = (l.drop 0).take l.length) = decide (s1 = l) by simp] at hS2
   conv => whnf
   repeat' ((first | refine AU ?_ | (refine IW (fun h => ?_) (fun h => ?_) <;> try (exfalso; omega))) <;> conv => whnf)
   refine CALL.aA [0, 2] (hM) ?_
   rintro r O nx ⟨rfl, rfl, rfl⟩
   conv => whnf
   repeat' ((first | refine AU ?_ | (refine IW (fun h => ?_) (fun h => ?_) <;> try (exfalso; omega))) <;> conv => whnf)
   all_goals try (exfalso; simp at h; done)
   refine CALL.aA [2] (hD2) ?_
   rintro r O nx ⟨b, hb, rfl, rfl, rfl⟩
   obtain rfl : b = true := hb.2 hcl
   conv => whnf
   repeat' ((first | refine AU ?_ | (refine IW (fun h => ?_) (fun h => ?_) <;> try (exfalso; omega))) <;> conv => whnf)
   refine CALL.aA [3, 2] (hS1) ?_
   rintro r O nx ⟨rfl, rfl, rfl⟩
   conv => whnf
   repeat' ((first | refine AU ?_ | (refine IW (fun h => ?_) (fun h => ?_) <;> try (exfalso; omega))) <;> conv => whnf)
   refine CALL.aA [0] (hD) ?_
   rintro r O nx ⟨b, hb2, rfl, rfl, rfl⟩
   conv => whnf
   repeat' ((first | refine AU ?_ | (refine IW (fun h => ?_) (fun h => ?_) <;> try (exfalso; omega))) <;> conv => whnf)
   refine CALL.aA [2, 0] (hS2) ?_
   rintro r O nx ⟨rfl, rfl, rfl⟩
   obtain rfl : b = decide (s1 = l) := by rw [Bool.eq_iff_iff, hb2, decide_eq_true_iff, Zff hr1 hc1]
   conv => whnf
   repeat' ((first | refine AU ?_ | (refine IW (fun h => ?_) (fun h => ?_) <;> try (exfalso; omega))) <;> conv => whnf)
   all_goals try (exfalso; simp at h; done)
   refine CALL.aA [0] (hC most) ?_
   rintro r O nx (⟨hv3, _⟩ | ⟨-, c3, hc3, (⟨rfl, rfl, rfl, rfl⟩ | ⟨s3, j3, rfl, hj3, rfl, rfl, rfl⟩)⟩)
   · exact (hv3 hv1).elim
   · have hgt : most < (s1.length : Int) := by
       rcases Int.lt_or_le most s1.length with h | h
       · exact h
       · cases ZN (ZcF (b := topM most) hc1 (by unfold topM; split <;> omega)) hc3
     conv => whnf
     repeat' ((first | refine AU ?_ | (refine IW (fun h => ?_) (fun h => ?_) <;> try (exfalso; omega))) <;> conv => whnf)
     have hT := WW (l ++ other) [] none (by rw [List.length_append]; omega)
     rw [List.append_nil] at hT
     have hmu := fun x => Vx (c := Zm) (l ++ other) x
     have hlu := Z14 (c := Zm) (l ++ other)
     rw [List.length_append] at hlu
     have hqu : WY (setL Zm (l ++ other)) := fun x hx => (List.mem_append.1 ((hmu x).1 hx)).elim (hq x) (hq2 x)
     generalize setL Zm (l ++ other) = u at *
     have hrow : List.take (0 + l.length) (List.take 0 [] ++ List.take l.length (List.drop 0 (l.map Z3))) ++ List.take other.length (List.drop 0 (other.map Z3)) = (l ++ other).map Z3 := by simp [List.take_of_length_le]
     rw [hrow, show (0 + l.length + other.length) = (l ++ other).length by simp]
     refine CALL.aA [7] (hT) ?_
     rintro r O nx ⟨j4, hj4, rfl, rfl, rfl⟩
     conv => whnf
     repeat' ((first | refine AU ?_ | (refine IW (fun h => ?_) (fun h => ?_) <;> try (exfalso; omega))) <;> conv => whnf)
     have hV5 := Um u (List.replicate j4 Zv) (some u.length) (by omega) hqu
     refine CALL.aA [8] (hV5) ?_
     rintro r O nx ⟨rfl, rfl, rfl⟩
     conv => whnf
     repeat' ((first | refine AU ?_ | (refine IW (fun h => ?_) (fun h => ?_) <;> try (exfalso; omega))) <;> conv => whnf)
     · exact FIN.valueK h0 rfl rfl
     have hvu := h
     have hC5 := X0 u (List.replicate j4 Zv) (some u.length) 4096 (by omega) hqu (by rw [List.length_append] at hj4 ⊢; rw [List.length_replicate]; omega)
     refine CALL.aA [8] (hC5) ?_
     rintro r O nx (⟨hv5, _⟩ | ⟨-, c5, hc5, (⟨rfl, rfl, rfl, rfl⟩ | ⟨s5, j5, rfl, hj5, rfl, rfl, rfl⟩)⟩)
     · exact (hv5 hvu).elim
     · conv => whnf
       repeat' ((first | refine AU ?_ | (refine IW (fun h => ?_) (fun h => ?_) <;> try (exfalso; omega))) <;> conv => whnf)
       all_goals exact FIN.valueK h0 rfl rfl
     rw [t4] at hc5
     have hs5 := hc5.2.2
     have hM5 := Un s1 (List.replicate j1 Zv) s5 (List.replicate j5 Zv) (some s1.length) (some s5.length) (by simp; omega) (by unfold Z7I; omega)
     rw [UW ⟨Yw (Nat.le_refl 1) hc1.1, Yw (Nat.le_refl 1) hc5.1⟩, Z18 hc1.1 hc5.1 (fun q hq' => (hc5.2.1 q).2 (Z7E (fun x hx => .base ((hmu x).2 (List.mem_append_left _ hx))) ((hc1.2.1 q).1 hq')))] at hM5
     conv => whnf
     repeat' ((first | refine AU ?_ | (refine IW (fun h => ?_) (fun h => ?_) <;> try (exfalso; omega))) <;> conv => whnf)
     refine CALL.aA [2, 9] (hM5) ?_
     rintro r O nx ⟨rfl, rfl, rfl⟩
     conv => whnf
     repeat' ((first | refine AU ?_ | (refine IW (fun h => ?_) (fun h => ?_) <;> try (exfalso; omega))) <;> conv => whnf)
     all_goals exact FIN.valueK h0 rfl rfl
   · obtain rfl : s1 = s3 := (ZcM hc1 hc3).symm
     have hle : (s1.length : Int) ≤ most := Int.le_trans hc3.2.2 (Zfh _)
     have hS3 := YY (s1 ++ List.replicate j3 Zv) (s1 ++ List.replicate j1 Zv) 0 s1.length 0 s1.length (some s1.length) (some s1.length) (by simp) (by simp) (by simp; omega) (by simp; omega)
     rw [decide_eq_true (by simp)] at hS3
     conv => whnf
     repeat' ((first | refine AU ?_ | (refine IW (fun h => ?_) (fun h => ?_) <;> try (exfalso; omega))) <;> conv => whnf)
     refine CALL.aA [5, 2] (hS3) ?_
     rintro r O nx ⟨rfl, rfl, rfl⟩
     conv => whnf
     repeat' ((first | refine AU ?_ | (refine IW (fun h => ?_) (fun h => ?_) <;> try (exfalso; omega))) <;> conv => whnf)
     have hT := WW (l ++ other) [] none (by rw [List.length_append]; omega)
     rw [List.append_nil] at hT
     have hmu := fun x => Vx (c := Zm) (l ++ other) x
     have hlu := Z14 (c := Zm) (l ++ other)
     rw [List.length_append] at hlu
     have hqu : WY (setL Zm (l ++ other)) := fun x hx => (List.mem_append.1 ((hmu x).1 hx)).elim (hq x) (hq2 x)
     generalize setL Zm (l ++ other) = u at *
     have hrow : List.take (0 + l.length) (List.take 0 [] ++ List.take l.length (List.drop 0 (l.map Z3))) ++ List.take other.length (List.drop 0 (other.map Z3)) = (l ++ other).map Z3 := by simp [List.take_of_length_le]
     rw [hrow, show (0 + l.length + other.length) = (l ++ other).length by simp]
     refine CALL.aA [8] (hT) ?_
     rintro r O nx ⟨j4, hj4, rfl, rfl, rfl⟩
     conv => whnf
     repeat' ((first | refine AU ?_ | (refine IW (fun h => ?_) (fun h => ?_) <;> try (exfalso; omega))) <;> conv => whnf)
     have hV5 := Um u (List.replicate j4 Zv) (some u.length) (by omega) hqu
     refine CALL.aA [9] (hV5) ?_
     rintro r O nx ⟨rfl, rfl, rfl⟩
     conv => whnf
     repeat' ((first | refine AU ?_ | (refine IW (fun h => ?_) (fun h => ?_) <;> try (exfalso; omega))) <;> conv => whnf)
     · exact FIN.valueK h0 rfl rfl
     have hvu := h
     have hC5 := X0 u (List.replicate j4 Zv) (some u.length) 4096 (by omega) hqu (by rw [List.length_append] at hj4 ⊢; rw [List.length_replicate]; omega)
     refine CALL.aA [9] (hC5) ?_
     rintro r O nx (⟨hv5, _⟩ | ⟨-, c5, hc5, (⟨rfl, rfl, rfl, rfl⟩ | ⟨s5, j5, rfl, hj5, rfl, rfl, rfl⟩)⟩)
     · exact (hv5 hvu).elim
     · conv => whnf
       repeat' ((first | refine AU ?_ | (refine IW (fun h => ?_) (fun h => ?_) <;> try (exfalso; omega))) <;> conv => whnf)
       all_goals exact FIN.valueK h0 rfl rfl
     rw [t4] at hc5
     have hs5 := hc5.2.2
     have hM5 := Un s1 (List.replicate j1 Zv) s5 (List.replicate j5 Zv) (some s1.length) (some s5.length) (by simp; omega) (by unfold Z7I; omega)
     rw [UW ⟨Yw (Nat.le_refl 1) hc1.1, Yw (Nat.le_refl 1) hc5.1⟩, Z18 hc1.1 hc5.1 (fun q hq' => (hc5.2.1 q).2 (Z7E (fun x hx => .base ((hmu x).2 (List.mem_append_left _ hx))) ((hc1.2.1 q).1 hq')))] at hM5
     conv => whnf
     repeat' ((first | refine AU ?_ | (refine IW (fun h => ?_) (fun h => ?_) <;> try (exfalso; omega))) <;> conv => whnf)
     refine CALL.aA [2, 10] (hM5) ?_
     rintro r O nx ⟨rfl, rfl, rfl⟩
     conv => whnf
     repeat' ((first | refine AU ?_ | (refine IW (fun h => ?_) (fun h => ?_) <;> try (exfalso; omega))) <;> conv => whnf)
     all_goals exact FIN.valueK h0 rfl rfl
end Go.Proofs.YtjbbkimodgffiaaGreatDoor
