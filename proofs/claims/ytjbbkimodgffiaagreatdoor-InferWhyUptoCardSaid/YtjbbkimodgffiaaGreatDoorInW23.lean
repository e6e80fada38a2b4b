/- Part 23: RAll. Conditions: as each part says. -/
import Derived.Test.YtjbbkimodgffiaaGreatDoorInW15
import Derived.Test.YtjbbkimodgffiaaGreatDoorInW22
set_option linter.unusedVariables false
set_option linter.unusedSimpArgs false
set_option maxRecDepth 20000
set_option maxHeartbeats 8000000
namespace Go.Proofs.YtjbbkimodgffiaaGreatDoor
open Go.Sx Go.Our
theorem Zd5 {a b c : List Qd} (h : ObIn a b) (h' : ObIn b c) : ObIn a c := fun q hq => by
 obtain ⟨t, ht, e⟩ := h' q hq
 obtain ⟨u, hu, e'⟩ := h t ht
 exact ⟨u, hu, e.trans e'⟩
theorem Zev {l : List Qd} (hl : ∀ q ∈ l, QdSm q) {q : Qd} (h : Der l q) : QdSm q := by
 induction h with
 | base h => exact hl _ h
 | step _ _ h iha ihb => rw [(Jo h).2.2.2.2.2]; exact XX iha ihb
theorem ZdD {base m out : List Qd} (h : DrIn m out) (ho : ObIn base m) (hm : m.length ≤ 1048576) (hb : base.length ≤ 65536) : out.length ≤ 274877906944 := by
 have := Z8O h ho
 have h1 : m.length * (base.length * 4) ≤ 1048576 * (65536 * 4) := Nat.mul_le_mul hm (by omega)
 omega
set_option maxHeartbeats 8000000 in
theorem ZbR (base l z : List Qd) (lim : Option Nat) (most : Int) (hr : Rise Zw l) (hS : ∀ q ∈ l, QdSm q) (ho : ObIn base l) (hb : base.length ≤ 65536) (hm : most ≤ 1048576) (hz : (l ++ z).length ≤ 1152921504606846976) : Does Tryz.prog tab 40 1 [.sl (.loc 0) 0 16 l.length lim, .int .i64 most] [] [(0, .rows 16 ((l ++ z).map Zf))]
   (fun r O nx => ∃ c, IsCl l most c ∧ ((c = none ∧ r = .tup [.val (.slice none 0 0), .bool false] ∧ O = [] ∧ nx = 1) ∨ (c = some l ∧ r = .tup [.sl (.loc 0) 0 16 l.length lim, .bool true] ∧ O = [] ∧ nx = 1) ∨
     ∃ m, c = some m ∧ r = .tup [.sl (.loc 1) 0 16 m.length none, .bool true] ∧ O = [(1, .rows 16 (m.map Zf))] ∧ nx = 2)) := by
 refine Does.enter Z2 (g := 40) (fn := Tryz.f40) Tryz.call40 Tryz.func40 rfl 23 rfl rfl [.tmp 4, .tmp 5] rfl ?_
 intro w0 F η0 h0
 conv => whnf
 repeat' ((first | refine AU ?_ | (refine IW (fun h => ?_) (fun h => ?_) <;> try (exfalso; omega))) <;> conv => whnf)
 refine LOOP.once Z2 ?_
 conv => whnf
 repeat' ((first | refine ADD.mk (fun _ _ => ?_) | refine AD ?_ | refine FORK.mk ?_ ?_ | refine AU ?_ | (refine IW (fun h => ?_) (fun h => ?_) <;> try (exfalso; omega))) <;> conv => whnf)
 case' refine_2 =>
   refine FIN.aA h0 [] (.tup [.val (.slice none 0 0), .bool false]) [] ?_
   exact ⟨none, Z6C (Z37 hr) h, .inl ⟨rfl, rfl, rfl, rfl⟩⟩
 have hlm := h
 have hd := Z3c base l z lim hS ho (by omega) hb hz
 refine CALL.aA [0] (hd) ?_
 rintro r O nx ⟨out, ho1, rfl, rfl, rfl⟩
 conv => whnf
 repeat' ((first | refine ADD.mk (fun _ _ => ?_) | refine AD ?_ | refine FORK.mk ?_ ?_ | refine AU ?_ | (refine IW (fun h => ?_) (fun h => ?_) <;> try (exfalso; omega))) <;> conv => whnf)
 · have he : out = [] := List.eq_nil_of_length_eq_zero (by omega)
   subst he
   refine FIN.aA h0 [] (.tup [.sl (.loc 0) 0 16 l.length lim, .bool true]) [] ?_
   exact ⟨some l, Z8P (Z37 hr) ho1 hlm, .inr (.inl ⟨rfl, rfl, rfl, rfl⟩)⟩
 have hol := ZdD ho1.toDrIn ho (by omega) hb
 refine NEED.mk ⟨(by rw [Z6 _ (Zc out)]; simp), (by simp), (by omega), (Z1n (b := 224) (by omega))⟩ ?_
 conv => whnf
 repeat' ((first | refine ADD.mk (fun _ _ => ?_) | refine AD ?_ | refine FORK.mk ?_ ?_ | refine AU ?_ | (refine IW (fun h => ?_) (fun h => ?_) <;> try (exfalso; omega))) <;> conv => whnf)
 have hs := Uc (l ++ out) (by rw [List.length_append]; omega) (0 + l.length + out.length) (0 + l.length + out.length) 0 (by omega) (by rw [List.length_append]; omega)
 have hrow : List.take (0 + l.length) (List.take 0 [] ++ List.take l.length (List.drop 0 ((l ++ z).map Zf))) ++ List.take out.length (List.drop 0 (X5 (ZS [0] 1) (out.map Zf))) = (l ++ out).map Zf := by
   rw [Z6 _ (Zc out)]; simp [List.take_of_length_le]
 rw [hrow]
 refine CALL.aA [4] (hs) ?_
 rintro r O nx ⟨rfl, rfl, rfl⟩
 rw [List.drop_zero, List.take_of_length_le (by rw [List.length_append]; omega), UC triQ _ _ (Nat.le_refl _)]
 conv => whnf
 have hI0 : RInv l (setL Zw (l ++ out)) := Z6B (Z37 hr) ho1.toDrIn
 have hL0 : (setL Zw (l ++ out)).length ≤ 549755813888 := by have := Z4X (c := Zw) (l ++ out); rw [List.length_append] at this; omega
 clear hrow hs hd ho1 hol
 refine LOOP.gok Z2 [1] [] (X := List Qd) (fun m => RInv l m ∧ m.length ≤ 549755813888) (fun m => [(0, .sl (.loc 1) 0 16 m.length none)]) (fun m => [(1, .rows 16 (m.map Zf))]) 2 (fun m => most.toNat + 1 - m.length) (setL Zw (l ++ out)) ⟨hI0, hL0⟩ ?_
 conv => whnf
 refine ⟨by exact GOES.kA h0 [5], ?_⟩
 clear hI0 hL0
 rintro m ⟨hI, hL⟩
 conv => whnf
 repeat' ((first | refine ADD.mk (fun _ _ => ?_) | refine AD ?_ | refine FORK.mk ?_ ?_ | refine AU ?_ | (refine IW (fun h => ?_) (fun h => ?_) <;> try (exfalso; omega))) <;> conv => whnf)
 case' refine_2 =>
   refine FIN.aA h0 [] (.tup [.val (.slice none 0 0), .bool false]) [] ?_
   exact ⟨none, Z6C hI h, .inl ⟨rfl, rfl, rfl, rfl⟩⟩
 have hmm := h
 have hom := Zd5 ho hI.ob
 have hSm : ∀ q ∈ m, QdSm q := fun q hq => Zev hS (hI.der q hq)
 have hd := Z3c base m [] none hSm hom (by omega) hb (by simp; omega)
 rw [List.append_nil] at hd
 refine CALL.aA [1] (hd) ?_
 rintro r O nx ⟨out, ho1, rfl, rfl, rfl⟩
 conv => whnf
 repeat' ((first | refine ADD.mk (fun _ _ => ?_) | refine AD ?_ | refine FORK.mk ?_ ?_ | refine AU ?_ | (refine IW (fun h => ?_) (fun h => ?_) <;> try (exfalso; omega))) <;> conv => whnf)
 · have he : out = [] := List.eq_nil_of_length_eq_zero (by omega)
   subst he
   refine FIN.aA h0 [1] (.tup [.sl (.loc 1) 0 16 m.length none, .bool true]) [(1, .rows 16 (m.map Zf))] ?_
   exact ⟨some m, Z8P hI ho1 hmm, .inr (.inr ⟨m, rfl, rfl, rfl, rfl⟩)⟩
 have hne : out ≠ [] := fun e => by subst e; simp at h
 have hol := ZdD ho1.toDrIn hom (by omega) hb
 refine NEED.mk ⟨(by rw [Z6 _ (Zc out)]; simp), (by simp), (by omega), (Z1n (b := 224) (by omega))⟩ ?_
 conv => whnf
 repeat' ((first | refine ADD.mk (fun _ _ => ?_) | refine AD ?_ | refine FORK.mk ?_ ?_ | refine AU ?_ | (refine IW (fun h => ?_) (fun h => ?_) <;> try (exfalso; omega))) <;> conv => whnf)
 have hs := Uc (m ++ out) (by rw [List.length_append]; omega) (0 + m.length + out.length) (0 + m.length + out.length) 0 (by omega) (by rw [List.length_append]; omega)
 have hrow : List.take (0 + m.length) (List.take 0 [] ++ List.take m.length (List.drop 0 (m.map Zf))) ++ List.take out.length (List.drop 0 (X5 (ZS [1] 2) (out.map Zf))) = (m ++ out).map Zf := by
   rw [Z6 _ (Zc out)]; simp [List.take_of_length_le]
 rw [hrow]
 refine CALL.aA [5] (hs) ?_
 rintro r O nx ⟨rfl, rfl, rfl⟩
 rw [List.drop_zero, List.take_of_length_le (by rw [List.length_append]; omega), UC triQ _ _ (Nat.le_refl _)]
 conv => whnf
 refine ⟨setL Zw (m ++ out), ⟨Z6B hI ho1.toDrIn, ?_⟩, ?_, ?_⟩
 · have := Z4X (c := Zw) (m ++ out); rw [List.length_append] at this; omega
 · have := ZcX hI ho1.toDrIn hne; omega
 conv => whnf
 exact GOES.kA h0 [6]
end Go.Proofs.YtjbbkimodgffiaaGreatDoor
