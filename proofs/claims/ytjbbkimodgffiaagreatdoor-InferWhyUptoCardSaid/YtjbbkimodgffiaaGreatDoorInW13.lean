/- Part 13: Term2, Valid7. Conditions: as each part says. -/
import Derived.Test.YtjbbkimodgffiaaGreatDoorInW11
import Derived.Test.YtjbbkimodgffiaaGreatDoorInW12
set_option linter.unusedVariables false
set_option linter.unusedSimpArgs false
set_option maxRecDepth 20000
set_option maxHeartbeats 8000000
namespace Go.Proofs.YtjbbkimodgffiaaGreatDoor
open Go.Sx Go.Our
theorem Z4U (k : Int) (t y l : List UInt8) (ht : Sm t) (hy : Sm y) (hl : Sm l) : Does Tryz.prog tab 107 0 [.agg [.int .i64 k, .str t, .str y, .str l]] [] [] (Val (.int .i64 (litM t y l))) := by
 refine Does.enter Z2 (g := 107) (fn := Tryz.f107) Tryz.call107 Tryz.func107 rfl 61 rfl rfl [.tmp 2] rfl ?_
 intro w0 F η0 h0
 conv => whnf
 repeat' ((first | refine CALL.value (Uv _ ht) rfl rfl ?_ | refine CALL.value (Uw _ hy) rfl rfl ?_ | refine CALL.value (ZbB _ (by omega)) rfl rfl ?_ | refine AU ?_ | (refine IW (fun h => ?_) (fun h => ?_) <;> try (exfalso; omega))) <;> conv => whnf)
 all_goals try
   (refine FIN.value h0 rfl (congrArg (SV.int _) ?_)
    by_cases hy0 : y = Ya
    · have hyb : (y == Ya) = true := by simp [hy0]
      unfold Ya at hyb
      try rw [hyb] at h
      by_cases htg : tagP (Zr l) = true <;> by_cases hlw : Zd l = l <;> by_cases hl0 : l = [] <;> simp_all [litM, Ya, orE] <;> omega
    · have hyb : (y == Ya) = false := by simp [hy0]
      unfold Ya at hyb
      try rw [hyb] at h
      by_cases htg : tagP (Zr l) = true <;> by_cases hlw : Zd l = l <;> by_cases hl0 : l = [] <;> simp_all [litM, Ya, orE] <;> omega)
 have htg : tagP (Zr l) = true := by
   cases h1 : tagP (Zr l) with
   | true => rfl
   | false => rw [h1] at h; simp at h
 refine LOOP.go Z2 [1] (X := Nat) (fun i => i ≤ l.length ∧ ∀ j : Nat, j < i → ¬ (65 ≤ Z4 l j ∧ Z4 l j ≤ 90)) (fun i => [(4, .int .i64 (i : Int))]) (fun i => [(0, .box [.int .i64 k, .str t, .str y, .str l])]) 1 (fun i => l.length - i) 0 ⟨by omega, fun j h => by omega⟩ ?_
 conv => whnf
 refine ⟨by exact GOES.cA h0, ?_⟩
 rintro i ⟨hi, hc⟩
 conv => whnf
 repeat' ((first | refine AU ?_ | (refine IW (fun h => ?_) (fun h => ?_) <;> try (exfalso; omega))) <;> conv => whnf)
 · have hlw : Zd l ≠ l := ZcD (i := i) (by omega) h
   refine FIN.value h0 rfl (congrArg (SV.int _) ?_)
   simp_all [litM] <;> omega
 · refine ⟨i + 1, ⟨by omega, fun j hj => ?_⟩, by omega, ?_⟩
   · by_cases he : j = i
     · subst he; omega
     · exact hc j (by omega)
   · conv => whnf
     exact GOES.cA h0
 all_goals
   have hlw : Zd l = l := Z9u fun j hj => hc j (by omega)
   refine FIN.value h0 rfl (congrArg (SV.int _) ?_)
   by_cases hy0 : y = Ya
   · have hyb : (y == Ya) = true := by simp [hy0]
     unfold Ya at hyb
     try rw [hyb] at h
     by_cases hl0 : l = [] <;> simp_all [litM, Ya, orE] <;> omega
   · have hyb : (y == Ya) = false := by simp [hy0]
     unfold Ya at hyb
     try rw [hyb] at h
     by_cases hl0 : l = [] <;> simp_all [litM, Ya, orE] <;> omega
theorem U7 (x : Tm) (hx : TmSm x) : Does Tryz.prog tab 69 0 [.agg [.int .i64 x.k, .str x.t, .str x.y, .str x.l]] [] [] (Val (.int .i64 (VA x))) := by
 obtain ⟨ht, hy, hl⟩ := hx
 obtain ⟨k, t, y, l⟩ := x
 dsimp only at ht hy hl ⊢
 refine Does.enter Z2 (g := 69) (fn := Tryz.f69) Tryz.call69 Tryz.func69 rfl 33 rfl rfl [.tmp 2] rfl ?_
 intro w0 F η0 h0
 conv => whnf
 repeat' ((first | refine CALL.value (Z4U _ _ _ _ ht hy hl) rfl rfl ?_ | refine CALL.value (Uw _ ht) rfl rfl ?_ | refine CALL.value (Z6p _ (by omega)) rfl rfl ?_ | refine AU ?_ | (refine IW (fun h => ?_) (fun h => ?_) <;> try (exfalso; omega))) <;> conv => whnf)
 all_goals
   refine FIN.value h0 rfl (congrArg (SV.int _) ?_)
   have hle := ZcA t
   unfold VA
   first
     | (simp_all; done)
     | (simp_all <;> omega)
theorem XD (q : Qd) (hq : QdSm q) : Does Tryz.prog tab 41 0 [q.sv] [] [] (Val (.int .i64 (Zx q))) := by
 obtain ⟨hs, hp, ho, hg⟩ := hq
 unfold Qd.sv
 refine Does.enter Z2 (g := 41) (fn := Tryz.f41) Tryz.call41 Tryz.func41 rfl 53 rfl rfl [.tmp 2] rfl ?_
 intro w0 F η0 h0
 conv => whnf
 repeat' ((first | refine CALL.value (U7 q.s hs) rfl rfl ?_ | refine CALL.value (U7 q.p hp) rfl rfl ?_ | refine CALL.value (U7 q.o ho) rfl rfl ?_ | refine CALL.value (U7 q.g hg) rfl rfl ?_ | refine AU ?_ | (refine IW (fun h => ?_) (fun h => ?_) <;> try (exfalso; omega))) <;> conv => whnf)
 all_goals
   refine FIN.value h0 rfl (congrArg (SV.int _) ?_)
   clear hs hp ho hg
   have hz : q.g = Zy ↔ q.g.k = 0 ∧ q.g.t = [] ∧ q.g.y = [] ∧ q.g.l = [] := by
     obtain ⟨s, p, o, g⟩ := q
     obtain ⟨k, t, y, l⟩ := g
     simp [Zy]
   unfold Zx
   by_cases hgz : q.g = Zy
   · have := hz.1 hgz; simp_all
   · by_cases g1 : q.g.k = 1
     · simp_all
     · by_cases g2 : q.g.k = 2
       · simp_all
       · simp_all
end Go.Proofs.YtjbbkimodgffiaaGreatDoor
namespace Go.Proofs.YtjbbkimodgffiaaGreatDoor
open Go.Sx Go.Our
def Z6K : Plan := (Zj [(0, 1), (1, 1), (2, 1), (3, 1), (5, 1), (6, 1), (7, 1), (4, 2), (8, 2), (9, 3), (10, 1)])
abbrev Z6L (l : List Qd) : Prop := ∀ q ∈ l, QdSm q
theorem Z7L (l z : List Qd) (lim : Option Nat) (hl : l.length ≤ 1152921504606846976) (hq : Z6L l) : Does Tryz.prog tab 32 1 [.sl (.loc 0) 0 16 l.length lim] [] [(0, .rows 16 ((l ++ z).map Zf))]
   (ValK 1 (.tup [.int .i64 ((ZZ l).1 : Nat), .int .i64 (ZZ l).2])) := by
 refine Does.enter Z2 (g := 32) (fn := Tryz.f32) Tryz.call32 Tryz.func32 rfl 43 rfl rfl [.tmp 2, .tmp 3] rfl ?_
 intro w0 F η0 h0
 conv => whnf
 refine IF.mk (fun h => ?_) (fun h => ?_)
 · have h : 1048576 < l.length := by simp at h; omega
   conv => whnf
   refine FIN.valueK h0 rfl ?_
   unfold ZZ; rw [if_pos h]; rfl
 have hbig : ¬ 1048576 < l.length := by simp at h; omega
 conv => whnf
 refine LOOP.go Z2 [0, 11, 12] (X := Nat) (fun i => i ≤ l.length ∧ badM l 0 = badM l i) (fun i => [(13, .int .i64 (i : Int))]) (fun i => []) 1 (fun i => l.length - i) 0 ⟨by omega, rfl⟩ ?_
 conv => whnf
 refine ⟨by exact GOES.cA h0, ?_⟩
 rintro i ⟨hi, hb⟩
 conv => whnf
 rcases Nat.lt_or_ge i l.length with hil | hil
 · have hqi := hq _ (List.getElem_mem hil)
   rw [ZbL hil] at hb
   repeat' ((first | (refine GET.at (row := Zf (l[i]'(by omega))) (by rw [show 0 + (i : Int).toNat = i by omega]; exact YW (by omega)) ?_; conv => whnf) | refine CALL.value (Uy (l[i]'(by omega)) hqi) rfl rfl ?_ | refine AU ?_ | (refine IW (fun h => ?_) (fun h => ?_) <;> try (exfalso; omega))) <;> conv => whnf)
   · refine FIN.valueK h0 rfl ?_
     unfold ZZ; rw [if_neg hbig, hb, if_pos h]
   · refine ⟨i + 1, ⟨by omega, by rw [hb, if_neg (by simpa using h)]⟩, by omega, ?_⟩
     conv => whnf
     exact GOES.cA h0
 · rw [Z7J hil] at hb
   repeat' ((first | refine AU ?_ | (refine IW (fun h => ?_) (fun h => ?_) <;> try (exfalso; omega))) <;> conv => whnf)
   refine LOOP.go Z2 [0] (X := Nat) (fun i => 1 ≤ i ∧ (i ≤ l.length ∨ i = 1) ∧ Z0D l 1 = Z0D l i) (fun i => [(7, .int .i64 (i : Int))]) (fun i => []) 1 (fun i => l.length - i) 1 ⟨by omega, by omega, rfl⟩ ?_
   conv => whnf
   refine ⟨by exact GOES.cA h0, ?_⟩
   rintro j ⟨hj1, hj, hf⟩
   conv => whnf
   rcases Nat.lt_or_ge j l.length with hjl | hjl
   · rw [Z7K hjl] at hf
     have hj' : (IntKind.i64.wrap ((j : Int) - 1)).toNat = j - 1 := by rw [Z5 (by omega) (by omega)]; omega
     repeat' ((first | refine DRAWN.of (id := 13) Z2 Z8 Z6K (by kernel_rfl) ?_ | refine ADD.mk (fun _ _ => ?_) | refine AD ?_ | refine FORK.mk ?_ ?_ | (refine GET.at (row := Zf (l[j]'(by omega))) (by rw [show 0 + (j : Int).toNat = j by omega]; exact YW (by omega)) ?_; conv => whnf) | (refine GET.at (row := Zf (l[j - 1]'(by omega))) (by rw [show 0 + (IntKind.i64.wrap ((j : Int) - 1)).toNat = j - 1 by omega]; exact YW (by omega)) ?_; conv => whnf) | refine CALL.value (Z0x (l[j - 1]'(by omega)) (l[j]'(by omega))) rfl rfl ?_ | refine AU ?_ | (refine IW (fun h => ?_) (fun h => ?_) <;> try (exfalso; omega))) <;> conv => whnf)
     · refine FIN.valueK h0 rfl ?_
       unfold ZZ; rw [if_neg hbig, hb, hf, if_pos h]
     · refine ⟨j + 1, ⟨by omega, by omega, by rw [hf, if_neg (by omega)]⟩, by omega, ?_⟩
       conv => whnf
       exact GOES.cA h0
   · rw [Z8S hjl] at hf
     repeat' ((first | refine AU ?_ | (refine IW (fun h => ?_) (fun h => ?_) <;> try (exfalso; omega))) <;> conv => whnf)
     refine FIN.valueK h0 rfl ?_
     unfold ZZ; rw [if_neg hbig, hb, hf]; rfl
theorem Z6M (l z : List Qd) (lim : Option Nat) (hl : l.length ≤ 1152921504606846976) (hq : Z6L l) : Does Tryz.prog tab 15 1 [.sl (.loc 0) 0 16 l.length lim] [] [(0, .rows 16 ((l ++ z).map Zf))]
   (ValK 1 (.tup [.int .i64 ((ZZ l).1 : Nat), .int .i64 (ZZ l).2])) := by
 refine Does.enter Z2 (g := 15) (fn := Tryz.f15) Tryz.call15 Tryz.func15 rfl 43 rfl rfl [.tmp 2, .tmp 3] rfl ?_
 intro w0 F η0 h0
 conv => whnf
 refine IF.mk (fun h => ?_) (fun h => ?_)
 · have h : 1048576 < l.length := by simp at h; omega
   conv => whnf
   refine FIN.valueK h0 rfl ?_
   unfold ZZ; rw [if_pos h]; rfl
 have hbig : ¬ 1048576 < l.length := by simp at h; omega
 conv => whnf
 refine LOOP.go Z2 [0] (X := Nat) (fun i => i ≤ l.length ∧ badM l 0 = badM l i) (fun i => [(4, .int .i64 (i : Int))]) (fun i => []) 1 (fun i => l.length - i) 0 ⟨by omega, rfl⟩ ?_
 conv => whnf
 refine ⟨by exact GOES.cA h0, ?_⟩
 rintro i ⟨hi, hb⟩
 conv => whnf
 rcases Nat.lt_or_ge i l.length with hil | hil
 · have hqi := hq _ (List.getElem_mem hil)
   rw [ZbL hil] at hb
   repeat' ((first | (refine GET.at (row := Zf (l[i]'(by omega))) (by rw [show 0 + (i : Int).toNat = i by omega]; exact YW (by omega)) ?_; conv => whnf) | refine CALL.value (XD (l[i]'(by omega)) hqi) rfl rfl ?_ | refine AU ?_ | (refine IW (fun h => ?_) (fun h => ?_) <;> try (exfalso; omega))) <;> conv => whnf)
   · refine FIN.valueK h0 rfl ?_
     unfold ZZ; rw [if_neg hbig, hb, if_pos h]
   · refine ⟨i + 1, ⟨by omega, by rw [hb, if_neg (by simpa using h)]⟩, by omega, ?_⟩
     conv => whnf
     exact GOES.cA h0
 · rw [Z7J hil] at hb
   repeat' ((first | refine AU ?_ | (refine IW (fun h => ?_) (fun h => ?_) <;> try (exfalso; omega))) <;> conv => whnf)
   refine LOOP.go Z2 [0] (X := Nat) (fun i => 1 ≤ i ∧ (i ≤ l.length ∨ i = 1) ∧ Z0D l 1 = Z0D l i) (fun i => [(6, .int .i64 (i : Int))]) (fun i => []) 1 (fun i => l.length - i) 1 ⟨by omega, by omega, rfl⟩ ?_
   conv => whnf
   refine ⟨by exact GOES.cA h0, ?_⟩
   rintro j ⟨hj1, hj, hf⟩
   conv => whnf
   rcases Nat.lt_or_ge j l.length with hjl | hjl
   · rw [Z7K hjl] at hf
     have hj' : (IntKind.i64.wrap ((j : Int) - 1)).toNat = j - 1 := by rw [Z5 (by omega) (by omega)]; omega
     repeat' ((first | refine DRAWN.of (id := 12) Z2 Z8 Z6K (by kernel_rfl) ?_ | refine ADD.mk (fun _ _ => ?_) | refine AD ?_ | refine FORK.mk ?_ ?_ | (refine GET.at (row := Zf (l[j]'(by omega))) (by rw [show 0 + (j : Int).toNat = j by omega]; exact YW (by omega)) ?_; conv => whnf) | (refine GET.at (row := Zf (l[j - 1]'(by omega))) (by rw [show 0 + (IntKind.i64.wrap ((j : Int) - 1)).toNat = j - 1 by omega]; exact YW (by omega)) ?_; conv => whnf) | refine CALL.value (Xf (l[j - 1]'(by omega)) (l[j]'(by omega))) rfl rfl ?_ | refine AU ?_ | (refine IW (fun h => ?_) (fun h => ?_) <;> try (exfalso; omega))) <;> conv => whnf)
     · refine FIN.valueK h0 rfl ?_
       unfold ZZ; rw [if_neg hbig, hb, hf, if_pos h]
     · refine ⟨j + 1, ⟨by omega, by omega, by rw [hf, if_neg (by omega)]⟩, by omega, ?_⟩
       conv => whnf
       exact GOES.cA h0
   · rw [Z8S hjl] at hf
     repeat' ((first | refine AU ?_ | (refine IW (fun h => ?_) (fun h => ?_) <;> try (exfalso; omega))) <;> conv => whnf)
     refine FIN.valueK h0 rfl ?_
     unfold ZZ; rw [if_neg hbig, hb, hf]; rfl
theorem Z39 (l z : List Qd) (hl : Wx l) (hq : Z6L l) : Does Tryz.prog tab 15 1 [.sl (.loc 0) 0 16 l.length none] [] [(0, .rows 16 ((l ++ z).map Zf))] (ValK 1 (.tup [.int .i64 ((ZZ l).1 : Nat), .int .i64 (ZZ l).2])) := Z6M l z none (by unfold Wx at hl; omega) hq
end Go.Proofs.YtjbbkimodgffiaaGreatDoor
