/- Part 16: Term2, Valid7. Conditions: as each part says. -/
import Derived.Test.YtbfbokdccdagkaaGreatDoorIAp13
import Derived.Test.YtbfbokdccdagkaaGreatDoorIAp15
set_option linter.unusedVariables false
set_option linter.unusedSimpArgs false
set_option maxRecDepth 20000
set_option maxHeartbeats 8000000
namespace Go.Proofs.YtbfbokdccdagkaaGreatDoor
open Go.Sx Go.Our
theorem Z3j (k : Int) (t y l : List UInt8) (ht : Sm t) (hy : Sm y) (hl : Sm l) : Does Tryz.prog tab 160 0 [.agg [.int .i64 k, .str t, .str y, .str l]] [] [] (Val (.int .i64 (litM t y l))) := by
 refine Does.enter Z5 (g := 160) (fn := Tryz.f160) Tryz.call160 Tryz.func160 rfl 61 rfl rfl [.tmp 2] rfl ?_
 intro w0 F η0 h0
 conv => whnf
 repeat' ((first | refine CALL.value (VB _ ht) rfl rfl ?_ | refine CALL.value (VC _ hy) rfl rfl ?_ | refine CALL.value (Z8z _ (by omega)) rfl rfl ?_ | refine AU ?_ | (refine IW (fun h => ?_) (fun h => ?_) <;> try (exfalso; omega))) <;> conv => whnf)
 all_goals try
   (refine FIN.value h0 rfl (congrArg (SV.int _) ?_)
    by_cases hy0 : y = Y0
    · have hyb : (y == Y0) = true := by simp [hy0]
      unfold Y0 at hyb
      try rw [hyb] at h
      by_cases htg : tagP (Zl l) = true <;> by_cases hlw : Za l = l <;> by_cases hl0 : l = [] <;> simp_all [litM, Y0, orE] <;> omega
    · have hyb : (y == Y0) = false := by simp [hy0]
      unfold Y0 at hyb
      try rw [hyb] at h
      by_cases htg : tagP (Zl l) = true <;> by_cases hlw : Za l = l <;> by_cases hl0 : l = [] <;> simp_all [litM, Y0, orE] <;> omega)
 have htg : tagP (Zl l) = true := by
   cases h1 : tagP (Zl l) with
   | true => rfl
   | false => rw [h1] at h; simp at h
 refine LOOP.go Z5 [1] (X := Nat) (fun i => i ≤ l.length ∧ ∀ j : Nat, j < i → ¬ (65 ≤ Z7 l j ∧ Z7 l j ≤ 90)) (fun i => [(4, .int .i64 (i : Int))]) (fun i => [(0, .box [.int .i64 k, .str t, .str y, .str l])]) 1 (fun i => l.length - i) 0 ⟨by omega, fun j h => by omega⟩ ?_
 conv => whnf
 refine ⟨by exact GOES.cA h0, ?_⟩
 rintro i ⟨hi, hc⟩
 conv => whnf
 repeat' ((first | refine AU ?_ | (refine IW (fun h => ?_) (fun h => ?_) <;> try (exfalso; omega))) <;> conv => whnf)
 · have hlw : Za l ≠ l := Z9r (i := i) (by omega) h
   refine FIN.value h0 rfl (congrArg (SV.int _) ?_)
   simp_all [litM] <;> omega
 · refine ⟨i + 1, ⟨by omega, fun j hj => ?_⟩, by omega, ?_⟩
   · by_cases he : j = i
     · subst he; omega
     · exact hc j (by omega)
   · conv => whnf
     exact GOES.cA h0
 all_goals
   have hlw : Za l = l := Z6O fun j hj => hc j (by omega)
   refine FIN.value h0 rfl (congrArg (SV.int _) ?_)
   by_cases hy0 : y = Y0
   · have hyb : (y == Y0) = true := by simp [hy0]
     unfold Y0 at hyb
     try rw [hyb] at h
     by_cases hl0 : l = [] <;> simp_all [litM, Y0, orE] <;> omega
   · have hyb : (y == Y0) = false := by simp [hy0]
     unfold Y0 at hyb
     try rw [hyb] at h
     by_cases hl0 : l = [] <;> simp_all [litM, Y0, orE] <;> omega
theorem Vd (x : Tm) (hx : TmSm x) : Does Tryz.prog tab 130 0 [.agg [.int .i64 x.k, .str x.t, .str x.y, .str x.l]] [] [] (Val (.int .i64 (JT x))) := by
 obtain ⟨ht, hy, hl⟩ := hx
 obtain ⟨k, t, y, l⟩ := x
 dsimp only at ht hy hl ⊢
 refine Does.enter Z5 (g := 130) (fn := Tryz.f130) Tryz.call130 Tryz.func130 rfl 33 rfl rfl [.tmp 2] rfl ?_
 intro w0 F η0 h0
 conv => whnf
 repeat' ((first | refine CALL.value (Z3j _ _ _ _ ht hy hl) rfl rfl ?_ | refine CALL.value (VC _ ht) rfl rfl ?_ | refine CALL.value (Z4v _ (by omega)) rfl rfl ?_ | refine AU ?_ | (refine IW (fun h => ?_) (fun h => ?_) <;> try (exfalso; omega))) <;> conv => whnf)
 all_goals
   refine FIN.value h0 rfl (congrArg (SV.int _) ?_)
   have hle := Z9o t
   unfold JT
   first
     | (simp_all; done)
     | (simp_all <;> omega)
theorem Z1H (q : Qd) (hq : QdSm q) : Does Tryz.prog tab 104 0 [q.sv] [] [] (Val (.int .i64 (VA q))) := by
 obtain ⟨hs, hp, ho, hg⟩ := hq
 unfold Qd.sv
 refine Does.enter Z5 (g := 104) (fn := Tryz.f104) Tryz.call104 Tryz.func104 rfl 53 rfl rfl [.tmp 2] rfl ?_
 intro w0 F η0 h0
 conv => whnf
 repeat' ((first | refine CALL.value (Vd q.s hs) rfl rfl ?_ | refine CALL.value (Vd q.p hp) rfl rfl ?_ | refine CALL.value (Vd q.o ho) rfl rfl ?_ | refine CALL.value (Vd q.g hg) rfl rfl ?_ | refine AU ?_ | (refine IW (fun h => ?_) (fun h => ?_) <;> try (exfalso; omega))) <;> conv => whnf)
 all_goals
   refine FIN.value h0 rfl (congrArg (SV.int _) ?_)
   clear hs hp ho hg
   have hz : q.g = ZW ↔ q.g.k = 0 ∧ q.g.t = [] ∧ q.g.y = [] ∧ q.g.l = [] := by
     obtain ⟨s, p, o, g⟩ := q
     obtain ⟨k, t, y, l⟩ := g
     simp [ZW]
   unfold VA
   by_cases hgz : q.g = ZW
   · have := hz.1 hgz; simp_all
   · by_cases g1 : q.g.k = 1
     · simp_all
     · by_cases g2 : q.g.k = 2
       · simp_all
       · simp_all
end Go.Proofs.YtbfbokdccdagkaaGreatDoor
namespace Go.Proofs.YtbfbokdccdagkaaGreatDoor
open Go.Sx Go.Our
def Z4x : Plan := (YM [(0, 1), (1, 1), (2, 1), (3, 1), (5, 1), (6, 1), (7, 1), (4, 2), (8, 2), (9, 3), (10, 1)])
abbrev Wn (l : List Qd) : Prop := ∀ q ∈ l, QdSm q
theorem Z1I (l z : List Qd) (lim : Option Nat) (hl : l.length ≤ 1152921504606846976) (hq : Wn l) : Does Tryz.prog tab 28 1 [.sl (.loc 0) 0 16 l.length lim] [] [(0, .rows 16 ((l ++ z).map ZA))]
   (ValK 1 (.tup [.int .i64 ((J9 l).1 : Nat), .int .i64 (J9 l).2])) := by
 refine Does.enter Z5 (g := 28) (fn := Tryz.f28) Tryz.call28 Tryz.func28 rfl 43 rfl rfl [.tmp 2, .tmp 3] rfl ?_
 intro w0 F η0 h0
 conv => whnf
 refine IF.mk (fun h => ?_) (fun h => ?_)
 · have h : 1048576 < l.length := by simp at h; omega
   conv => whnf
   refine FIN.valueK h0 rfl ?_
   unfold J9; rw [if_pos h]; rfl
 have hbig : ¬ 1048576 < l.length := by simp at h; omega
 conv => whnf
 refine LOOP.go Z5 [0, 11, 12] (X := Nat) (fun i => i ≤ l.length ∧ badM l 0 = badM l i) (fun i => [(13, .int .i64 (i : Int))]) (fun i => []) 1 (fun i => l.length - i) 0 ⟨by omega, rfl⟩ ?_
 conv => whnf
 refine ⟨by exact GOES.cA h0, ?_⟩
 rintro i ⟨hi, hb⟩
 conv => whnf
 rcases Nat.lt_or_ge i l.length with hil | hil
 · have hqi := hq _ (List.getElem_mem hil)
   rw [Za1 hil] at hb
   repeat' ((first | (refine GET.at (row := ZA (l[i]'(by omega))) (by rw [show 0 + (i : Int).toNat = i by omega]; exact Xt (by omega)) ?_; conv => whnf) | refine CALL.value (Z1D (l[i]'(by omega)) hqi) rfl rfl ?_ | refine AU ?_ | (refine IW (fun h => ?_) (fun h => ?_) <;> try (exfalso; omega))) <;> conv => whnf)
   · refine FIN.valueK h0 rfl ?_
     unfold J9; rw [if_neg hbig, hb, if_pos h]
   · refine ⟨i + 1, ⟨by omega, by rw [hb, if_neg (by simpa using h)]⟩, by omega, ?_⟩
     conv => whnf
     exact GOES.cA h0
 · rw [Z8o hil] at hb
   repeat' ((first | refine AU ?_ | (refine IW (fun h => ?_) (fun h => ?_) <;> try (exfalso; omega))) <;> conv => whnf)
   refine LOOP.go Z5 [0] (X := Nat) (fun i => 1 ≤ i ∧ (i ≤ l.length ∨ i = 1) ∧ Z1y l 1 = Z1y l i) (fun i => [(7, .int .i64 (i : Int))]) (fun i => []) 1 (fun i => l.length - i) 1 ⟨by omega, by omega, rfl⟩ ?_
   conv => whnf
   refine ⟨by exact GOES.cA h0, ?_⟩
   rintro j ⟨hj1, hj, hf⟩
   conv => whnf
   rcases Nat.lt_or_ge j l.length with hjl | hjl
   · rw [Z8p hjl] at hf
     have hj' : (IntKind.i64.wrap ((j : Int) - 1)).toNat = j - 1 := by rw [Z9 (by omega) (by omega)]; omega
     repeat' ((first | refine DRAWN.of (id := 13) Z5 mixed Z4x (by kernel_rfl) ?_ | refine ADD.mk (fun _ _ => ?_) | refine AD ?_ | refine FORK.mk ?_ ?_ | (refine GET.at (row := ZA (l[j]'(by omega))) (by rw [show 0 + (j : Int).toNat = j by omega]; exact Xt (by omega)) ?_; conv => whnf) | (refine GET.at (row := ZA (l[j - 1]'(by omega))) (by rw [show 0 + (IntKind.i64.wrap ((j : Int) - 1)).toNat = j - 1 by omega]; exact Xt (by omega)) ?_; conv => whnf) | refine CALL.value (Z6A (l[j - 1]'(by omega)) (l[j]'(by omega))) rfl rfl ?_ | refine AU ?_ | (refine IW (fun h => ?_) (fun h => ?_) <;> try (exfalso; omega))) <;> conv => whnf)
     · refine FIN.valueK h0 rfl ?_
       unfold J9; rw [if_neg hbig, hb, hf, if_pos h]
     · refine ⟨j + 1, ⟨by omega, by omega, by rw [hf, if_neg (by omega)]⟩, by omega, ?_⟩
       conv => whnf
       exact GOES.cA h0
   · rw [Z69 hjl] at hf
     repeat' ((first | refine AU ?_ | (refine IW (fun h => ?_) (fun h => ?_) <;> try (exfalso; omega))) <;> conv => whnf)
     refine FIN.valueK h0 rfl ?_
     unfold J9; rw [if_neg hbig, hb, hf]; rfl
theorem WO (l z : List Qd) (lim : Option Nat) (hl : l.length ≤ 1152921504606846976) (hq : Wn l) : Does Tryz.prog tab 73 1 [.sl (.loc 0) 0 16 l.length lim] [] [(0, .rows 16 ((l ++ z).map ZA))]
   (ValK 1 (.tup [.int .i64 ((J9 l).1 : Nat), .int .i64 (J9 l).2])) := by
 refine Does.enter Z5 (g := 73) (fn := Tryz.f73) Tryz.call73 Tryz.func73 rfl 43 rfl rfl [.tmp 2, .tmp 3] rfl ?_
 intro w0 F η0 h0
 conv => whnf
 refine IF.mk (fun h => ?_) (fun h => ?_)
 · have h : 1048576 < l.length := by simp at h; omega
   conv => whnf
   refine FIN.valueK h0 rfl ?_
   unfold J9; rw [if_pos h]; rfl
 have hbig : ¬ 1048576 < l.length := by simp at h; omega
 conv => whnf
 refine LOOP.go Z5 [0] (X := Nat) (fun i => i ≤ l.length ∧ badM l 0 = badM l i) (fun i => [(4, .int .i64 (i : Int))]) (fun i => []) 1 (fun i => l.length - i) 0 ⟨by omega, rfl⟩ ?_
 conv => whnf
 refine ⟨by exact GOES.cA h0, ?_⟩
 rintro i ⟨hi, hb⟩
 conv => whnf
 rcases Nat.lt_or_ge i l.length with hil | hil
 · have hqi := hq _ (List.getElem_mem hil)
   rw [Za1 hil] at hb
   repeat' ((first | (refine GET.at (row := ZA (l[i]'(by omega))) (by rw [show 0 + (i : Int).toNat = i by omega]; exact Xt (by omega)) ?_; conv => whnf) | refine CALL.value (Z1H (l[i]'(by omega)) hqi) rfl rfl ?_ | refine AU ?_ | (refine IW (fun h => ?_) (fun h => ?_) <;> try (exfalso; omega))) <;> conv => whnf)
   · refine FIN.valueK h0 rfl ?_
     unfold J9; rw [if_neg hbig, hb, if_pos h]
   · refine ⟨i + 1, ⟨by omega, by rw [hb, if_neg (by simpa using h)]⟩, by omega, ?_⟩
     conv => whnf
     exact GOES.cA h0
 · rw [Z8o hil] at hb
   repeat' ((first | refine AU ?_ | (refine IW (fun h => ?_) (fun h => ?_) <;> try (exfalso; omega))) <;> conv => whnf)
   refine LOOP.go Z5 [0] (X := Nat) (fun i => 1 ≤ i ∧ (i ≤ l.length ∨ i = 1) ∧ Z1y l 1 = Z1y l i) (fun i => [(6, .int .i64 (i : Int))]) (fun i => []) 1 (fun i => l.length - i) 1 ⟨by omega, by omega, rfl⟩ ?_
   conv => whnf
   refine ⟨by exact GOES.cA h0, ?_⟩
   rintro j ⟨hj1, hj, hf⟩
   conv => whnf
   rcases Nat.lt_or_ge j l.length with hjl | hjl
   · rw [Z8p hjl] at hf
     have hj' : (IntKind.i64.wrap ((j : Int) - 1)).toNat = j - 1 := by rw [Z9 (by omega) (by omega)]; omega
     repeat' ((first | refine DRAWN.of (id := 12) Z5 mixed Z4x (by kernel_rfl) ?_ | refine ADD.mk (fun _ _ => ?_) | refine AD ?_ | refine FORK.mk ?_ ?_ | (refine GET.at (row := ZA (l[j]'(by omega))) (by rw [show 0 + (j : Int).toNat = j by omega]; exact Xt (by omega)) ?_; conv => whnf) | (refine GET.at (row := ZA (l[j - 1]'(by omega))) (by rw [show 0 + (IntKind.i64.wrap ((j : Int) - 1)).toNat = j - 1 by omega]; exact Xt (by omega)) ?_; conv => whnf) | refine CALL.value (Z55 (l[j - 1]'(by omega)) (l[j]'(by omega))) rfl rfl ?_ | refine AU ?_ | (refine IW (fun h => ?_) (fun h => ?_) <;> try (exfalso; omega))) <;> conv => whnf)
     · refine FIN.valueK h0 rfl ?_
       unfold J9; rw [if_neg hbig, hb, hf, if_pos h]
     · refine ⟨j + 1, ⟨by omega, by omega, by rw [hf, if_neg (by omega)]⟩, by omega, ?_⟩
       conv => whnf
       exact GOES.cA h0
   · rw [Z69 hjl] at hf
     repeat' ((first | refine AU ?_ | (refine IW (fun h => ?_) (fun h => ?_) <;> try (exfalso; omega))) <;> conv => whnf)
     refine FIN.valueK h0 rfl ?_
     unfold J9; rw [if_neg hbig, hb, hf]; rfl
end Go.Proofs.YtbfbokdccdagkaaGreatDoor
