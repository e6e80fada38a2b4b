/- Part 19: Term2, Valid7. Conditions: as each part says. -/
import Derived.Test.YtbfbokdccdagkaaGreatDoorICh16
import Derived.Test.YtbfbokdccdagkaaGreatDoorICh18
set_option linter.unusedVariables false
set_option linter.unusedSimpArgs false
set_option maxRecDepth 20000
set_option maxHeartbeats 8000000
namespace Go.Proofs.YtbfbokdccdagkaaGreatDoor
open Go.Sx Go.Our
theorem Z45 (k : Int) (t y l : List UInt8) (ht : Sm t) (hy : Sm y) (hl : Sm l) : Does Tryz.prog tab 160 0 [.agg [.int .i64 k, .str t, .str y, .str l]] [] [] (Val (.int .i64 (litM t y l))) := by
 refine Does.enter Z3 (g := 160) (fn := Tryz.f160) Tryz.call160 Tryz.func160 rfl 61 rfl rfl [.tmp 2] rfl ?_
 intro w0 F η0 h0
 conv => whnf
 repeat' ((first | refine CALL.value (VW _ ht) rfl rfl ?_ | refine CALL.value (VX _ hy) rfl rfl ?_ | refine CALL.value (Z9w _ (by omega)) rfl rfl ?_ | refine AU ?_ | (refine IW (fun h => ?_) (fun h => ?_) <;> try (exfalso; omega))) <;> conv => whnf)
 all_goals try
   (refine FIN.value h0 rfl (congrArg (SV.int _) ?_)
    by_cases hy0 : y = Y9
    · have hyb : (y == Y9) = true := by simp [hy0]
      unfold Y9 at hyb
      try rw [hyb] at h
      by_cases htg : tagP (Zu l) = true <;> by_cases hlw : Zd l = l <;> by_cases hl0 : l = [] <;> simp_all [litM, Y9, orE] <;> omega
    · have hyb : (y == Y9) = false := by simp [hy0]
      unfold Y9 at hyb
      try rw [hyb] at h
      by_cases htg : tagP (Zu l) = true <;> by_cases hlw : Zd l = l <;> by_cases hl0 : l = [] <;> simp_all [litM, Y9, orE] <;> omega)
 have htg : tagP (Zu l) = true := by
   cases h1 : tagP (Zu l) with
   | true => rfl
   | false => rw [h1] at h; simp at h
 refine LOOP.go Z3 [1] (X := Nat) (fun i => i ≤ l.length ∧ ∀ j : Nat, j < i → ¬ (65 ≤ Z9 l j ∧ Z9 l j ≤ 90)) (fun i => [(4, .int .i64 (i : Int))]) (fun i => [(0, .box [.int .i64 k, .str t, .str y, .str l])]) 1 (fun i => l.length - i) 0 ⟨by omega, fun j h => by omega⟩ ?_
 conv => whnf
 refine ⟨by exact GOES.cA h0, ?_⟩
 rintro i ⟨hi, hc⟩
 conv => whnf
 repeat' ((first | refine AU ?_ | (refine IW (fun h => ?_) (fun h => ?_) <;> try (exfalso; omega))) <;> conv => whnf)
 · have hlw : Zd l ≠ l := Zar (i := i) (by omega) h
   refine FIN.value h0 rfl (congrArg (SV.int _) ?_)
   simp_all [litM] <;> omega
 · refine ⟨i + 1, ⟨by omega, fun j hj => ?_⟩, by omega, ?_⟩
   · by_cases he : j = i
     · subst he; omega
     · exact hc j (by omega)
   · conv => whnf
     exact GOES.cA h0
 all_goals
   have hlw : Zd l = l := Z7S fun j hj => hc j (by omega)
   refine FIN.value h0 rfl (congrArg (SV.int _) ?_)
   by_cases hy0 : y = Y9
   · have hyb : (y == Y9) = true := by simp [hy0]
     unfold Y9 at hyb
     try rw [hyb] at h
     by_cases hl0 : l = [] <;> simp_all [litM, Y9, orE] <;> omega
   · have hyb : (y == Y9) = false := by simp [hy0]
     unfold Y9 at hyb
     try rw [hyb] at h
     by_cases hl0 : l = [] <;> simp_all [litM, Y9, orE] <;> omega
theorem Vx (x : Tm) (hx : TmSm x) : Does Tryz.prog tab 130 0 [.agg [.int .i64 x.k, .str x.t, .str x.y, .str x.l]] [] [] (Val (.int .i64 (YK x))) := by
 obtain ⟨ht, hy, hl⟩ := hx
 obtain ⟨k, t, y, l⟩ := x
 dsimp only at ht hy hl ⊢
 refine Does.enter Z3 (g := 130) (fn := Tryz.f130) Tryz.call130 Tryz.func130 rfl 33 rfl rfl [.tmp 2] rfl ?_
 intro w0 F η0 h0
 conv => whnf
 repeat' ((first | refine CALL.value (Z45 _ _ _ _ ht hy hl) rfl rfl ?_ | refine CALL.value (VX _ ht) rfl rfl ?_ | refine CALL.value (Z5p _ (by omega)) rfl rfl ?_ | refine AU ?_ | (refine IW (fun h => ?_) (fun h => ?_) <;> try (exfalso; omega))) <;> conv => whnf)
 all_goals
   refine FIN.value h0 rfl (congrArg (SV.int _) ?_)
   have hle := Zao t
   unfold YK
   first
     | (simp_all; done)
     | (simp_all <;> omega)
theorem Z2d (q : Qd) (hq : QdSm q) : Does Tryz.prog tab 104 0 [q.sv] [] [] (Val (.int .i64 (VV q))) := by
 obtain ⟨hs, hp, ho, hg⟩ := hq
 unfold Qd.sv
 refine Does.enter Z3 (g := 104) (fn := Tryz.f104) Tryz.call104 Tryz.func104 rfl 53 rfl rfl [.tmp 2] rfl ?_
 intro w0 F η0 h0
 conv => whnf
 repeat' ((first | refine CALL.value (Vx q.s hs) rfl rfl ?_ | refine CALL.value (Vx q.p hp) rfl rfl ?_ | refine CALL.value (Vx q.o ho) rfl rfl ?_ | refine CALL.value (Vx q.g hg) rfl rfl ?_ | refine AU ?_ | (refine IW (fun h => ?_) (fun h => ?_) <;> try (exfalso; omega))) <;> conv => whnf)
 all_goals
   refine FIN.value h0 rfl (congrArg (SV.int _) ?_)
   clear hs hp ho hg
   have hz : q.g = Yb ↔ q.g.k = 0 ∧ q.g.t = [] ∧ q.g.y = [] ∧ q.g.l = [] := by
     obtain ⟨s, p, o, g⟩ := q
     obtain ⟨k, t, y, l⟩ := g
     simp [Yb]
   unfold VV
   by_cases hgz : q.g = Yb
   · have := hz.1 hgz; simp_all
   · by_cases g1 : q.g.k = 1
     · simp_all
     · by_cases g2 : q.g.k = 2
       · simp_all
       · simp_all
end Go.Proofs.YtbfbokdccdagkaaGreatDoor
namespace Go.Proofs.YtbfbokdccdagkaaGreatDoor
open Go.Sx Go.Our
def Z5r : Plan := (ZO [(0, 1), (1, 1), (2, 1), (3, 1), (5, 1), (6, 1), (7, 1), (4, 2), (8, 2), (9, 3), (10, 1)])
abbrev Z0x (l : List Qd) : Prop := ∀ q ∈ l, QdSm q
theorem Z2e (l z : List Qd) (lim : Option Nat) (hl : l.length ≤ 1152921504606846976) (hq : Z0x l) : Does Tryz.prog tab 28 1 [.sl (.loc 0) 0 16 l.length lim] [] [(0, .rows 16 ((l ++ z).map Zl))]
   (ValK 1 (.tup [.int .i64 ((Jv l).1 : Nat), .int .i64 (Jv l).2])) := by
 refine Does.enter Z3 (g := 28) (fn := Tryz.f28) Tryz.call28 Tryz.func28 rfl 43 rfl rfl [.tmp 2, .tmp 3] rfl ?_
 intro w0 F η0 h0
 conv => whnf
 refine IF.mk (fun h => ?_) (fun h => ?_)
 · have h : 1048576 < l.length := by simp at h; omega
   conv => whnf
   refine FIN.valueK h0 rfl ?_
   unfold Jv; rw [if_pos h]; rfl
 have hbig : ¬ 1048576 < l.length := by simp at h; omega
 conv => whnf
 refine LOOP.go Z3 [0, 11, 12] (X := Nat) (fun i => i ≤ l.length ∧ badM l 0 = badM l i) (fun i => [(13, .int .i64 (i : Int))]) (fun i => []) 1 (fun i => l.length - i) 0 ⟨by omega, rfl⟩ ?_
 conv => whnf
 refine ⟨by exact GOES.cA h0, ?_⟩
 rintro i ⟨hi, hb⟩
 conv => whnf
 rcases Nat.lt_or_ge i l.length with hil | hil
 · have hqi := hq _ (List.getElem_mem hil)
   rw [Zb3 hil] at hb
   repeat' ((first | (refine GET.at (row := Zl (l[i]'(by omega))) (by rw [show 0 + (i : Int).toNat = i by omega]; exact XH (by omega)) ?_; conv => whnf) | refine CALL.value (Z29 (l[i]'(by omega)) hqi) rfl rfl ?_ | refine AU ?_ | (refine IW (fun h => ?_) (fun h => ?_) <;> try (exfalso; omega))) <;> conv => whnf)
   · refine FIN.valueK h0 rfl ?_
     unfold Jv; rw [if_neg hbig, hb, if_pos h]
   · refine ⟨i + 1, ⟨by omega, by rw [hb, if_neg (by simpa using h)]⟩, by omega, ?_⟩
     conv => whnf
     exact GOES.cA h0
 · rw [Z9l hil] at hb
   repeat' ((first | refine AU ?_ | (refine IW (fun h => ?_) (fun h => ?_) <;> try (exfalso; omega))) <;> conv => whnf)
   refine LOOP.go Z3 [0] (X := Nat) (fun i => 1 ≤ i ∧ (i ≤ l.length ∨ i = 1) ∧ Z24 l 1 = Z24 l i) (fun i => [(7, .int .i64 (i : Int))]) (fun i => []) 1 (fun i => l.length - i) 1 ⟨by omega, by omega, rfl⟩ ?_
   conv => whnf
   refine ⟨by exact GOES.cA h0, ?_⟩
   rintro j ⟨hj1, hj, hf⟩
   conv => whnf
   rcases Nat.lt_or_ge j l.length with hjl | hjl
   · rw [Z9m hjl] at hf
     have hj' : (IntKind.i64.wrap ((j : Int) - 1)).toNat = j - 1 := by rw [Z2 (by omega) (by omega)]; omega
     repeat' ((first | refine DRAWN.of (id := 13) Z3 mixed Z5r (by kernel_rfl) ?_ | refine ADD.mk (fun _ _ => ?_) | refine AD ?_ | refine FORK.mk ?_ ?_ | (refine GET.at (row := Zl (l[j]'(by omega))) (by rw [show 0 + (j : Int).toNat = j by omega]; exact XH (by omega)) ?_; conv => whnf) | (refine GET.at (row := Zl (l[j - 1]'(by omega))) (by rw [show 0 + (IntKind.i64.wrap ((j : Int) - 1)).toNat = j - 1 by omega]; exact XH (by omega)) ?_; conv => whnf) | refine CALL.value (Z34 (l[j - 1]'(by omega)) (l[j]'(by omega))) rfl rfl ?_ | refine AU ?_ | (refine IW (fun h => ?_) (fun h => ?_) <;> try (exfalso; omega))) <;> conv => whnf)
     · refine FIN.valueK h0 rfl ?_
       unfold Jv; rw [if_neg hbig, hb, hf, if_pos h]
     · refine ⟨j + 1, ⟨by omega, by omega, by rw [hf, if_neg (by omega)]⟩, by omega, ?_⟩
       conv => whnf
       exact GOES.cA h0
   · rw [Z77 hjl] at hf
     repeat' ((first | refine AU ?_ | (refine IW (fun h => ?_) (fun h => ?_) <;> try (exfalso; omega))) <;> conv => whnf)
     refine FIN.valueK h0 rfl ?_
     unfold Jv; rw [if_neg hbig, hb, hf]; rfl
theorem Z0h (l z : List Qd) (lim : Option Nat) (hl : l.length ≤ 1152921504606846976) (hq : Z0x l) : Does Tryz.prog tab 73 1 [.sl (.loc 0) 0 16 l.length lim] [] [(0, .rows 16 ((l ++ z).map Zl))]
   (ValK 1 (.tup [.int .i64 ((Jv l).1 : Nat), .int .i64 (Jv l).2])) := by
 refine Does.enter Z3 (g := 73) (fn := Tryz.f73) Tryz.call73 Tryz.func73 rfl 43 rfl rfl [.tmp 2, .tmp 3] rfl ?_
 intro w0 F η0 h0
 conv => whnf
 refine IF.mk (fun h => ?_) (fun h => ?_)
 · have h : 1048576 < l.length := by simp at h; omega
   conv => whnf
   refine FIN.valueK h0 rfl ?_
   unfold Jv; rw [if_pos h]; rfl
 have hbig : ¬ 1048576 < l.length := by simp at h; omega
 conv => whnf
 refine LOOP.go Z3 [0] (X := Nat) (fun i => i ≤ l.length ∧ badM l 0 = badM l i) (fun i => [(4, .int .i64 (i : Int))]) (fun i => []) 1 (fun i => l.length - i) 0 ⟨by omega, rfl⟩ ?_
 conv => whnf
 refine ⟨by exact GOES.cA h0, ?_⟩
 rintro i ⟨hi, hb⟩
 conv => whnf
 rcases Nat.lt_or_ge i l.length with hil | hil
 · have hqi := hq _ (List.getElem_mem hil)
   rw [Zb3 hil] at hb
   repeat' ((first | (refine GET.at (row := Zl (l[i]'(by omega))) (by rw [show 0 + (i : Int).toNat = i by omega]; exact XH (by omega)) ?_; conv => whnf) | refine CALL.value (Z2d (l[i]'(by omega)) hqi) rfl rfl ?_ | refine AU ?_ | (refine IW (fun h => ?_) (fun h => ?_) <;> try (exfalso; omega))) <;> conv => whnf)
   · refine FIN.valueK h0 rfl ?_
     unfold Jv; rw [if_neg hbig, hb, if_pos h]
   · refine ⟨i + 1, ⟨by omega, by rw [hb, if_neg (by simpa using h)]⟩, by omega, ?_⟩
     conv => whnf
     exact GOES.cA h0
 · rw [Z9l hil] at hb
   repeat' ((first | refine AU ?_ | (refine IW (fun h => ?_) (fun h => ?_) <;> try (exfalso; omega))) <;> conv => whnf)
   refine LOOP.go Z3 [0] (X := Nat) (fun i => 1 ≤ i ∧ (i ≤ l.length ∨ i = 1) ∧ Z24 l 1 = Z24 l i) (fun i => [(6, .int .i64 (i : Int))]) (fun i => []) 1 (fun i => l.length - i) 1 ⟨by omega, by omega, rfl⟩ ?_
   conv => whnf
   refine ⟨by exact GOES.cA h0, ?_⟩
   rintro j ⟨hj1, hj, hf⟩
   conv => whnf
   rcases Nat.lt_or_ge j l.length with hjl | hjl
   · rw [Z9m hjl] at hf
     have hj' : (IntKind.i64.wrap ((j : Int) - 1)).toNat = j - 1 := by rw [Z2 (by omega) (by omega)]; omega
     repeat' ((first | refine DRAWN.of (id := 12) Z3 mixed Z5r (by kernel_rfl) ?_ | refine ADD.mk (fun _ _ => ?_) | refine AD ?_ | refine FORK.mk ?_ ?_ | (refine GET.at (row := Zl (l[j]'(by omega))) (by rw [show 0 + (j : Int).toNat = j by omega]; exact XH (by omega)) ?_; conv => whnf) | (refine GET.at (row := Zl (l[j - 1]'(by omega))) (by rw [show 0 + (IntKind.i64.wrap ((j : Int) - 1)).toNat = j - 1 by omega]; exact XH (by omega)) ?_; conv => whnf) | refine CALL.value (Vt (l[j - 1]'(by omega)) (l[j]'(by omega))) rfl rfl ?_ | refine AU ?_ | (refine IW (fun h => ?_) (fun h => ?_) <;> try (exfalso; omega))) <;> conv => whnf)
     · refine FIN.valueK h0 rfl ?_
       unfold Jv; rw [if_neg hbig, hb, hf, if_pos h]
     · refine ⟨j + 1, ⟨by omega, by omega, by rw [hf, if_neg (by omega)]⟩, by omega, ?_⟩
       conv => whnf
       exact GOES.cA h0
   · rw [Z77 hjl] at hf
     repeat' ((first | refine AU ?_ | (refine IW (fun h => ?_) (fun h => ?_) <;> try (exfalso; omega))) <;> conv => whnf)
     refine FIN.valueK h0 rfl ?_
     unfold Jv; rw [if_neg hbig, hb, hf]; rfl
end Go.Proofs.YtbfbokdccdagkaaGreatDoor
