/- Part 20: Why1. Conditions: as each part says. -/
import Derived.Test.YtjbbkimodgffiaaGreatDoorInW18
import Derived.Test.YtjbbkimodgffiaaGreatDoorInW19
set_option linter.unusedVariables false
set_option linter.unusedSimpArgs false
set_option maxRecDepth 20000
set_option maxHeartbeats 8000000
namespace Go.Proofs.YtjbbkimodgffiaaGreatDoor
open Go.Sx Go.Our
def Zer : Plan := (Zj [(0, 1), (1, 1), (2, 1), (3, 1), (4, 1), (5, 1), (6, 1), (8, 1), (9, 1), (10, 1), (7, 2), (11, 2), (12, 1), (13, 0), (14, 1), (15, 0)])
def Z7P : Plan := (Zj [(0, 1), (1, 1), (2, 1), (3, 2), (4, 2), (5, 3), (6, 1), (7, 1), (8, 1), (9, 1), (10, 1)])
def Z0F : Plan := (Zj [(0, 1), (1, 1), (2, 1), (3, 1), (5, 1), (4, 2), (6, 2), (7, 3), (8, 3), (9, 1), (10, 0)])
theorem Z8Y {l : List St} {i k : Nat} (h : i < l.length) (e : k = i) : (l.map YK)[k]? = some (YK l[i]) := by subst e; rw [List.getElem?_map, List.getElem?_eq_getElem h]; rfl
theorem Zfh {l : List St} {i j a b : Nat} {x y : St} (e : a = i) (e2 : b = j) : (((l.map YK).set a (YK x)).set b (YK y)) = ((l.set i x).set j y).map YK := by subst e e2; rw [List.map_set, List.map_set]
set_option maxHeartbeats 4000000 in
theorem Za7 (l : List St) (lim : Option Nat) (hl : l.length ≤ 1152921504606846976) : Does Tryz.prog tab 46 1 [.sl (.loc 0) 0 49 l.length lim] [(0, .rows 49 (l.map YK))] [] (fun r O nx => r = .tup [] ∧ O = [(0, .rows 49 (l.reverse.map YK))] ∧ nx = 1) := by
 refine Does.enter Z2 (g := 46) (fn := Tryz.f46) Tryz.call46 Tryz.func46 rfl 28 rfl rfl [] rfl ?_
 intro w0 F η0 h0
 conv => whnf
 repeat' ((first | refine AU ?_ | (refine IW (fun h => ?_) (fun h => ?_) <;> try (exfalso; omega))) <;> conv => whnf)
 refine LOOP.gok Z2 [0] [] (X := Nat × List St) (fun x => x.1 + x.1 ≤ l.length ∧ Rev l x.2 x.1) (fun x => [(2, .int .i64 (x.1 : Int)), (3, .int .i64 ((l.length : Int) - 1 - (x.1 : Int)))]) (fun x => [(0, .rows 49 (x.2.map YK))]) 1 (fun x => l.length - x.1) (0, l) ⟨by simp, Zd2 l⟩ ?_
 conv => whnf
 refine ⟨by exact GOES.cA h0, ?_⟩
 rintro ⟨i, m⟩ ⟨hi, hr⟩
 dsimp only at hi hr ⊢
 have hm := hr.1
 conv => whnf
 by_cases hil : i + i + 1 < l.length
 · have hj : l.length - 1 - i < m.length := by omega
   have hi2 : i < m.length := by omega
   repeat' ((first | refine DRAWN.of (id := 3) Z2 Z8 Zer (by kernel_rfl) ?_ | refine ADD.mk (fun _ _ => ?_) | refine AD ?_ | refine FORK.mk ?_ ?_ | (refine GET.at (Z8Y (l := m) (i := l.length - 1 - i) hj (by omega)) ?_; conv => whnf) | (refine GET.at (Z8Y (l := m) (i := i) hi2 (by omega)) ?_; conv => whnf) | (refine GET.at ((List.getElem?_set_ne (by omega)).trans (Z8Y (l := m) (i := l.length - 1 - i) hj (by omega))) ?_; conv => whnf) | refine AU ?_ | (refine IW (fun h => ?_) (fun h => ?_) <;> try (exfalso; omega))) <;> conv => whnf)
   refine ⟨(i + 1, (m.set i m[l.length - 1 - i]).set (l.length - 1 - i) m[i]), ⟨by dsimp only; omega, Zd3 hr hil _ _ (List.getElem?_eq_getElem hj) (List.getElem?_eq_getElem hi2)⟩, by dsimp only; omega, ?_⟩
   dsimp only
   conv => whnf
   (refine GOES.cutting h0 rfl rfl rfl (by (repeat' (first | (refine ZG rfl ?_ ?_) | exact Zt (Zv _) | exact Zn (Zv _) | rfl))) ?_ ?_ <;> (repeat' (first | (with_reducible rfl) | exact trivial | (exact Zu rfl (by first | omega | (simp (disch := omega) only [lnB, Z5, Z9] <;> omega) | (simp; done) | (simp <;> omega))) | (exact congrArg (SV.int _) (by first | omega | (simp (disch := omega) only [lnB, Z5, Z9] <;> omega) | (simp; done) | (simp <;> omega))) | (exact X1 (by first | omega | (simp (disch := omega) only [lnB, Z5, Z9] <;> omega) | (simp; done) | (simp <;> omega))) | (exact Jj (by first | omega | (simp (disch := omega) only [lnB, Z5, Z9] <;> omega) | (simp; done) | (simp <;> omega))) | (exact Zk _ (h := .rows _ _) (Zv _)) | (exact congrArg (Hp.rows _) (by (exact Zfh (by omega) (by omega)))) | ((conv => whnf); refine ⟨?_, ?_⟩) | rfl)))
 · repeat' ((first | refine AU ?_ | (refine IW (fun h => ?_) (fun h => ?_) <;> try (exfalso; omega))) <;> conv => whnf)
   rw [Zep hr (by omega)]
   refine FIN.aA h0 [] (.tup []) ([(0, .rows 49 (l.reverse.map YK))]) ?_
   exact ⟨rfl, rfl, rfl⟩
def WhyQ (l : List Qd) (q : Qd) (most : Int) (r : SV) (O : Hps) (nx : Nat) : Prop :=
 ((ZZ l).2 ≠ 0 ∧ r = .tup [.val (.slice none 0 0), .int .i64 (ZZ l).2] ∧ O = [] ∧ nx = 1) ∨
 ((ZZ l).2 = 0 ∧ q ∈ l ∧ r = .tup [.val (.slice none 0 0), .int .i64 282] ∧ O = [] ∧ nx = 1) ∨
 ((ZZ l).2 = 0 ∧ q ∉ l ∧ ∃ w, Ended l (topM most) 2097152 w ∧ ((topM most < (w.all.length : Int) ∧ r = .tup [.val (.slice none 0 0), .int .i64 1] ∧ O = [] ∧ nx = 1) ∨
   ((w.all.length : Int) ≤ topM most ∧ q ∉ w.all ∧ r = .tup [.val (.slice none 0 0), .int .i64 282] ∧ O = [] ∧ nx = 1) ∨
   ((w.all.length : Int) ≤ topM most ∧ ∃ n, w.all[n]? = some q ∧ r = .tup [.sl (.loc 1) 0 49 (whyM l w n).length none, .int .i64 0] ∧ O = [(1, .rows 49 ((whyM l w n).map YK))] ∧ nx = 2)))
theorem Ua {i : Int} {m : List (Int × Int)} {j : Nat} {v : Int} (h : ixA i m = some (j, v)) : numA i m = v := by unfold numA; rw [V2 h]; rfl
theorem Z8Z {i : Int} {m : List (Int × Int)} (h : ixA i m = none) : numA i m = 0 := by unfold numA; rw [UR h]; rfl
theorem Z55 {q : Qd} {w : Wd} {j : Nat} {v : Int} (h : ixA q w.place = some (j, v)) : plc w q = v := by unfold plc; rw [V2 h]; rfl
theorem Z90 {i v : Int} {m : List (Int × Int)} {j : Nat} (h : ixA i m = some (j, v)) (h1 : 0 ≤ v) (h2 : v ≤ 16777216) : setM (false, [CK.int IntKind.i64]) (SV.int .i64 i) (SV.int .i64 (IntKind.i64.wrap (v + 1))) (numR m) = numR (incA i m) := by
 rw [Z5 (by omega) (by omega), ← Ua h]
 exact Z2A KI intV i _ m
theorem Z91 {i : Int} {m : List (Int × Int)} (h : ixA i m = none) : setM (false, [CK.int IntKind.i64]) (SV.int .i64 i) (SV.int .i64 (IntKind.i64.wrap (0 + 1))) (numR m) = numR (incA i m) := by
 rw [Z5 (by omega) (by omega), ← Z8Z h]
 exact Z2A KI intV i _ m
set_option maxHeartbeats 16000000 in
theorem Zd4 (l z : List Qd) (lim : Option Nat) (q : Qd) (most : Int) (hl : l.length ≤ 1152921504606846976) (hq : Z6L l) (hz : (l ++ z).length * 224 ≤ 281474976710656) : Does Tryz.prog tab 17 1 [.sl (.loc 0) 0 16 l.length lim, .agg (Zf q), .int .i64 most] [] [(0, .rows 16 ((l ++ z).map Zf))] (WhyQ l q most) := by
 have hv := Z7M l z lim hl hq
 refine Does.enter Z2 (g := 17) (fn := Tryz.f17) Tryz.call17 Tryz.func17 rfl 99 rfl rfl [.tmp 6, .tmp 7] rfl ?_
 intro w0 F η0 h0
 conv => whnf
 repeat' ((first | refine AU ?_ | (refine IW (fun h => ?_) (fun h => ?_) <;> try (exfalso; omega))) <;> conv => whnf)
 refine CALL.aA [0] (hv) ?_
 rintro r O nx ⟨rfl, rfl, rfl⟩
 conv => whnf
 repeat' ((first | refine AU ?_ | (refine IW (fun h => ?_) (fun h => ?_) <;> try (exfalso; omega))) <;> conv => whnf)
 · refine FIN.aA h0 [] (.tup [.val (.slice none 0 0), .int .i64 (ZZ l).2]) [] ?_
   exact .inl ⟨h, rfl, rfl, rfl⟩
 have hv0 := h
 have hr := Jw hv0
 have hf := ZbM l z q lim hz hr.1
 rw [Z07 triQ hr.1] at hf
 refine CALL.aA [0] (hf) ?_
 rintro r O nx ⟨rfl, rfl, rfl⟩
 conv => whnf
 repeat' ((first | refine AU ?_ | (refine IW (fun h => ?_) (fun h => ?_) <;> try (exfalso; omega))) <;> conv => whnf)
 · refine FIN.aA h0 [] (.tup [.val (.slice none 0 0), .int .i64 282]) [] ?_
   exact .inr (.inl ⟨hv0, h, rfl, rfl, rfl⟩)
 have hqn : q ∉ l := h
 refine CALL.aA [0] (Z6J l z lim most (by omega) hq (by omega)) ?_
 rintro r O nx ⟨w, he, rfl, rfl, rfl⟩
 by_cases hle : (w.all.length : Int) ≤ topM most
 · rw [if_pos hle]
   have hS := Z53 he.inv (VL hr.1)
   have hwl := he.len
   have hok := he.inv.ok
   conv => whnf
   repeat' ((first | refine DRAWN.of (id := 10) Z2 Z8 Z7P (by kernel_rfl) ?_ | refine DRAWN.of (id := 20) Z2 Z8 Z0F (by kernel_rfl) ?_ | refine DRAWN.of (id := 21) Z2 Z8 Z0F (by kernel_rfl) ?_ | refine ADD.mk (fun _ _ => ?_) | refine AD ?_ | refine FORK.mk ?_ ?_ | (rw [Z6 _ (ZT _)]; conv => whnf) | (refine NEED.mk ⟨KQ.ok _, Xc KQ _ _⟩ ?_; conv => whnf) | (refine FIND.A KQ intV q _ (fun _ _ ha => ?_) (fun ha => ?_); conv => whnf) | refine AU ?_ | (refine IW (fun h => ?_) (fun h => ?_) <;> try (exfalso; omega))) <;> conv => whnf)
   · have hpq := Z55 ha
     obtain ⟨n, hn, hpn⟩ := hS.mem (Zf6 hok ha)
     rw [hpq] at hpn
     subst hpn
     have hnl : n < w.all.length := (List.getElem?_eq_some_iff.1 hn).1
     have hln : l.length ≤ n := by
       rcases Nat.lt_or_ge n l.length with h1 | h1
       · exact (hqn ((hS.old (List.mem_of_getElem? hn)).2 (by rw [hpq]; omega))).elim
       · exact h1
     have hR := Z54 hS hnl
     repeat' ((first | (refine NEED.mk ⟨KI.ok _, fun r hr => nomatch hr⟩ ?_; conv => whnf) | refine AU ?_ | (refine IW (fun h => ?_) (fun h => ?_) <;> try (exfalso; omega))) <;> conv => whnf)
     refine LOOP.nil 16 49 rfl ?_
     refine LOOP.gok Z2 [0, 11, 15] [] (X := Nat) (fun k => k ≤ n + 1 - l.length) (fun k => [(17, .int .i64 ((n : Int) - (k : Int))), (16, .sl (.loc 8) 0 49 (XH w n k).2.length none)]) (fun k => (7, .mp (numR (XH w n k).1)) :: (8, .rows 49 ((XH w n k).2.map YK)) :: wdN 2 3 4 5 6 w) 9 (fun k => n + 1 - l.length - k) 0 (by omega) ?_
     conv => whnf
     refine ⟨by exact GOES.kA h0 [1, 2, 3, 4, 5, 6, 7, 8], ?_⟩
     intro k hk
     have hRk := hR k hk
     by_cases hkn : k < n + 1 - l.length
     · have hRs := hR (k + 1) hkn
       have hkw : n - k < w.why.length := by have := hok.len; omega
       have hs : w.why[n - k]? = some w.why[n - k] := List.getElem?_eq_getElem hkw
       have hgw : (w.why.map YK)[0 + ((n - k : Nat) : Int).toNat]? = some (YK w.why[n - k]) := Z8Y hkw (by omega)
       have hst := hS.step (by omega) hs
       have hun : XH w n (k + 1) = WD w ((n - k : Nat) : Int) w.why[n - k] (XH w n k) := by
         conv => lhs; unfold XH
         rw [hs]; rfl
       rw [hun] at hRs
       have hc : (n : Int) - (k : Int) = ((n - k : Nat) : Int) := by omega
       rw [hc]
       generalize XH w n k = x at *
       obtain ⟨m, out⟩ := x
       dsimp only at hRk hRs
       generalize hsx : w.why[n - k] = s at *
       have hfew := hRk.few
       have hneed := fun p => (hRk.need p).1
       have hol := hRk.len
       dsimp only at hfew hneed hol ⊢
       obtain ⟨-, -, hsa, hsb, -, -⟩ := hst
       have hin : ∀ j p, numA p (incA j m) = numA p m + if p = j then 1 else 0 := fun j p => Z7N j p m
       conv => whnf
       repeat' ((first | (refine NEED.mk ⟨KI.ok _, Xc KI _ _⟩ ?_; conv => whnf) | (refine FIND.A KI intV ((n - k : Nat) : Int) m (fun _ _ hi => ?_) (fun hi => ?_); conv => whnf) | refine AU ?_ | (refine IW (fun h => ?_) (fun h => ?_) <;> try (exfalso; omega))) <;> conv => whnf)
       rotate_left
       · refine GET.at hgw ?_
         rw [← Ua hi] at h
         have hy : WD w ((n - k : Nat) : Int) s (m, out) = (incA (plc w s.b) (incA (plc w s.a) m), out ++ [s]) := if_neg h
         have hn1 := hneed (plc w s.a)
         have hf1 := hfew (plc w s.a)
         have hn2 := hneed (plc w s.b)
         have hf2 := hfew (plc w s.b)
         have hi2 := hin (plc w s.a) (plc w s.b)
         conv => whnf
         repeat' ((first | refine DRAWN.of (id := 10) Z2 Z8 Z7P (by kernel_rfl) ?_ | refine DRAWN.of (id := 20) Z2 Z8 Z0F (by kernel_rfl) ?_ | refine DRAWN.of (id := 21) Z2 Z8 Z0F (by kernel_rfl) ?_ | refine ADD.mk (fun _ _ => ?_) | refine AD ?_ | refine FORK.mk ?_ ?_ | (refine NEED.mk ⟨KQ.ok _, Xc KQ _ _⟩ ?_; conv => whnf) | (refine NEED.mk ⟨KI.ok _, Xc KI _ _⟩ ?_; conv => whnf) | (refine FIND.A KQ intV s.a _ (fun _ _ ha => ?_) (fun ha => (Zbi hok ha hsa).elim); obtain rfl := Z55 ha; conv => whnf) | (refine FIND.A KI intV (plc w s.a) m (fun _ _ hb => ?_) (fun hb => ?_); conv => whnf) | refine AU ?_ | (refine IW (fun h => ?_) (fun h => ?_) <;> try (exfalso; omega))) <;> conv => whnf)
         all_goals
           first
             | rw [Z90 hb (by have := Ua hb; omega) (by have := Ua hb; omega)]
             | rw [Z91 hb]
           clear hb
           repeat' ((first | refine DRAWN.of (id := 10) Z2 Z8 Z7P (by kernel_rfl) ?_ | refine DRAWN.of (id := 20) Z2 Z8 Z0F (by kernel_rfl) ?_ | refine DRAWN.of (id := 21) Z2 Z8 Z0F (by kernel_rfl) ?_ | refine ADD.mk (fun _ _ => ?_) | refine AD ?_ | refine FORK.mk ?_ ?_ | (refine NEED.mk ⟨KQ.ok _, Xc KQ _ _⟩ ?_; conv => whnf) | (refine NEED.mk ⟨KI.ok _, Xc KI _ _⟩ ?_; conv => whnf) | (refine FIND.A KQ intV s.b _ (fun _ _ ha => ?_) (fun ha => (Zbi hok ha hsb).elim); obtain rfl := Z55 ha; conv => whnf) | (refine FIND.A KI intV (plc w s.b) (incA (plc w s.a) m) (fun _ _ hb => ?_) (fun hb => ?_); conv => whnf) | (refine NEED.mk (Jf 1024 rfl rfl (by simp) (by simp) (by omega)) ?_; conv => whnf) | refine AU ?_ | (refine IW (fun h => ?_) (fun h => ?_) <;> try (exfalso; omega))) <;> conv => whnf)
           all_goals
             first
               | rw [Z90 hb (by have := Ua hb; split at hi2 <;> omega) (by have := Ua hb; split at hi2 <;> omega)]
               | rw [Z91 hb]
             refine ⟨k + 1, by omega, by omega, ?_⟩
             rw [hun, hy]
             dsimp only
             conv => whnf
             exact GOES.kA h0 [1, 2, 3, 4, 5, 6, 7, 11]
       all_goals
         have hz : numA ((n - k : Nat) : Int) m = 0 := by
           first
             | exact (Ua hi).trans h
             | exact Z8Z hi
         have hy : WD w ((n - k : Nat) : Int) s (m, out) = (m, out) := if_pos hz
         refine ⟨k + 1, by omega, by omega, ?_⟩
         rw [hun, hy]
         dsimp only
         conv => whnf
         exact GOES.kA h0 [1, 2, 3, 4, 5, 6, 7, 8]
     · have hke : k = n + 1 - l.length := by omega
       subst hke
       generalize hD : (XH w n (n + 1 - l.length)).2 = out at *
       have hol := hRk.len
       have hrv := Za7 out none (by omega)
       conv => whnf
       repeat' ((first | refine AU ?_ | (refine IW (fun h => ?_) (fun h => ?_) <;> try (exfalso; omega))) <;> conv => whnf)
       refine CALL.aA [8] (hrv) ?_
       rintro r O nx ⟨rfl, rfl, rfl⟩
       conv => whnf
       repeat' ((first | refine AU ?_ | (refine IW (fun h => ?_) (fun h => ?_) <;> try (exfalso; omega))) <;> conv => whnf)
       have hwm : whyM l w n = out.reverse := by unfold whyM; rw [hD]
       refine FIN.aA h0 [8] (.tup [.sl (.loc 1) 0 49 out.length none, .int .i64 0]) [(1, .rows 49 (out.reverse.map YK))] ?_
       exact .inr (.inr ⟨hv0, hqn, w, he, .inr (.inr ⟨hle, n, hn, by rw [hwm, List.length_reverse], by rw [hwm], rfl⟩)⟩)
   · refine FIN.aA h0 [] (.tup [.val (.slice none 0 0), .int .i64 282]) [] ?_
     exact .inr (.inr ⟨hv0, hqn, w, he, .inr (.inl ⟨hle, Zbi hok ha, rfl, rfl, rfl⟩)⟩)
 · rw [if_neg hle]
   conv => whnf
   repeat' ((first | refine AU ?_ | (refine IW (fun h => ?_) (fun h => ?_) <;> try (exfalso; omega))) <;> conv => whnf)
   refine FIN.aA h0 [] (.tup [.val (.slice none 0 0), .int .i64 1]) [] ?_
   exact .inr (.inr ⟨hv0, hqn, w, he, .inl ⟨by omega, rfl, rfl, rfl⟩⟩)
end Go.Proofs.YtjbbkimodgffiaaGreatDoor
