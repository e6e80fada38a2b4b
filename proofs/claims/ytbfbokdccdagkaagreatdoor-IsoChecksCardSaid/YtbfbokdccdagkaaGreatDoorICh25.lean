/- Part 25: Ren7. Conditions: as each part says. -/
import Derived.Test.YtbfbokdccdagkaaGreatDoorICh12
import Derived.Test.YtbfbokdccdagkaaGreatDoorICh22
import Derived.Test.YtbfbokdccdagkaaGreatDoorICh24
set_option linter.unusedVariables false
set_option linter.unusedSimpArgs false
set_option maxRecDepth 20000
set_option maxHeartbeats 8000000
namespace Go.Proofs.YtbfbokdccdagkaaGreatDoor
open Go.Sx Go.Our
def ZbM : Plan := (ZO [(0, 1), (1, 1), (2, 1), (3, 1), (5, 1), (4, 2), (6, 2), (7, 1)])
def ZbN : Plan := (ZO [(0, 1), (1, 1), (2, 1), (3, 1), (4, 1), (6, 1), (8, 1), (9, 1), (10, 1), (11, 1), (13, 1), (15, 1), (16, 1), (17, 1), (18, 1), (20, 1), (22, 1), (23, 1), (24, 1), (25, 1), (27, 1), (5, 2), (12, 2), (19, 2), (26, 2), (7, 3), (14, 3), (21, 3), (28, 3), (29, 1), (30, 3), (31, 0), (32, 1)])
theorem Z5u {ps : List Pr} {s : List UInt8} {i : Nat} (h : i < ps.length) : toOf (ps.drop i) s = if ps[i].1 = s then some ps[i].2 else toOf (ps.drop (i + 1)) s := by
 unfold toOf
 rw [List.drop_eq_getElem_cons h, List.find?_cons]
 by_cases e : ps[i].1 = s
 · rw [decide_eq_true e, if_pos e]; rfl
 · rw [decide_eq_false e, if_neg e]
theorem Ul (t : Tm) (ps zp : List Pr) (lim : Option Nat) (hp : (ps ++ zp).length ≤ 1152921504606846976) : Does Tryz.prog tab 77 1 [.agg (ZA t), .sl (.loc 0) 0 2 ps.length lim] [] [(0, .rows 2 ((ps ++ zp).map YZ))] (ValK 1 (.agg (ZA (Xf ps t)))) := by
 have hp1 : (ps ++ zp).length = ps.length + zp.length := List.length_append
 refine Does.enter Z3 (g := 77) (fn := Tryz.f77) Tryz.call77 Tryz.func77 rfl 32 rfl rfl [.cell 4 65] rfl ?_
 intro w0 F η0 h0
 conv => whnf
 repeat' ((first | refine AU ?_ | (refine IW (fun h => ?_) (fun h => ?_) <;> try (exfalso; omega))) <;> conv => whnf)
 · refine FIN.valueK h0 rfl ?_
   unfold Xf
   rw [if_neg (by omega)]; rfl
 · have hk : t.k = 2 := by omega
   refine LOOP.go Z3 [1, 2, 4] (X := Nat) (fun i => i ≤ ps.length ∧ toOf ps t.t = toOf (ps.drop i) t.t) (fun i => [(5, .int .i64 (i : Int))]) (fun i => [(1, .box (ZA t)), (2, .box (ZA Yb))]) 3 (fun i => ps.length - i) 0 ⟨by omega, rfl⟩ ?_
   conv => whnf
   refine ⟨by exact GOES.cA h0, ?_⟩
   rintro i ⟨hi, ht⟩
   conv => whnf
   by_cases hil : i < ps.length
   · rw [Z5u hil] at ht
     repeat' ((first | refine DRAWN.of (id := 6) Z3 mixed ZbM (by kernel_rfl) ?_ | refine ADD.mk (fun _ _ => ?_) | refine AD ?_ | refine FORK.mk ?_ ?_ | (refine GET.at (row := YZ (ps[i]'(by omega))) (Ws (by omega) (by omega)) ?_; conv => whnf) | refine AU ?_ | (refine IW (fun h => ?_) (fun h => ?_) <;> try (exfalso; omega))) <;> conv => whnf)
     · refine FIN.valueK h0 rfl ?_
       unfold Xf
       rw [if_pos hk, ht, if_pos h]; rfl
     · refine ⟨i + 1, ⟨by omega, by rw [ht, if_neg h]⟩, by omega, ?_⟩
       conv => whnf
       exact GOES.cA h0
   · have hie : i = ps.length := by omega
     have ht2 : toOf ps t.t = none := by rw [ht, hie, List.drop_length]; rfl
     repeat' ((first | refine AU ?_ | (refine IW (fun h => ?_) (fun h => ?_) <;> try (exfalso; omega))) <;> conv => whnf)
     refine FIN.valueK h0 rfl ?_
     unfold Xf
     rw [if_pos hk, ht2]; rfl
theorem Z7b {α : Type} (f : Qd → α) {l : List Qd} {i : Nat} (h : i < l.length) : (l.take (i + 1)).map f = (l.take i).map f ++ [f l[i]] := by
 rw [List.take_succ_eq_append_getElem h, List.map_append]; rfl
theorem Z6m (A : List Qd) (hA : A.length * 224 ≤ 140737488351232) : Does Tryz.prog tab 40 1 [.sl (.loc 0) 0 16 A.length none] [] [(0, .rows 16 (A.map Zl))] (US Zl 16 1 (setL ZJ A)) := by
 have h := UT A hA A.length A.length 0 (Nat.le_refl _) (by omega)
 rwa [List.drop_zero, List.take_length, Wi triQ _ A (Nat.le_refl _)] at h
set_option maxHeartbeats 4000000 in
theorem Z5v (l z : List Qd) (lim : Option Nat) (ps zp : List Pr) (limP : Option Nat) (hl : YC l) (hz : (l ++ z).length ≤ 1152921504606846976) (hp : (ps ++ zp).length ≤ 1152921504606846976) : Does Tryz.prog tab 51 2 [.sl (.loc 0) 0 16 l.length lim, .sl (.loc 1) 0 2 ps.length limP] [] [(0, .rows 16 ((l ++ z).map Zl)), (1, .rows 2 ((ps ++ zp).map YZ))]
   (US Zl 16 2 (setL ZJ (l.map (Jp ps)))) := by
 unfold YC at hl
 refine Does.enter Z3 (g := 51) (fn := Tryz.f51) Tryz.call51 Tryz.func51 rfl 47 rfl rfl [.tmp 4] rfl ?_
 intro w0 F η0 h0
 conv => whnf
 refine LOOP.nil 5 16 rfl ?_
 refine LOOP.go Z3 [0, 1] (X := Nat) (fun i => i ≤ l.length) (fun i => [(6, .int .i64 (i : Int)), (5, .sl (.loc 2) 0 16 ((l.take i).map (Jp ps)).length none)]) (fun i => [(2, .rows 16 (((l.take i).map (Jp ps)).map Zl))]) 3 (fun i => l.length - i) 0 (by omega) ?_
 conv => whnf
 refine ⟨by (refine GOES.cutting h0 rfl rfl rfl (by first | rfl | (simp only [Z6, Z4, Z0 _ (Za _), Bool.and_self, Bool.and_true] <;> rfl)) ?_ ?_ <;> (repeat' (first | (with_reducible rfl) | (exact Zp rfl (by first | (simp; done) | omega | (simp; omega))) | (exact congrArg (SV.int _) (by first | omega | (simp (disch := omega) only [lnB, Z2, Z7] <;> omega) | (simp; done) | (simp <;> omega))) | (exact congrArg (Hp.rows _) (by rfl)) | ((conv => whnf); refine ⟨?_, ?_⟩) | exact trivial | rfl))), ?_⟩
 intro i hi
 have hli : ((l.take i).map (Jp ps)).length = i := by simp; omega
 conv => whnf
 by_cases hil : i < l.length
 · have hs := Z7b (Jp ps) hil
   generalize (l.take i).map (Jp ps) = out at *
   repeat' ((first | refine DRAWN.of (id := 5) Z3 mixed ZbN (by kernel_rfl) ?_ | refine ADD.mk (fun _ _ => ?_) | refine AD ?_ | refine FORK.mk ?_ ?_ | (refine GET.at (row := Zl (l[i]'(by omega))) (Z37 (by omega) (by omega)) ?_; conv => whnf) | (refine CALL.looks [1] (Ul l[i].s ps zp limP hp) rfl rfl rfl rfl ⟨⟨rfl, congrArg some (Zh _ (h := .rows _ _) (Zm _)).symm, Zj (Zm _)⟩, trivial⟩ ?_; conv => whnf) | (refine CALL.looks [1] (Ul l[i].p ps zp limP hp) rfl rfl rfl rfl ⟨⟨rfl, congrArg some (Zh _ (h := .rows _ _) (Zm _)).symm, Zj (Zm _)⟩, trivial⟩ ?_; conv => whnf) | (refine CALL.looks [1] (Ul l[i].o ps zp limP hp) rfl rfl rfl rfl ⟨⟨rfl, congrArg some (Zh _ (h := .rows _ _) (Zm _)).symm, Zj (Zm _)⟩, trivial⟩ ?_; conv => whnf) | (refine CALL.looks [1] (Ul l[i].g ps zp limP hp) rfl rfl rfl rfl ⟨⟨rfl, congrArg some (Zh _ (h := .rows _ _) (Zm _)).symm, Zj (Zm _)⟩, trivial⟩ ?_; conv => whnf) | (refine NEED.mk (ZL 224 rfl rfl (by simp) (by simp) (by omega)) ?_; conv => whnf) | refine AU ?_ | (refine IW (fun h => ?_) (fun h => ?_) <;> try (exfalso; omega))) <;> conv => whnf)
   refine ⟨i + 1, by omega, by omega, ?_⟩
   rw [hs]
   conv => whnf
   (refine GOES.keeping h0 [4] rfl rfl rfl (by first | rfl | (simp only [Z6, Z4, Z0 _ (Za _), Bool.and_self, Bool.and_true] <;> rfl)) ?_ ?_ <;> (repeat' (first | (with_reducible rfl) | (exact Z8 (Za _) (Z5 _ (Za _))) | (exact Z8 (Za _) (by (simp [List.take_of_length_le, Zw, Zl, Jp]))) | (exact Zp rfl (by first | (simp; done) | omega | (simp; omega))) | (exact congrArg (SV.int _) (by first | omega | (simp (disch := omega) only [lnB, Z2, Z7] <;> omega) | (simp; done) | (simp <;> omega))) | ((conv => whnf); refine ⟨?_, ?_⟩) | exact trivial | (simp only [ren, renB]; done) | rfl)))
 · have hie : i = l.length := by omega
   subst hie
   rw [List.take_length] at hli ⊢
   generalize l.map (Jp ps) = out at *
   repeat' ((first | refine AU ?_ | (refine IW (fun h => ?_) (fun h => ?_) <;> try (exfalso; omega))) <;> conv => whnf)
   refine CALL.aA [2] (Z6m out (by omega)) ?_
   rintro r O nx ⟨rfl, rfl, rfl⟩
   conv => whnf
   refine FIN.aA h0 [3] (.sl (.loc 2) 0 16 (setL ZJ out).length none) [(2, .rows 16 ((setL ZJ out).map Zl))] ?_
   exact ⟨rfl, rfl, rfl⟩
end Go.Proofs.YtbfbokdccdagkaaGreatDoor
