/- Part 19: LawApart. Conditions: as each part says. -/
import Derived.Test.YtbfbokdccdagkaaGreatDoorIAp17
import Derived.Test.YtbfbokdccdagkaaGreatDoorIAp18
set_option linter.unusedVariables false
set_option linter.unusedSimpArgs false
set_option maxRecDepth 20000
set_option maxHeartbeats 8000000
namespace Go.Proofs.YtbfbokdccdagkaaGreatDoor
open Go.Sx Go.Our
theorem ZaO {a b : List Qd} (h : JU a b ≠ 0 ∨ (JU a b = 0 ∧ Vx (Xh a) (Xh b) = none)) : ∃ e, ∀ (r : SV) (O : Hps) (nx : Nat), ApQ a b r O nx → r = .tup [.val (.slice none 0 0), .int .i64 e] ∧ O = [] ∧ nx = 2 := by
 rcases h with h | ⟨h, h2⟩
 · exact ⟨_, fun r O nx hq => hq.elim (fun x => x.2) fun x => (h x.1).elim⟩
 · refine ⟨2, fun r O nx hq => hq.elim (fun x => (x.1 h).elim) fun x => x.2.elim (fun y => y.2) ?_⟩
   rintro ⟨ps, hp, _⟩
   rw [h2] at hp; cases hp
theorem Zby {a b : List Qd} {ps : List Pr} (h : JU a b = 0) (h2 : Vx (Xh a) (Xh b) = some ps) (r : SV) (O : Hps) (nx : Nat) (hq : ApQ a b r O nx) : r = .tup [.sl (.loc 2) 0 2 ps.length none, .int .i64 0] ∧ O = [(2, .rows 2 (ps.map Vj))] ∧ nx = 3 := by
 rcases hq with x | ⟨_, x | ⟨p, hp, x⟩⟩
 · exact (x.1 h).elim
 · rw [h2] at x; cases x.1
 · rw [h2] at hp; injection hp with hp; subst hp; exact x
theorem ZbN {l : List Pr} {i k : Nat} (h : i < l.length) (e : k = i) : (l.map Vj)[k]? = some (Vj l[i]) := by subst e; rw [List.getElem?_map, List.getElem?_eq_getElem h]; rfl
theorem Z8J {own U : List LB} {ps qs : List (LB × LB)} (h : JR own U ps = some qs) : qs.length ≤ ps.length + own.length := by
 induction own generalizing U ps with
 | nil => unfold JR at h; injection h with h; subst h; simp
 | cons x own ih =>
   unfold JR at h
   split at h
   · cases h
   · have := ih h
     simp at this ⊢; omega
set_option maxHeartbeats 16000000 in
theorem Z3n (a b : List Qd) (ha : Xg a) (hb : Xg b) (qa : Wn a) (qb : Wn b) : Does Tryz.prog tab 4 2 [.sl (.loc 0) 0 16 a.length none, .sl (.loc 1) 0 16 b.length none] [] [(0, .rows 16 (a.map ZA)), (1, .rows 16 (b.map ZA))] (ValK 2 (.bool true)) := by
 have hLa := Z4z a [] none ha
 have hLb := Z4z b [] none hb
 have hA := Z71 a [Uy] b [Uy] none none ha hb qa qb (by unfold Xg at ha; simp; omega) (by unfold Xg at hb; simp; omega)
 have hR := Z5q a [] b [] none none ha hb qa qb (by unfold Xg at ha; simp; omega) (by unfold Xg at hb; simp; omega)
 have hKa := Z4A a [] none ha (by unfold Xg at ha; simp; omega)
 have hKb := Z4A b [] none hb (by unfold Xg at hb; simp; omega)
 have hSp := Z74 (a ++ [Uy]) a.length (by simp) (by unfold Xg at ha; simp; omega)
 rw [List.append_nil] at hLa hLb hKa hKb
 rw [List.append_nil, List.append_nil] at hR
 refine Does.enter Z5 (g := 4) (fn := Tryz.f4) Tryz.call4 Tryz.func4 rfl 88 rfl rfl [.tmp 4] rfl ?_
 intro w0 F η0 h0
 conv => whnf
 repeat' ((first | refine AU ?_ | (refine IW (fun h => ?_) (fun h => ?_) <;> try (exfalso; omega))) <;> conv => whnf)
 refine CALL.aA [0] (hLa) ?_
 rintro r O nx ⟨rfl, rfl, rfl⟩
 conv => whnf
 repeat' ((first | refine AU ?_ | (refine IW (fun h => ?_) (fun h => ?_) <;> try (exfalso; omega))) <;> conv => whnf)
 refine CALL.aA [1] (hLb) ?_
 rintro r O nx ⟨rfl, rfl, rfl⟩
 conv => whnf
 repeat' ((first | refine AU ?_ | (refine IW (fun h => ?_) (fun h => ?_) <;> try (exfalso; omega))) <;> conv => whnf)
 by_cases hv : JU a b ≠ 0 ∨ (JU a b = 0 ∧ Vx (Xh a) (Xh b) = none)
 · obtain ⟨e, he⟩ := ZaO hv
   refine CALL.aA [2, 3] (hA.mono he) ?_
   rintro r O nx ⟨rfl, rfl, rfl⟩
   conv => whnf
   repeat' ((first | refine AU ?_ | (refine IW (fun h => ?_) (fun h => ?_) <;> try (exfalso; omega))) <;> conv => whnf)
   refine CALL.aA [2, 3] (hA.mono he) ?_
   rintro r O nx ⟨rfl, rfl, rfl⟩
   conv => whnf
   repeat' ((first | refine AU ?_ | (refine IW (fun h => ?_) (fun h => ?_) <;> try (exfalso; omega))) <;> conv => whnf)
   refine CALL.aA [0, 1] (hR.mono he) ?_
   rintro r O nx ⟨rfl, rfl, rfl⟩
   conv => whnf
   repeat' ((first | refine CALL.value (Z6c _) rfl rfl ?_ | refine CALL.value (Jg) rfl rfl ?_ | refine AU ?_ | (refine IW (fun h => ?_) (fun h => ?_) <;> try (exfalso; omega))) <;> conv => whnf)
   conv => whnf
   repeat' ((first | refine AU ?_ | (refine IW (fun h => ?_) (fun h => ?_) <;> try (exfalso; omega))) <;> conv => whnf)
   refine CALL.aA [0, 2] (hKa) ?_
   rintro r O nx ⟨rfl, rfl, rfl⟩
   conv => whnf
   repeat' ((first | refine AU ?_ | (refine IW (fun h => ?_) (fun h => ?_) <;> try (exfalso; omega))) <;> conv => whnf)
   refine CALL.aA [1, 3] (hKb) ?_
   rintro r O nx ⟨rfl, rfl, rfl⟩
   conv => whnf
   repeat' ((first | refine AU ?_ | (refine IW (fun h => ?_) (fun h => ?_) <;> try (exfalso; omega))) <;> conv => whnf)
   refine CALL.aA [2] (hSp) ?_
   rintro r O nx ⟨rfl, rfl, rfl⟩
   conv => whnf
   repeat' ((first | refine AU ?_ | (refine IW (fun h => ?_) (fun h => ?_) <;> try (exfalso; omega))) <;> conv => whnf)
   refine LOOP.once Z5 ?_
   conv => whnf
   repeat' ((first | refine AU ?_ | (refine IW (fun h => ?_) (fun h => ?_) <;> try (exfalso; omega))) <;> conv => whnf)
   refine LOOP.nil 7 2 rfl ?_
   obtain ⟨C, hC⟩ : ∃ C : List Pr, C = [] := ⟨_, rfl⟩
   have hCl : C.length = 0 := by rw [hC]; rfl
   refine LOOP.gok Z5 [9, 11] [5, 6] (X := Nat × List Pr) (fun x => x.1 ≤ 20 ∧ x.2.length = C.length + x.1) (fun x => [(14, .int .i64 (x.1 : Int)), (7, .sl (.loc 4) 0 2 x.2.length none)]) (fun x => [(4, .rows 2 (x.2.map Vj))]) 5 (fun x => 20 - x.1) (0, C) ⟨by simp, by simp⟩ ?_
   conv => whnf
   refine ⟨by (subst hC; exact GOES.kA h0 [2, 3, 4]), ?_⟩
   rintro ⟨k, E⟩ ⟨hk, hE⟩
   dsimp only at hk hE ⊢
   conv => whnf
   by_cases hkl : k < 20
   · repeat' ((first | (refine NEED.mk (ZM 32 rfl rfl (by simp) (by simp) (by omega)) ?_; conv => whnf) | refine AU ?_ | (refine IW (fun h => ?_) (fun h => ?_) <;> try (exfalso; omega))) <;> conv => whnf)
     refine ⟨(k + 1, E ++ [([109, 111, 114, 101], [])]), ⟨by dsimp only; omega, by simp [hE] <;> omega⟩, by dsimp only; omega, ?_⟩
     dsimp only
     conv => whnf
     exact GOES.kA h0 [2, 3, 6]
   repeat' ((first | refine CALL.value (Jg) rfl rfl ?_ | refine AU ?_ | (refine IW (fun h => ?_) (fun h => ?_) <;> try (exfalso; omega))) <;> conv => whnf)
   exact FIN.valueK h0 rfl rfl
 · have hv0 : JU a b = 0 := Classical.byContradiction fun h => hv (.inl h)
   obtain ⟨ps, hps⟩ : ∃ ps, Vx (Xh a) (Xh b) = some ps := by
     cases h : Vx (Xh a) (Xh b) with
     | none => exact (hv (.inr ⟨hv0, h⟩)).elim
     | some ps => exact ⟨ps, rfl⟩
   have he := Zby hv0 hps
   refine CALL.aA [2, 3] (hA.mono he) ?_
   rintro r O nx ⟨rfl, rfl, rfl⟩
   conv => whnf
   repeat' ((first | refine AU ?_ | (refine IW (fun h => ?_) (fun h => ?_) <;> try (exfalso; omega))) <;> conv => whnf)
   refine CALL.aA [2, 3] (hA.mono he) ?_
   rintro r O nx ⟨rfl, rfl, rfl⟩
   conv => whnf
   repeat' ((first | refine AU ?_ | (refine IW (fun h => ?_) (fun h => ?_) <;> try (exfalso; omega))) <;> conv => whnf)
   refine CALL.aA [0, 1] (hR.mono he) ?_
   rintro r O nx ⟨rfl, rfl, rfl⟩
   conv => whnf
   have hpl := Z8J hps
   have hol : (ownB (Xh a) (Xh b)).length ≤ (Xh b).length := List.length_filter_le _ _
   have hBl : (Xh b).length ≤ (ZF b).length := Us _
   have hBl2 : (ZF b).length ≤ b.length * 4 := Jp _ YT _
   unfold Xg at hb
   simp only [List.length_nil] at hpl
   have hS := Z22 ps [] [] none none (by simp; omega)
   rw [List.append_nil] at hS
   repeat' ((first | refine CALL.value (Z6c _) rfl rfl ?_ | refine AU ?_ | (refine IW (fun h => ?_) (fun h => ?_) <;> try (exfalso; omega))) <;> conv => whnf)
   refine CALL.aA [4, 6] (hS) ?_
   rintro r O nx ⟨rfl, rfl, rfl⟩
   conv => whnf
   repeat' ((first | refine AU ?_ | (refine IW (fun h => ?_) (fun h => ?_) <;> try (exfalso; omega))) <;> conv => whnf)
   refine CALL.aA [5, 6] (hS) ?_
   rintro r O nx ⟨rfl, rfl, rfl⟩
   conv => whnf
   repeat' ((first | refine AU ?_ | (refine IW (fun h => ?_) (fun h => ?_) <;> try (exfalso; omega))) <;> conv => whnf)
   refine CALL.aA [0, 2] (hKa) ?_
   rintro r O nx ⟨rfl, rfl, rfl⟩
   conv => whnf
   repeat' ((first | refine AU ?_ | (refine IW (fun h => ?_) (fun h => ?_) <;> try (exfalso; omega))) <;> conv => whnf)
   refine CALL.aA [1, 3] (hKb) ?_
   rintro r O nx ⟨rfl, rfl, rfl⟩
   conv => whnf
   repeat' ((first | refine AU ?_ | (refine IW (fun h => ?_) (fun h => ?_) <;> try (exfalso; omega))) <;> conv => whnf)
   refine CALL.aA [2] (hSp) ?_
   rintro r O nx ⟨rfl, rfl, rfl⟩
   conv => whnf
   repeat' ((first | refine AU ?_ | (refine IW (fun h => ?_) (fun h => ?_) <;> try (exfalso; omega))) <;> conv => whnf)
   refine LOOP.gok Z5 [7, 9, 11] [] (X := Nat × List Pr) (fun x => x.1 ≤ ps.length ∧ x.2.length = ps.length) (fun x => [(13, .int .i64 (x.1 : Int))]) (fun x => [(4, .rows 2 (x.2.map Vj)), (5, .rows 2 (ps.map Vj)), (6, .rows 2 (ps.map Vj))]) 7 (fun x => ps.length - x.1) (0, ps) ⟨by simp, rfl⟩ ?_
   conv => whnf
   refine ⟨by exact GOES.kA h0 [2, 3, 4, 5, 6], ?_⟩
   rintro ⟨i, C⟩ ⟨hi, hC⟩
   dsimp only at hi hC ⊢
   conv => whnf
   by_cases hil : i < ps.length
   · have g := ZbN (l := C) (i := i) (k := 0 + (i : Int).toNat) (by omega) (by omega)
     repeat' ((first | (refine GET.at g ?_; conv => whnf) | refine AU ?_ | (refine IW (fun h => ?_) (fun h => ?_) <;> try (exfalso; omega))) <;> conv => whnf)
     refine ⟨(i + 1, C.set i ([115, 112, 111, 105, 108, 116], [])), ⟨by dsimp only; omega, by simp [hC]⟩, by dsimp only; omega, ?_⟩
     dsimp only
     conv => whnf
     exact GOES.kA h0 [2, 3, 4, 5, 6]
   have hie : i = ps.length := by omega
   subst hie
   repeat' ((first | refine AU ?_ | (refine IW (fun h => ?_) (fun h => ?_) <;> try (exfalso; omega))) <;> conv => whnf)
   refine LOOP.gok Z5 [9, 11] [5, 6] (X := Nat × List Pr) (fun x => x.1 ≤ 20 ∧ x.2.length = C.length + x.1) (fun x => [(14, .int .i64 (x.1 : Int)), (7, .sl (.loc 4) 0 2 x.2.length none)]) (fun x => [(4, .rows 2 (x.2.map Vj))]) 7 (fun x => 20 - x.1) (0, C) ⟨by simp, by simp⟩ ?_
   conv => whnf
   refine ⟨by (skip; exact GOES.kA h0 [2, 3, 4, 5, 6]), ?_⟩
   rintro ⟨k, E⟩ ⟨hk, hE⟩
   dsimp only at hk hE ⊢
   conv => whnf
   by_cases hkl : k < 20
   · repeat' ((first | (refine NEED.mk (ZM 32 rfl rfl (by simp) (by simp) (by omega)) ?_; conv => whnf) | refine AU ?_ | (refine IW (fun h => ?_) (fun h => ?_) <;> try (exfalso; omega))) <;> conv => whnf)
     refine ⟨(k + 1, E ++ [([109, 111, 114, 101], [])]), ⟨by dsimp only; omega, by simp [hE] <;> omega⟩, by dsimp only; omega, ?_⟩
     dsimp only
     conv => whnf
     exact GOES.kA h0 [2, 3, 8, 5, 6]
   repeat' ((first | refine CALL.value (Jg) rfl rfl ?_ | refine AU ?_ | (refine IW (fun h => ?_) (fun h => ?_) <;> try (exfalso; omega))) <;> conv => whnf)
   refine CALL.aA [5, 6] (hS) ?_
   rintro r O nx ⟨rfl, rfl, rfl⟩
   conv => whnf
   repeat' ((first | refine AU ?_ | (refine IW (fun h => ?_) (fun h => ?_) <;> try (exfalso; omega))) <;> conv => whnf)
   exact FIN.valueK h0 rfl rfl
end Go.Proofs.YtbfbokdccdagkaaGreatDoor
