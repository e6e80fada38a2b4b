/- Part 21: Why2. Conditions: as each part says. -/
import Derived.Test.YtjbbkimodgffiaaGreatDoorInW16
import Derived.Test.YtjbbkimodgffiaaGreatDoorInW19
set_option linter.unusedVariables false
set_option linter.unusedSimpArgs false
set_option maxRecDepth 20000
set_option maxHeartbeats 8000000
namespace Go.Proofs.YtjbbkimodgffiaaGreatDoor
open Go.Sx Go.Our
def Zes : Plan := (Zj [(0, 1), (1, 1), (2, 1), (3, 1), (4, 1), (5, 1), (6, 1), (7, 1), (9, 1), (10, 1), (11, 1), (12, 1), (8, 2), (13, 2), (14, 1), (15, 1)])
def Zet : Plan := (Zj [(0, 1), (1, 1), (2, 1), (3, 1), (4, 1), (5, 1), (6, 1), (7, 1), (8, 1), (9, 1), (11, 1), (12, 1), (13, 1), (14, 1), (10, 2), (15, 2), (16, 1), (17, 1), (18, 1), (19, 1), (20, 1), (21, 1), (23, 1), (24, 1), (25, 1), (26, 1), (22, 2), (27, 2), (28, 1), (29, 1), (30, 1), (31, 1), (32, 1)])
theorem Z92 {D : List St} {i k : Nat} (h : i < D.length) (e : k = i) : (D.map YK)[k]? = some (YK D[i]) := by subst e; rw [List.getElem?_map, List.getElem?_eq_getElem h]; rfl
theorem Zfi (a b : Qd) : (a.s.k == b.s.k && (a.s.t == b.s.t && (a.s.y == b.s.y && (a.s.l == b.s.l && (a.p.k == b.p.k && (a.p.t == b.p.t && (a.p.y == b.p.y && (a.p.l == b.p.l && (a.o.k == b.o.k && (a.o.t == b.o.t && (a.o.y == b.o.y && (a.o.l == b.o.l && (a.g.k == b.g.k && (a.g.t == b.g.t && (a.g.y == b.g.y && (a.g.l == b.g.l && true)))))))))))))))) = decide (a = b) := by
 rw [Bool.eq_iff_iff, decide_eq_true_iff]
 constructor
 · intro h
   exact Qd.ext' (by simpa [Zf, Qd.row] using h)
 · rintro rfl
   simp
theorem ZbN {l : List Qd} {q : Qd} (hr : Rise Zw l) (hq : q ∉ l) : Z06 Zw l q = false := by rw [Z07 triQ hr]; exact decide_eq_false hq
set_option maxHeartbeats 16000000 in
theorem ZbO (l : List Qd) (D : List St) (hl : l.length ≤ 2097152) (hD : D.length ≤ 16777216) (hr : Rise Zw l) (hT : Tidy l D) : Does Tryz.prog tab 19 2 [.sl (.loc 0) 0 16 l.length none, .sl (.loc 1) 0 49 D.length none] [] [(0, .rows 16 (l.map Zf)), (1, .rows 49 (D.map YK))] (ValK 2 (.bool true)) := by
 refine Does.enter Z2 (g := 19) (fn := Tryz.f19) Tryz.call19 Tryz.func19 rfl 90 rfl rfl [.tmp 4] rfl ?_
 intro w0 F η0 h0
 conv => whnf
 repeat' ((first | refine AU ?_ | (refine IW (fun h => ?_) (fun h => ?_) <;> try (exfalso; omega))) <;> conv => whnf)
 refine LOOP.gok Z2 [0, 1] [] (X := Nat) (fun i => i ≤ D.length) (fun i => [(5, .int .i64 (i : Int))]) (fun i => []) 2 (fun i => D.length - i) 0 (by omega) ?_
 conv => whnf
 refine ⟨by exact GOES.kA h0 [], ?_⟩
 intro i hi
 by_cases hil : i < D.length
 · have hnl : D[i].q ∉ l := hT.new _ (List.getElem_mem _)
   have hF := Z0E l [] D[i].q none (by simp; omega) hr
   rw [ZbN hr hnl, List.append_nil] at hF
   have gi := Z92 hil (k := 0 + (i : Int).toNat) (by omega)
   conv => whnf
   repeat' ((first | (refine GET.at gi ?_; conv => whnf) | refine AU ?_ | (refine IW (fun h => ?_) (fun h => ?_) <;> try (exfalso; omega))) <;> conv => whnf)
   refine CALL.aA [0] (hF) ?_
   rintro r O nx ⟨rfl, rfl, rfl⟩
   conv => whnf
   repeat' ((first | refine AU ?_ | (refine IW (fun h => ?_) (fun h => ?_) <;> try (exfalso; omega))) <;> conv => whnf)
   obtain ⟨kk, hkk⟩ : ∃ kk, i + 1 < D.length → ∃ hk : kk < D.length, i < kk ∧ (D[kk].a = D[i].q ∨ D[kk].b = D[i].q) := by
     by_cases h : i + 1 < D.length
     · obtain ⟨kk, h1, h2⟩ := hT.used i h
       exact ⟨kk, fun _ => ⟨h1, h2⟩⟩
     · exact ⟨0, fun h' => (h h').elim⟩
   refine LOOP.gok Z2 [0, 1, 5, 7] [] (X := Nat × Bool) (fun x => x.1 ≤ D.length ∧ (i + 1 = D.length → x.2 = true) ∧ (i + 1 < D.length → kk < x.1 → x.2 = true)) (fun x => [(9, .int .i64 (x.1 : Int)), (8, .bool x.2)]) (fun x => []) 2 (fun x => D.length - x.1) (0, (i : Int) == IntKind.i64.wrap ((D.length : Int) - 1)) ⟨by simp, fun h => by simp only [beq_iff_eq]; rw [Z5 (by omega) (by omega)]; omega, fun h h2 => by simp at h2⟩ ?_
   conv => whnf
   refine ⟨by exact GOES.kA h0 [], ?_⟩
   rintro ⟨k, b⟩ ⟨hk, hb1, hb2⟩
   dsimp only at hk hb1 hb2 ⊢
   by_cases hkl : k < D.length
   · have gk := Z92 hkl (k := 0 + (k : Int).toNat) (by omega)
     have hone := hT.one i k hil hkl
     conv => whnf
     repeat' ((first | refine DRAWN.of (id := 9) Z2 Z8 Zes (by kernel_rfl) ?_ | refine DRAWN.of (id := 11) Z2 Z8 Zet (by kernel_rfl) ?_ | refine ADD.mk (fun _ _ => ?_) | refine AD ?_ | refine FORK.mk ?_ ?_ | (refine GET.at gi ?_; conv => whnf) | (refine GET.at gk ?_; conv => whnf) | (refine GETG.at gi ?_; conv => whnf) | (refine GETG.at gk ?_; conv => whnf) | refine AU ?_ | (refine IW (fun h => ?_) (fun h => ?_) <;> try (exfalso; omega))) <;> conv => whnf)
     · exact (hone (by omega) (Qd.ext' (by simpa [Zf, Qd.row] using h))).elim
     · refine ⟨(k + 1, true), ⟨by dsimp only; omega, fun _ => rfl, fun _ _ => rfl⟩, by dsimp only; omega, ?_⟩
       dsimp only
       conv => whnf
       exact GOES.kA h0 []
     · refine ⟨(k + 1, true), ⟨by dsimp only; omega, fun _ => rfl, fun _ _ => rfl⟩, by dsimp only; omega, ?_⟩
       dsimp only
       conv => whnf
       exact GOES.kA h0 []
     · refine ⟨(k + 1, decide (D[k].b = D[i].q)), ⟨by dsimp only; omega, fun h' => by have := hb1 h'; simp_all, fun h1 h2 => ?_⟩, by dsimp only; omega, ?_⟩
       · obtain ⟨h3, h4, h5⟩ := hkk h1
         by_cases e : kk < k
         · have := hb2 h1 e; simp_all
         · dsimp only at h2
           obtain rfl : kk = k := by omega
           rcases h5 with h5 | h5
           · simp [h5] at h
           · exact decide_eq_true h5
       · rw [Zfi D[k].b D[i].q]
         dsimp only
         conv => whnf
         exact GOES.kA h0 []
     · refine ⟨(k + 1, false), ⟨by dsimp only; omega, fun h' => by have := hb1 h'; simp_all, fun h1 h2 => ?_⟩, by dsimp only; omega, ?_⟩
       · obtain ⟨h3, h4, h5⟩ := hkk h1
         by_cases e : kk < k
         · have := hb2 h1 e; simp_all
         · exfalso; dsimp only at h2; omega
       · dsimp only
         conv => whnf
         exact GOES.kA h0 []
     · refine ⟨(k + 1, true), ⟨by dsimp only; omega, fun _ => rfl, fun _ _ => rfl⟩, by dsimp only; omega, ?_⟩
       dsimp only
       conv => whnf
       exact GOES.kA h0 []
     · refine ⟨(k + 1, false), ⟨by dsimp only; omega, fun h' => by have := hb1 h'; simp_all, fun h1 h2 => ?_⟩, by dsimp only; omega, ?_⟩
       · obtain ⟨h3, h4, h5⟩ := hkk h1
         by_cases e : kk < k
         · have := hb2 h1 e; simp_all
         · exfalso; dsimp only at h2; omega
       · dsimp only
         conv => whnf
         exact GOES.kA h0 []
   · have hke : k = D.length := by omega
     subst hke
     have hb : b = true := by
       by_cases e : i + 1 < D.length
       · exact hb2 e (hkk e).1
       · exact hb1 (by omega)
     subst hb
     conv => whnf
     repeat' ((first | refine AU ?_ | (refine IW (fun h => ?_) (fun h => ?_) <;> try (exfalso; omega))) <;> conv => whnf)
     refine ⟨i + 1, by omega, by omega, ?_⟩
     conv => whnf
     exact GOES.kA h0 []
 · have hie : i = D.length := by omega
   subst hie
   conv => whnf
   repeat' ((first | refine AU ?_ | (refine IW (fun h => ?_) (fun h => ?_) <;> try (exfalso; omega))) <;> conv => whnf)
   exact FIN.valueK h0 rfl rfl
end Go.Proofs.YtjbbkimodgffiaaGreatDoor
