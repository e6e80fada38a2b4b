/- Part 19: World8. Conditions: as each part says. -/
import Derived.Test.YtjbbkimodgffiaaGreatDoorInG18
set_option linter.unusedVariables false
set_option linter.unusedSimpArgs false
set_option maxRecDepth 20000
set_option maxHeartbeats 8000000
namespace Go.Proofs.YtjbbkimodgffiaaGreatDoor
open Go.Sx Go.Our
def Z3d : Plan := (Zl [(4, 1), (0, 2), (1, 1), (2, 1), (3, 2), (5, 2), (6, 3), (7, 1), (8, 1), (9, 1), (10, 1), (11, 1)])
def Jg : Plan := (Zl [(8, 1), (0, 2), (1, 1), (2, 1), (3, 2), (4, 2), (5, 0), (6, 3), (7, 1)])
def XC : Plan := (.take 0 2 (.fork3 1 3 2 3 3 3 (.fork 2 3 3 3 (.take 3 3 (.take 4 0 (.take 5 0 (.join .nil)))) (.take 2 3 (.take 4 0 (.take 5 0 (.join .nil))))) (.fork 1 3 3 3 (.take 3 3 (.take 4 0 (.take 5 0 (.join .nil)))) (.fork 1 3 4 0 (.take 4 0 (.take 5 0 (.join .nil))) (.take 1 2 (.take 5 0 (.join .nil))))) (.fork 1 3 2 3 (.take 2 3 (.take 4 0 (.take 5 0 (.join .nil)))) (.fork 1 3 4 0 (.take 4 0 (.take 5 0 (.join .nil))) (.take 1 2 (.take 5 0 (.join .nil)))))))
def X4 : Plan := (.take 0 2 (.fork 1 3 2 0 (.take 2 0 (.take 3 0 (.join .nil))) (.take 1 2 (.take 3 0 (.join .nil)))))
theorem Z3e (w : Wd) (s : St) (hok : WdOK w) : Does Tryz.prog tab 50 6 [.agg (Z0C s), .ptr (.loc 5) 0 0 0] (wdN 0 1 2 3 4 w) [(5, .box [.ptr (.loc 0) 0 0 0])]
   (fun r O nx => r = .bool (decide (s.q ∈ w.all)) ∧ O = wdN 0 1 2 3 4 w ∧ nx = 6) := by
 refine Does.enter Z2 (g := 50) (fn := Tryz.f50) Tryz.call50 Tryz.func50 rfl 17 rfl rfl [.tmp 3] rfl ?_
 intro w0 F η0 h0
 conv => whnf
 repeat' ((first | with_reducible refine IF.tt ?_ | with_reducible refine IF.ff ?_ | (show DRAWN _ _ _ _ _ _ _; first | refine DRAWN.of (id := 1) Z2 mixed Z3d (by kernel_rfl) ?_) | refine ADD.mk (fun _ _ => ?_) | refine AD ?_ | refine FORK.mk ?_ ?_ | (refine NEED.mk ⟨KQ.ok _, WZ KQ _ _⟩ ?_; conv => whnf) | refine AU ?_ | (refine IW (fun h => ?_) (fun h => ?_) <;> try (exfalso; omega))) <;> conv => whnf)
 refine FIND.A KQ intV s.q _ (fun i v hx => ?_) (fun hx => ?_)
 · rw [decide_eq_true (ZeN hok hx)]
   conv => whnf
   repeat' ((first | with_reducible refine IF.tt ?_ | with_reducible refine IF.ff ?_ | (show DRAWN _ _ _ _ _ _ _; first | refine DRAWN.of (id := 1) Z2 mixed Z3d (by kernel_rfl) ?_) | refine ADD.mk (fun _ _ => ?_) | refine AD ?_ | refine FORK.mk ?_ ?_ | refine AU ?_ | (refine IW (fun h => ?_) (fun h => ?_) <;> try (exfalso; omega))) <;> conv => whnf)
   refine FIN.aA h0 [] (.bool true) (wdN 0 1 2 3 4 w) ?_
   exact ⟨rfl, rfl, rfl⟩
 · rw [decide_eq_false (ZeO hok hx)]
   conv => whnf
   repeat' ((first | with_reducible refine IF.tt ?_ | with_reducible refine IF.ff ?_ | (show DRAWN _ _ _ _ _ _ _; first | refine DRAWN.of (id := 1) Z2 mixed Z3d (by kernel_rfl) ?_) | refine ADD.mk (fun _ _ => ?_) | refine AD ?_ | refine FORK.mk ?_ ?_ | refine AU ?_ | (refine IW (fun h => ?_) (fun h => ?_) <;> try (exfalso; omega))) <;> conv => whnf)
   refine FIN.aA h0 [] (.bool false) (wdN 0 1 2 3 4 w) ?_
   exact ⟨rfl, rfl, rfl⟩
structure Fair (w : Wd) : Prop where
 ok : WdOK w
 spots : AtOK w
 sm : ∀ o ∈ w.all, QdSm o
 len : w.all.length ≤ 1048577
set_option maxHeartbeats 16000000 in
theorem ZbN (first : Bool) (x q : Qd) (ns : List Int) (w : Wd) (hI : Fair w) (hq : q ∈ w.all) (hns : ns.length ≤ 100) : Does Tryz.prog tab 73 10 [.bool first, .agg (Z7 x), .sl (.loc 8) 0 1 ns.length none, .ptr (.loc 6) 0 0 0, .ptr (.loc 7) 0 0 0, .ptr (.loc 9) 0 0 0] (wdN 0 1 2 3 4 w)
   [(5, .box [.ptr (.loc 0) 0 0 0]), (6, .box [.ptr (.loc 0) 0 0 0]), (7, .box (Z7 q)), (8, .rows 1 (ns.map XH)), (9, .box [.fn (.func 50) [] [.ptr (.loc 5) 0 0 0]])]
   (fun r O nx => r = .bool (askM (Zy w) (fun _ => w.at') q (first, x, ns) ()).2 ∧ O = wdN 0 1 2 3 4 w ∧ nx = 10) := by
 have hqS : QdSm q := hI.sm q hq
 have hm := hI.len
 refine Does.enter Z2 (g := 73) (fn := Tryz.f73) Tryz.call73 Tryz.func73 rfl 62 rfl rfl [.tmp 9] rfl ?_
 intro w0 F η0 h0
 conv => whnf
 repeat' ((first | with_reducible refine IF.tt ?_ | with_reducible refine IF.ff ?_ | (show DRAWN _ _ _ _ _ _ _; first | refine DRAWN.of (id := 1) Z2 mixed Jg (by kernel_rfl) ?_ | refine DRAWN.of (id := 7) Z2 mixed XC (by kernel_rfl) ?_ | refine DRAWN.of (id := 9) Z2 mixed X4 (by kernel_rfl) ?_) | refine ADD.mk (fun _ _ => ?_) | refine AD ?_ | refine FORK.mk ?_ ?_ | with_reducible refine JOIN.go ?_ | (refine NEED.mk ⟨KQ.ok x, Z2G KQ _ _ _⟩ ?_; conv => whnf) | refine AU ?_ | (refine IW (fun h => ?_) (fun h => ?_) <;> try (exfalso; omega))) <;> conv => whnf)
 refine FINDD.A KQ 16 qdsV x _ (fun jx l hx => ?_) (fun hx => ?_)
 · have hatx : atL x w.at' = l := by unfold atL; rw [U1 hx]; rfl
   have hsub : ∀ o ∈ l, o ∈ w.all := fun o ho => hI.spots.sub x o (hatx ▸ ho)
   have hll : l.length ≤ 4194304 := by have := hI.ok.at3 x; rw [hatx] at this; omega
   have hcl := WF l [] none (by omega)
   rw [List.append_nil] at hcl
   have hlq : (qdsV l).length = l.length := List.length_map ..
   conv => whnf
   rw [hlq]
   repeat' ((first | with_reducible refine IF.tt ?_ | with_reducible refine IF.ff ?_ | (show DRAWN _ _ _ _ _ _ _; first | refine DRAWN.of (id := 1) Z2 mixed Jg (by kernel_rfl) ?_ | refine DRAWN.of (id := 7) Z2 mixed XC (by kernel_rfl) ?_ | refine DRAWN.of (id := 9) Z2 mixed X4 (by kernel_rfl) ?_) | refine ADD.mk (fun _ _ => ?_) | refine AD ?_ | refine FORK.mk ?_ ?_ | with_reducible refine JOIN.go ?_ | refine AU ?_ | (refine IW (fun h => ?_) (fun h => ?_) <;> try (exfalso; omega))) <;> conv => whnf)
   refine CALL.aA [11] (hcl) ?_
   rintro r O nx ⟨rfl, rfl, rfl⟩
   conv => whnf
   repeat' ((first | with_reducible refine IF.tt ?_ | with_reducible refine IF.ff ?_ | (show DRAWN _ _ _ _ _ _ _; first | refine DRAWN.of (id := 1) Z2 mixed Jg (by kernel_rfl) ?_ | refine DRAWN.of (id := 7) Z2 mixed XC (by kernel_rfl) ?_ | refine DRAWN.of (id := 9) Z2 mixed X4 (by kernel_rfl) ?_) | refine ADD.mk (fun _ _ => ?_) | refine AD ?_ | refine FORK.mk ?_ ?_ | with_reducible refine JOIN.go ?_ | refine AU ?_ | (refine IW (fun h => ?_) (fun h => ?_) <;> try (exfalso; omega))) <;> conv => whnf)
   refine GHO.loop (back 4 11 hx rfl rfl (Nat.zero_add _) rfl rfl (by decide)) ?_
   have hR0 : (Zr (Zy w) (preC first q l ns 0 0) ()).2 = true := by rw [Z3b]; rfl
   refine LOOP.gok Z2 [0, 2, 4, 5, 24, 25] [] (X := Nat) (fun i => i ≤ l.length ∧ (Zr (Zy w) (preC first q l ns i 0) ()).2 = true) (fun i => [(26, .int .i64 (i : Int))]) (fun i => (10, .box (Z7 x)) :: (12, .rows 16 (l.map Z7)) :: wdN 0 1 2 3 4 w) 13 (fun i => l.length - i) 0 ⟨by omega, hR0⟩ ?_
   conv => whnf
   refine ⟨by exact GOES.cA h0, ?_⟩
   clear hR0 hcl hlq
   rintro i ⟨hi, hRi⟩
   conv => whnf
   rcases Nat.lt_or_ge i l.length with hi | hie
   · have hoS : QdSm l[i] := hI.sm _ (hsub _ (List.getElem_mem _))
     have gi : (l.map Z7)[0 + (i : Int).toNat]? = some (Z7 l[i]) := by
       rw [show 0 + (i : Int).toNat = i by omega, List.getElem?_map, List.getElem?_eq_getElem hi]; rfl
     repeat' ((first | with_reducible refine IF.tt ?_ | with_reducible refine IF.ff ?_ | (refine GET.at gi ?_; conv => whnf) | refine AU ?_ | (refine IW (fun h => ?_) (fun h => ?_) <;> try (exfalso; omega))) <;> conv => whnf)
     skip
     refine LOOP.gok Z2 [0, 2, 4, 5, 11, 24, 25, 26, 30, 31] [10, 12, 13] (X := Nat) (fun j => j ≤ ns.length ∧ (Zr (Zy w) (preC first q l ns i j) ()).2 = true) (fun j => [(32, .int .i64 (j : Int))]) (fun j => wdN 0 1 2 3 4 w) 14 (fun j => ns.length - j) 0 ⟨by omega, hRi⟩ ?_
     conv => whnf
     refine ⟨by exact GOES.cA h0, ?_⟩
     rintro j ⟨hj, hR⟩
     conv => whnf
     rcases Nat.lt_or_ge j ns.length with hjl | hjl
     · have gn : (ns.map XH)[0 + (j : Int).toNat]? = some (XH ns[j]) := by
         rw [show 0 + (j : Int).toNat = j by omega, List.getElem?_map, List.getElem?_eq_getElem hjl]; rfl
       have hdT := Z0c ns[j] q l[i] hqS hoS
       have hdF := Z0c ns[j] l[i] q hoS hqS
       have htlT := Z3e w ⟨ns[j], q, l[i], (Zj ns[j] q l[i]).1⟩ hI.ok
       have htlF := Z3e w ⟨ns[j], l[i], q, (Zj ns[j] l[i] q).1⟩ hI.ok
       repeat' ((first | with_reducible refine IF.tt ?_ | with_reducible refine IF.ff ?_ | (refine GET.at gn ?_; conv => whnf) | refine AU ?_ | (refine IW (fun h => ?_) (fun h => ?_) <;> try (exfalso; omega))) <;> conv => whnf)
       refine DRAWN.of Z2 mixed XC (by kernel_rfl) ?_
       conv => whnf
       (refine FORK.boxes [(15, .ptr (.loc 15) 0 0 0), (14, .ptr (.loc 14) 0 0 0), (37, .agg (Z7 l[i]))] [(15, .ptr (.loc 14) 0 0 0), (14, .ptr (.loc 15) 0 0 0), (37, .agg (Z7 l[i]))] [(15, .box (Z7 l[i])), (14, .box (Z7 q))] [(15, .box (Z7 q)), (14, .box (Z7 l[i]))] 16 (fun r1 r2 => by ((repeat' ((first | (with_reducible refine FORK.mk ?_ ?_) | (with_reducible refine ADD.mk (fun _ _ => ?_)) | refine AU ?_) <;> conv => whnf)); all_goals (first | exact JOIN.to3 r1 rfl rfl (fun t => by simp only [Zg]; (repeat' split) <;> first | rfl | (exfalso; omega)) | exact JOIN.to3 r2 rfl rfl (fun t => by simp only [Zg]; (repeat' split) <;> first | rfl | (exfalso; omega)) | trace_state))) ?_ ?_)
       all_goals (conv => whnf)
       all_goals ((with_reducible refine IF.mk (fun h => ?_) (fun h => ?_)) <;> (try simp (disch := omega) only [hsB, hsC, lnB, Z8, Zd, simprocAttr] at h) <;> subst h <;> conv => whnf)
       · refine DRAWN.of Z2 mixed X4 (by kernel_rfl) ?_
         conv => whnf
         (refine FORK.swap [(41, .agg (Z7 q))] 14 15 (.box (Z7 l[i])) (.box (Z7 q)) (fun r => by ((repeat' ((first | (with_reducible refine FORK.mk ?_ ?_) | (with_reducible refine ADD.mk (fun _ _ => ?_)) | refine AU ?_) <;> conv => whnf)); all_goals exact JOIN.to r rfl rfl (fun _ => rfl))) ?_)
         conv => whnf
         repeat' ((first | with_reducible refine IF.tt ?_ | with_reducible refine IF.ff ?_ | (show DRAWN _ _ _ _ _ _ _; first | refine DRAWN.of (id := 1) Z2 mixed Jg (by kernel_rfl) ?_ | refine DRAWN.of (id := 7) Z2 mixed XC (by kernel_rfl) ?_ | refine DRAWN.of (id := 9) Z2 mixed X4 (by kernel_rfl) ?_) | refine ADD.mk (fun _ _ => ?_) | refine AD ?_ | refine FORK.mk ?_ ?_ | with_reducible refine JOIN.go ?_ | refine CALL.value (hdF) rfl rfl ?_ | refine AU ?_ | (refine IW (fun h => ?_) (fun h => ?_) <;> try (exfalso; omega))) <;> conv => whnf)
         · have hdd : (Zj ns[j] l[i] q).2 = true := h
           have hst : Ya false q l[i] ns[j] = some ⟨ns[j], l[i], q, (Zj ns[j] l[i] q).1⟩ := by simp [Ya, hdd]
           have hsn := Xj hR (⟨ns[j], l[i], q, (Zj ns[j] l[i] q).1⟩ : St)
           rw [← Jd hi hjl hst] at hsn
           refine CALL.aA [0, 1, 2, 3, 4, 5] (htlF) ?_
           rintro r O nx ⟨rfl, rfl, rfl⟩
           conv => whnf
           repeat' ((first | with_reducible refine IF.tt ?_ | with_reducible refine IF.ff ?_ | refine AU ?_ | (refine IW (fun h => ?_) (fun h => ?_) <;> try (exfalso; omega))) <;> conv => whnf)
           · have hsn : (Zr (Zy w) (preC false q l ns i (j + 1)) ()).2 = false := by rw [hsn]; simp [Zy, h]
             obtain ⟨d, hd⟩ := Je (first := false) (q := q) (ns := ns) (j := j + 1) hi
             have hall : (askM (Zy w) (fun _ => w.at') q (false, x, ns) ()).2 = false := by
               unfold askM
               show (Zr (Zy w) (Jl false q (atL x w.at') ns) ()).2 = false
               rw [hatx, hd, Xi hsn, hsn]
             rw [hall]
             refine FIN.aA h0 [] (.bool false) (wdN 0 1 2 3 4 w) ?_
             exact ⟨rfl, rfl, rfl⟩
           · have hsn : (Zr (Zy w) (preC false q l ns i (j + 1)) ()).2 = true := by rw [hsn]; simp [Zy, h]
             refine ⟨j + 1, ⟨by omega, hsn⟩, by omega, ?_⟩
             conv => whnf
             exact GOES.cA h0
         · have hst : Ya false q l[i] ns[j] = none := by simp [Ya, h]
           refine ⟨j + 1, ⟨by omega, by rw [YE hi hjl hst]; exact hR⟩, by omega, ?_⟩
           conv => whnf
           exact GOES.cA h0
       · repeat' ((first | with_reducible refine IF.tt ?_ | with_reducible refine IF.ff ?_ | (show DRAWN _ _ _ _ _ _ _; first | refine DRAWN.of (id := 1) Z2 mixed Jg (by kernel_rfl) ?_ | refine DRAWN.of (id := 7) Z2 mixed XC (by kernel_rfl) ?_ | refine DRAWN.of (id := 9) Z2 mixed X4 (by kernel_rfl) ?_) | refine ADD.mk (fun _ _ => ?_) | refine AD ?_ | refine FORK.mk ?_ ?_ | with_reducible refine JOIN.go ?_ | refine CALL.value (hdT) rfl rfl ?_ | refine AU ?_ | (refine IW (fun h => ?_) (fun h => ?_) <;> try (exfalso; omega))) <;> conv => whnf)
         · have hdd : (Zj ns[j] q l[i]).2 = true := h
           have hst : Ya true q l[i] ns[j] = some ⟨ns[j], q, l[i], (Zj ns[j] q l[i]).1⟩ := by simp [Ya, hdd]
           have hsn := Xj hR (⟨ns[j], q, l[i], (Zj ns[j] q l[i]).1⟩ : St)
           rw [← Jd hi hjl hst] at hsn
           refine CALL.aA [0, 1, 2, 3, 4, 5] (htlT) ?_
           rintro r O nx ⟨rfl, rfl, rfl⟩
           conv => whnf
           repeat' ((first | with_reducible refine IF.tt ?_ | with_reducible refine IF.ff ?_ | refine AU ?_ | (refine IW (fun h => ?_) (fun h => ?_) <;> try (exfalso; omega))) <;> conv => whnf)
           · have hsn : (Zr (Zy w) (preC true q l ns i (j + 1)) ()).2 = false := by rw [hsn]; simp [Zy, h]
             obtain ⟨d, hd⟩ := Je (first := true) (q := q) (ns := ns) (j := j + 1) hi
             have hall : (askM (Zy w) (fun _ => w.at') q (true, x, ns) ()).2 = false := by
               unfold askM
               show (Zr (Zy w) (Jl true q (atL x w.at') ns) ()).2 = false
               rw [hatx, hd, Xi hsn, hsn]
             rw [hall]
             refine FIN.aA h0 [] (.bool false) (wdN 0 1 2 3 4 w) ?_
             exact ⟨rfl, rfl, rfl⟩
           · have hsn : (Zr (Zy w) (preC true q l ns i (j + 1)) ()).2 = true := by rw [hsn]; simp [Zy, h]
             refine ⟨j + 1, ⟨by omega, hsn⟩, by omega, ?_⟩
             conv => whnf
             exact GOES.cA h0
         · have hst : Ya true q l[i] ns[j] = none := by simp [Ya, h]
           refine ⟨j + 1, ⟨by omega, by rw [YE hi hjl hst]; exact hR⟩, by omega, ?_⟩
           conv => whnf
           exact GOES.cA h0
       · refine DRAWN.of Z2 mixed X4 (by kernel_rfl) ?_
         conv => whnf
         (refine FORK.swap [(41, .agg (Z7 q))] 15 14 (.box (Z7 l[i])) (.box (Z7 q)) (fun r => by ((repeat' ((first | (with_reducible refine FORK.mk ?_ ?_) | (with_reducible refine ADD.mk (fun _ _ => ?_)) | refine AU ?_) <;> conv => whnf)); all_goals exact JOIN.to r rfl rfl (fun _ => rfl))) ?_)
         conv => whnf
         repeat' ((first | with_reducible refine IF.tt ?_ | with_reducible refine IF.ff ?_ | (show DRAWN _ _ _ _ _ _ _; first | refine DRAWN.of (id := 1) Z2 mixed Jg (by kernel_rfl) ?_ | refine DRAWN.of (id := 7) Z2 mixed XC (by kernel_rfl) ?_ | refine DRAWN.of (id := 9) Z2 mixed X4 (by kernel_rfl) ?_) | refine ADD.mk (fun _ _ => ?_) | refine AD ?_ | refine FORK.mk ?_ ?_ | with_reducible refine JOIN.go ?_ | refine CALL.value (hdF) rfl rfl ?_ | refine AU ?_ | (refine IW (fun h => ?_) (fun h => ?_) <;> try (exfalso; omega))) <;> conv => whnf)
         · have hdd : (Zj ns[j] l[i] q).2 = true := h
           have hst : Ya false q l[i] ns[j] = some ⟨ns[j], l[i], q, (Zj ns[j] l[i] q).1⟩ := by simp [Ya, hdd]
           have hsn := Xj hR (⟨ns[j], l[i], q, (Zj ns[j] l[i] q).1⟩ : St)
           rw [← Jd hi hjl hst] at hsn
           refine CALL.aA [0, 1, 2, 3, 4, 5] (htlF) ?_
           rintro r O nx ⟨rfl, rfl, rfl⟩
           conv => whnf
           repeat' ((first | with_reducible refine IF.tt ?_ | with_reducible refine IF.ff ?_ | refine AU ?_ | (refine IW (fun h => ?_) (fun h => ?_) <;> try (exfalso; omega))) <;> conv => whnf)
           · have hsn : (Zr (Zy w) (preC false q l ns i (j + 1)) ()).2 = false := by rw [hsn]; simp [Zy, h]
             obtain ⟨d, hd⟩ := Je (first := false) (q := q) (ns := ns) (j := j + 1) hi
             have hall : (askM (Zy w) (fun _ => w.at') q (false, x, ns) ()).2 = false := by
               unfold askM
               show (Zr (Zy w) (Jl false q (atL x w.at') ns) ()).2 = false
               rw [hatx, hd, Xi hsn, hsn]
             rw [hall]
             refine FIN.aA h0 [] (.bool false) (wdN 0 1 2 3 4 w) ?_
             exact ⟨rfl, rfl, rfl⟩
           · have hsn : (Zr (Zy w) (preC false q l ns i (j + 1)) ()).2 = true := by rw [hsn]; simp [Zy, h]
             refine ⟨j + 1, ⟨by omega, hsn⟩, by omega, ?_⟩
             conv => whnf
             exact GOES.cA h0
         · have hst : Ya false q l[i] ns[j] = none := by simp [Ya, h]
           refine ⟨j + 1, ⟨by omega, by rw [YE hi hjl hst]; exact hR⟩, by omega, ?_⟩
           conv => whnf
           exact GOES.cA h0
       · repeat' ((first | with_reducible refine IF.tt ?_ | with_reducible refine IF.ff ?_ | (show DRAWN _ _ _ _ _ _ _; first | refine DRAWN.of (id := 1) Z2 mixed Jg (by kernel_rfl) ?_ | refine DRAWN.of (id := 7) Z2 mixed XC (by kernel_rfl) ?_ | refine DRAWN.of (id := 9) Z2 mixed X4 (by kernel_rfl) ?_) | refine ADD.mk (fun _ _ => ?_) | refine AD ?_ | refine FORK.mk ?_ ?_ | with_reducible refine JOIN.go ?_ | refine CALL.value (hdT) rfl rfl ?_ | refine AU ?_ | (refine IW (fun h => ?_) (fun h => ?_) <;> try (exfalso; omega))) <;> conv => whnf)
         · have hdd : (Zj ns[j] q l[i]).2 = true := h
           have hst : Ya true q l[i] ns[j] = some ⟨ns[j], q, l[i], (Zj ns[j] q l[i]).1⟩ := by simp [Ya, hdd]
           have hsn := Xj hR (⟨ns[j], q, l[i], (Zj ns[j] q l[i]).1⟩ : St)
           rw [← Jd hi hjl hst] at hsn
           refine CALL.aA [0, 1, 2, 3, 4, 5] (htlT) ?_
           rintro r O nx ⟨rfl, rfl, rfl⟩
           conv => whnf
           repeat' ((first | with_reducible refine IF.tt ?_ | with_reducible refine IF.ff ?_ | refine AU ?_ | (refine IW (fun h => ?_) (fun h => ?_) <;> try (exfalso; omega))) <;> conv => whnf)
           · have hsn : (Zr (Zy w) (preC true q l ns i (j + 1)) ()).2 = false := by rw [hsn]; simp [Zy, h]
             obtain ⟨d, hd⟩ := Je (first := true) (q := q) (ns := ns) (j := j + 1) hi
             have hall : (askM (Zy w) (fun _ => w.at') q (true, x, ns) ()).2 = false := by
               unfold askM
               show (Zr (Zy w) (Jl true q (atL x w.at') ns) ()).2 = false
               rw [hatx, hd, Xi hsn, hsn]
             rw [hall]
             refine FIN.aA h0 [] (.bool false) (wdN 0 1 2 3 4 w) ?_
             exact ⟨rfl, rfl, rfl⟩
           · have hsn : (Zr (Zy w) (preC true q l ns i (j + 1)) ()).2 = true := by rw [hsn]; simp [Zy, h]
             refine ⟨j + 1, ⟨by omega, hsn⟩, by omega, ?_⟩
             conv => whnf
             exact GOES.cA h0
         · have hst : Ya true q l[i] ns[j] = none := by simp [Ya, h]
           refine ⟨j + 1, ⟨by omega, by rw [YE hi hjl hst]; exact hR⟩, by omega, ?_⟩
           conv => whnf
           exact GOES.cA h0
     · have hje : j = ns.length := by omega
       subst hje
       repeat' ((first | with_reducible refine IF.tt ?_ | with_reducible refine IF.ff ?_ | refine AU ?_ | (refine IW (fun h => ?_) (fun h => ?_) <;> try (exfalso; omega))) <;> conv => whnf)
       refine ⟨i + 1, ⟨by omega, by rw [← Z56 hi]; exact hR⟩, by omega, ?_⟩
       conv => whnf
       exact GOES.cA h0
   · have hie : i = l.length := by omega
     subst hie
     have hall : (askM (Zy w) (fun _ => w.at') q (first, x, ns) ()).2 = true := by
       unfold askM
       show (Zr (Zy w) (Jl first q (atL x w.at') ns) ()).2 = true
       rw [Z57] at hRi
       rw [hatx, hRi]
     rw [hall]
     repeat' ((first | with_reducible refine IF.tt ?_ | with_reducible refine IF.ff ?_ | refine AU ?_ | (refine IW (fun h => ?_) (fun h => ?_) <;> try (exfalso; omega))) <;> conv => whnf)
     refine FIN.aA h0 [] (.bool true) (wdN 0 1 2 3 4 w) ?_
     exact ⟨rfl, rfl, rfl⟩
 · have hall : (askM (Zy w) (fun _ => w.at') q (first, x, ns) ()).2 = true := by
     unfold askM
     show (Zr (Zy w) (Jl first q (atL x w.at') ns) ()).2 = true
     have : atL x w.at' = [] := by unfold atL; rw [UV hx]; rfl
     rw [this]; rfl
   rw [hall]
   conv => whnf
   repeat' ((first | with_reducible refine IF.tt ?_ | with_reducible refine IF.ff ?_ | (show DRAWN _ _ _ _ _ _ _; first | refine DRAWN.of (id := 1) Z2 mixed Jg (by kernel_rfl) ?_ | refine DRAWN.of (id := 7) Z2 mixed XC (by kernel_rfl) ?_ | refine DRAWN.of (id := 9) Z2 mixed X4 (by kernel_rfl) ?_) | refine ADD.mk (fun _ _ => ?_) | refine AD ?_ | refine FORK.mk ?_ ?_ | with_reducible refine JOIN.go ?_ | refine CALL.value (Z0f) rfl rfl ?_ | refine AU ?_ | (refine IW (fun h => ?_) (fun h => ?_) <;> try (exfalso; omega))) <;> conv => whnf)
   refine LOOP.once Z2 ?_
   conv => whnf
   repeat' ((first | with_reducible refine IF.tt ?_ | with_reducible refine IF.ff ?_ | refine AU ?_ | (refine IW (fun h => ?_) (fun h => ?_) <;> try (exfalso; omega))) <;> conv => whnf)
   refine FIN.aA h0 [] (.bool true) (wdN 0 1 2 3 4 w) ?_
   exact ⟨rfl, rfl, rfl⟩
end Go.Proofs.YtjbbkimodgffiaaGreatDoor
