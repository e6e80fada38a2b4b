/- Part 26: World8. Conditions: as each part says. -/
import Derived.Test.YtjbbkimodgffiaaGreatDoorInf23
set_option linter.unusedVariables false
set_option linter.unusedSimpArgs false
set_option maxRecDepth 20000
set_option maxHeartbeats 8000000
namespace Go.Proofs.YtjbbkimodgffiaaGreatDoor
open Go.Sx Go.Our
def Z3x : Plan := (Zj [(4, 1), (0, 2), (1, 1), (2, 1), (3, 2), (5, 2), (6, 3), (7, 1), (8, 1), (9, 1), (10, 1), (11, 1)])
def Jq : Plan := (Zj [(8, 1), (0, 2), (1, 1), (2, 1), (3, 2), (4, 2), (5, 0), (6, 3), (7, 1)])
def XO : Plan := (.take 0 2 (.fork3 1 3 2 3 3 3 (.fork 2 3 3 3 (.take 3 3 (.take 4 0 (.take 5 0 (.join .nil)))) (.take 2 3 (.take 4 0 (.take 5 0 (.join .nil))))) (.fork 1 3 3 3 (.take 3 3 (.take 4 0 (.take 5 0 (.join .nil)))) (.fork 1 3 4 0 (.take 4 0 (.take 5 0 (.join .nil))) (.take 1 2 (.take 5 0 (.join .nil))))) (.fork 1 3 2 3 (.take 2 3 (.take 4 0 (.take 5 0 (.join .nil)))) (.fork 1 3 4 0 (.take 4 0 (.take 5 0 (.join .nil))) (.take 1 2 (.take 5 0 (.join .nil)))))))
def Xe : Plan := (.take 0 2 (.fork 1 3 2 0 (.take 2 0 (.take 3 0 (.join .nil))) (.take 1 2 (.take 3 0 (.join .nil)))))
theorem Z3y (w : Wd) (s : St) (hok : WdOK w) : Does Tryz.prog tab 50 6 [.agg (Z13 s), .ptr (.loc 5) 0 0 0] (wdN 0 1 2 3 4 w) [(5, .box [.ptr (.loc 0) 0 0 0])]
   (fun r O nx => r = .bool (decide (s.q ∈ w.all)) ∧ O = wdN 0 1 2 3 4 w ∧ nx = 6) := by
 refine Does.enter Z2 (g := 50) (fn := Tryz.f50) Tryz.call50 Tryz.func50 rfl 17 rfl rfl [.tmp 3] rfl ?_
 intro w0 F η0 h0
 conv => whnf
 repeat' ((first | with_reducible refine IF.tt ?_ | with_reducible refine IF.ff ?_ | (show DRAWN _ _ _ _ _ _ _; first | refine DRAWN.of (id := 1) Z2 mixed Z3x (by kernel_rfl) ?_) | refine ADD.mk (fun _ _ => ?_) | refine AD ?_ | refine FORK.mk ?_ ?_ | (refine NEED.mk ⟨KQ.ok _, Z0r KQ _ _⟩ ?_; conv => whnf) | refine AU ?_ | (refine IW (fun h => ?_) (fun h => ?_) <;> try (exfalso; omega))) <;> conv => whnf)
 refine FIND.A KQ intV s.q _ (fun i v hx => ?_) (fun hx => ?_)
 · rw [decide_eq_true (ZfT hok hx)]
   conv => whnf
   repeat' ((first | with_reducible refine IF.tt ?_ | with_reducible refine IF.ff ?_ | (show DRAWN _ _ _ _ _ _ _; first | refine DRAWN.of (id := 1) Z2 mixed Z3x (by kernel_rfl) ?_) | refine ADD.mk (fun _ _ => ?_) | refine AD ?_ | refine FORK.mk ?_ ?_ | refine AU ?_ | (refine IW (fun h => ?_) (fun h => ?_) <;> try (exfalso; omega))) <;> conv => whnf)
   refine FIN.aA h0 [] (.bool true) (wdN 0 1 2 3 4 w) ?_
   exact ⟨rfl, rfl, rfl⟩
 · rw [decide_eq_false (ZfU hok hx)]
   conv => whnf
   repeat' ((first | with_reducible refine IF.tt ?_ | with_reducible refine IF.ff ?_ | (show DRAWN _ _ _ _ _ _ _; first | refine DRAWN.of (id := 1) Z2 mixed Z3x (by kernel_rfl) ?_) | refine ADD.mk (fun _ _ => ?_) | refine AD ?_ | refine FORK.mk ?_ ?_ | refine AU ?_ | (refine IW (fun h => ?_) (fun h => ?_) <;> try (exfalso; omega))) <;> conv => whnf)
   refine FIN.aA h0 [] (.bool false) (wdN 0 1 2 3 4 w) ?_
   exact ⟨rfl, rfl, rfl⟩
structure Fair (w : Wd) : Prop where
 ok : WdOK w
 spots : AtOK w
 sm : ∀ o ∈ w.all, QdSm o
 len : w.all.length ≤ 1048577
set_option maxHeartbeats 16000000 in
theorem ZcA (first : Bool) (x q : Qd) (ns : List Int) (w : Wd) (hI : Fair w) (hq : q ∈ w.all) (hns : ns.length ≤ 100) : Does Tryz.prog tab 73 10 [.bool first, .agg (Z3 x), .sl (.loc 8) 0 1 ns.length none, .ptr (.loc 6) 0 0 0, .ptr (.loc 7) 0 0 0, .ptr (.loc 9) 0 0 0] (wdN 0 1 2 3 4 w)
   [(5, .box [.ptr (.loc 0) 0 0 0]), (6, .box [.ptr (.loc 0) 0 0 0]), (7, .box (Z3 q)), (8, .rows 1 (ns.map XS)), (9, .box [.fn (.func 50) [] [.ptr (.loc 5) 0 0 0]])]
   (fun r O nx => r = .bool (askM (Zz w) (fun _ => w.at') q (first, x, ns) ()).2 ∧ O = wdN 0 1 2 3 4 w ∧ nx = 10) := by
 have hqS : QdSm q := hI.sm q hq
 have hm := hI.len
 refine Does.enter Z2 (g := 73) (fn := Tryz.f73) Tryz.call73 Tryz.func73 rfl 62 rfl rfl [.tmp 9] rfl ?_
 intro w0 F η0 h0
 conv => whnf
 repeat' ((first | with_reducible refine IF.tt ?_ | with_reducible refine IF.ff ?_ | (show DRAWN _ _ _ _ _ _ _; first | refine DRAWN.of (id := 1) Z2 mixed Jq (by kernel_rfl) ?_ | refine DRAWN.of (id := 7) Z2 mixed XO (by kernel_rfl) ?_ | refine DRAWN.of (id := 9) Z2 mixed Xe (by kernel_rfl) ?_) | refine ADD.mk (fun _ _ => ?_) | refine AD ?_ | refine FORK.mk ?_ ?_ | with_reducible refine JOIN.go ?_ | (refine NEED.mk ⟨KQ.ok x, Z3k KQ _ _ _⟩ ?_; conv => whnf) | refine AU ?_ | (refine IW (fun h => ?_) (fun h => ?_) <;> try (exfalso; omega))) <;> conv => whnf)
 refine FINDD.A KQ 16 qdsV x _ (fun jx l hx => ?_) (fun hx => ?_)
 · have hatx : atL x w.at' = l := by unfold atL; rw [Uh hx]; rfl
   have hsub : ∀ o ∈ l, o ∈ w.all := fun o ho => hI.spots.sub x o (hatx ▸ ho)
   have hll : l.length ≤ 4194304 := by have := hI.ok.at3 x; rw [hatx] at this; omega
   have hcl := WV l [] none (by omega)
   rw [List.append_nil] at hcl
   have hlq : (qdsV l).length = l.length := List.length_map ..
   conv => whnf
   rw [hlq]
   repeat' ((first | with_reducible refine IF.tt ?_ | with_reducible refine IF.ff ?_ | (show DRAWN _ _ _ _ _ _ _; first | refine DRAWN.of (id := 1) Z2 mixed Jq (by kernel_rfl) ?_ | refine DRAWN.of (id := 7) Z2 mixed XO (by kernel_rfl) ?_ | refine DRAWN.of (id := 9) Z2 mixed Xe (by kernel_rfl) ?_) | refine ADD.mk (fun _ _ => ?_) | refine AD ?_ | refine FORK.mk ?_ ?_ | with_reducible refine JOIN.go ?_ | refine AU ?_ | (refine IW (fun h => ?_) (fun h => ?_) <;> try (exfalso; omega))) <;> conv => whnf)
   refine CALL.aA [11] (hcl) ?_
   rintro r O nx ⟨rfl, rfl, rfl⟩
   conv => whnf
   repeat' ((first | with_reducible refine IF.tt ?_ | with_reducible refine IF.ff ?_ | (show DRAWN _ _ _ _ _ _ _; first | refine DRAWN.of (id := 1) Z2 mixed Jq (by kernel_rfl) ?_ | refine DRAWN.of (id := 7) Z2 mixed XO (by kernel_rfl) ?_ | refine DRAWN.of (id := 9) Z2 mixed Xe (by kernel_rfl) ?_) | refine ADD.mk (fun _ _ => ?_) | refine AD ?_ | refine FORK.mk ?_ ?_ | with_reducible refine JOIN.go ?_ | refine AU ?_ | (refine IW (fun h => ?_) (fun h => ?_) <;> try (exfalso; omega))) <;> conv => whnf)
   refine GHO.loop (back 4 11 hx rfl rfl (Nat.zero_add _) rfl rfl (by decide)) ?_
   have hR0 : (Zu (Zz w) (preC first q l ns 0 0) ()).2 = true := by rw [Z3s]; rfl
   refine LOOP.gok Z2 [0, 2, 4, 5, 24, 25] [] (X := Nat) (fun i => i ≤ l.length ∧ (Zu (Zz w) (preC first q l ns i 0) ()).2 = true) (fun i => [(26, .int .i64 (i : Int))]) (fun i => (10, .box (Z3 x)) :: (12, .rows 16 (l.map Z3)) :: wdN 0 1 2 3 4 w) 13 (fun i => l.length - i) 0 ⟨by omega, hR0⟩ ?_
   conv => whnf
   refine ⟨by exact GOES.cA h0, ?_⟩
   clear hR0 hcl hlq
   rintro i ⟨hi, hRi⟩
   conv => whnf
   rcases Nat.lt_or_ge i l.length with hi | hie
   · have hoS : QdSm l[i] := hI.sm _ (hsub _ (List.getElem_mem _))
     have gi : (l.map Z3)[0 + (i : Int).toNat]? = some (Z3 l[i]) := by
       rw [show 0 + (i : Int).toNat = i by omega, List.getElem?_map, List.getElem?_eq_getElem hi]; rfl
     repeat' ((first | with_reducible refine IF.tt ?_ | with_reducible refine IF.ff ?_ | (refine GET.at gi ?_; conv => whnf) | refine AU ?_ | (refine IW (fun h => ?_) (fun h => ?_) <;> try (exfalso; omega))) <;> conv => whnf)
     skip
     refine LOOP.gok Z2 [0, 2, 4, 5, 11, 24, 25, 26, 30, 31] [10, 12, 13] (X := Nat) (fun j => j ≤ ns.length ∧ (Zu (Zz w) (preC first q l ns i j) ()).2 = true) (fun j => [(32, .int .i64 (j : Int))]) (fun j => wdN 0 1 2 3 4 w) 14 (fun j => ns.length - j) 0 ⟨by omega, hRi⟩ ?_
     conv => whnf
     refine ⟨by exact GOES.cA h0, ?_⟩
     rintro j ⟨hj, hR⟩
     conv => whnf
     rcases Nat.lt_or_ge j ns.length with hjl | hjl
     · have gn : (ns.map XS)[0 + (j : Int).toNat]? = some (XS ns[j]) := by
         rw [show 0 + (j : Int).toNat = j by omega, List.getElem?_map, List.getElem?_eq_getElem hjl]; rfl
       have hdT := Z0p ns[j] q l[i] hqS hoS
       have hdF := Z0p ns[j] l[i] q hoS hqS
       have htlT := Z3y w ⟨ns[j], q, l[i], (Zl ns[j] q l[i]).1⟩ hI.ok
       have htlF := Z3y w ⟨ns[j], l[i], q, (Zl ns[j] l[i] q).1⟩ hI.ok
       repeat' ((first | with_reducible refine IF.tt ?_ | with_reducible refine IF.ff ?_ | (refine GET.at gn ?_; conv => whnf) | refine AU ?_ | (refine IW (fun h => ?_) (fun h => ?_) <;> try (exfalso; omega))) <;> conv => whnf)
       refine DRAWN.of Z2 mixed XO (by kernel_rfl) ?_
       conv => whnf
       (refine FORK.boxes [(15, .ptr (.loc 15) 0 0 0), (14, .ptr (.loc 14) 0 0 0), (37, .agg (Z3 l[i]))] [(15, .ptr (.loc 14) 0 0 0), (14, .ptr (.loc 15) 0 0 0), (37, .agg (Z3 l[i]))] [(15, .box (Z3 l[i])), (14, .box (Z3 q))] [(15, .box (Z3 q)), (14, .box (Z3 l[i]))] 16 (fun r1 r2 => by ((repeat' ((first | (with_reducible refine FORK.mk ?_ ?_) | (with_reducible refine ADD.mk (fun _ _ => ?_)) | refine AU ?_) <;> conv => whnf)); all_goals (first | exact JOIN.to3 r1 rfl rfl (fun t => by simp only [Zg]; (repeat' split) <;> first | rfl | (exfalso; omega)) | exact JOIN.to3 r2 rfl rfl (fun t => by simp only [Zg]; (repeat' split) <;> first | rfl | (exfalso; omega)) | trace_state))) ?_ ?_)
       all_goals (conv => whnf)
       all_goals ((with_reducible refine IF.mk (fun h => ?_) (fun h => ?_)) <;> (try simp (disch := omega) only [hsB, hsC, lnB, Z9, Zb, simprocAttr] at h) <;> subst h <;> conv => whnf)
       · refine DRAWN.of Z2 mixed Xe (by kernel_rfl) ?_
         conv => whnf
         (refine FORK.swap [(41, .agg (Z3 q))] 14 15 (.box (Z3 l[i])) (.box (Z3 q)) (fun r => by ((repeat' ((first | (with_reducible refine FORK.mk ?_ ?_) | (with_reducible refine ADD.mk (fun _ _ => ?_)) | refine AU ?_) <;> conv => whnf)); all_goals exact JOIN.to r rfl rfl (fun _ => rfl))) ?_)
         conv => whnf
         repeat' ((first | with_reducible refine IF.tt ?_ | with_reducible refine IF.ff ?_ | (show DRAWN _ _ _ _ _ _ _; first | refine DRAWN.of (id := 1) Z2 mixed Jq (by kernel_rfl) ?_ | refine DRAWN.of (id := 7) Z2 mixed XO (by kernel_rfl) ?_ | refine DRAWN.of (id := 9) Z2 mixed Xe (by kernel_rfl) ?_) | refine ADD.mk (fun _ _ => ?_) | refine AD ?_ | refine FORK.mk ?_ ?_ | with_reducible refine JOIN.go ?_ | refine CALL.value (hdF) rfl rfl ?_ | refine AU ?_ | (refine IW (fun h => ?_) (fun h => ?_) <;> try (exfalso; omega))) <;> conv => whnf)
         · have hdd : (Zl ns[j] l[i] q).2 = true := h
           have hst : Ye false q l[i] ns[j] = some ⟨ns[j], l[i], q, (Zl ns[j] l[i] q).1⟩ := by simp [Ye, hdd]
           have hsn := Xv hR (⟨ns[j], l[i], q, (Zl ns[j] l[i] q).1⟩ : St)
           rw [← Jm hi hjl hst] at hsn
           refine CALL.aA [0, 1, 2, 3, 4, 5] (htlF) ?_
           rintro r O nx ⟨rfl, rfl, rfl⟩
           conv => whnf
           repeat' ((first | with_reducible refine IF.tt ?_ | with_reducible refine IF.ff ?_ | refine AU ?_ | (refine IW (fun h => ?_) (fun h => ?_) <;> try (exfalso; omega))) <;> conv => whnf)
           · have hsn : (Zu (Zz w) (preC false q l ns i (j + 1)) ()).2 = false := by rw [hsn]; simp [Zz, h]
             obtain ⟨d, hd⟩ := Jn (first := false) (q := q) (ns := ns) (j := j + 1) hi
             have hall : (askM (Zz w) (fun _ => w.at') q (false, x, ns) ()).2 = false := by
               unfold askM
               show (Zu (Zz w) (Jv false q (atL x w.at') ns) ()).2 = false
               rw [hatx, hd, Xu hsn, hsn]
             rw [hall]
             refine FIN.aA h0 [] (.bool false) (wdN 0 1 2 3 4 w) ?_
             exact ⟨rfl, rfl, rfl⟩
           · have hsn : (Zu (Zz w) (preC false q l ns i (j + 1)) ()).2 = true := by rw [hsn]; simp [Zz, h]
             refine ⟨j + 1, ⟨by omega, hsn⟩, by omega, ?_⟩
             conv => whnf
             exact GOES.cA h0
         · have hst : Ye false q l[i] ns[j] = none := by simp [Ye, h]
           refine ⟨j + 1, ⟨by omega, by rw [YK hi hjl hst]; exact hR⟩, by omega, ?_⟩
           conv => whnf
           exact GOES.cA h0
       · repeat' ((first | with_reducible refine IF.tt ?_ | with_reducible refine IF.ff ?_ | (show DRAWN _ _ _ _ _ _ _; first | refine DRAWN.of (id := 1) Z2 mixed Jq (by kernel_rfl) ?_ | refine DRAWN.of (id := 7) Z2 mixed XO (by kernel_rfl) ?_ | refine DRAWN.of (id := 9) Z2 mixed Xe (by kernel_rfl) ?_) | refine ADD.mk (fun _ _ => ?_) | refine AD ?_ | refine FORK.mk ?_ ?_ | with_reducible refine JOIN.go ?_ | refine CALL.value (hdT) rfl rfl ?_ | refine AU ?_ | (refine IW (fun h => ?_) (fun h => ?_) <;> try (exfalso; omega))) <;> conv => whnf)
         · have hdd : (Zl ns[j] q l[i]).2 = true := h
           have hst : Ye true q l[i] ns[j] = some ⟨ns[j], q, l[i], (Zl ns[j] q l[i]).1⟩ := by simp [Ye, hdd]
           have hsn := Xv hR (⟨ns[j], q, l[i], (Zl ns[j] q l[i]).1⟩ : St)
           rw [← Jm hi hjl hst] at hsn
           refine CALL.aA [0, 1, 2, 3, 4, 5] (htlT) ?_
           rintro r O nx ⟨rfl, rfl, rfl⟩
           conv => whnf
           repeat' ((first | with_reducible refine IF.tt ?_ | with_reducible refine IF.ff ?_ | refine AU ?_ | (refine IW (fun h => ?_) (fun h => ?_) <;> try (exfalso; omega))) <;> conv => whnf)
           · have hsn : (Zu (Zz w) (preC true q l ns i (j + 1)) ()).2 = false := by rw [hsn]; simp [Zz, h]
             obtain ⟨d, hd⟩ := Jn (first := true) (q := q) (ns := ns) (j := j + 1) hi
             have hall : (askM (Zz w) (fun _ => w.at') q (true, x, ns) ()).2 = false := by
               unfold askM
               show (Zu (Zz w) (Jv true q (atL x w.at') ns) ()).2 = false
               rw [hatx, hd, Xu hsn, hsn]
             rw [hall]
             refine FIN.aA h0 [] (.bool false) (wdN 0 1 2 3 4 w) ?_
             exact ⟨rfl, rfl, rfl⟩
           · have hsn : (Zu (Zz w) (preC true q l ns i (j + 1)) ()).2 = true := by rw [hsn]; simp [Zz, h]
             refine ⟨j + 1, ⟨by omega, hsn⟩, by omega, ?_⟩
             conv => whnf
             exact GOES.cA h0
         · have hst : Ye true q l[i] ns[j] = none := by simp [Ye, h]
           refine ⟨j + 1, ⟨by omega, by rw [YK hi hjl hst]; exact hR⟩, by omega, ?_⟩
           conv => whnf
           exact GOES.cA h0
       · refine DRAWN.of Z2 mixed Xe (by kernel_rfl) ?_
         conv => whnf
         (refine FORK.swap [(41, .agg (Z3 q))] 15 14 (.box (Z3 l[i])) (.box (Z3 q)) (fun r => by ((repeat' ((first | (with_reducible refine FORK.mk ?_ ?_) | (with_reducible refine ADD.mk (fun _ _ => ?_)) | refine AU ?_) <;> conv => whnf)); all_goals exact JOIN.to r rfl rfl (fun _ => rfl))) ?_)
         conv => whnf
         repeat' ((first | with_reducible refine IF.tt ?_ | with_reducible refine IF.ff ?_ | (show DRAWN _ _ _ _ _ _ _; first | refine DRAWN.of (id := 1) Z2 mixed Jq (by kernel_rfl) ?_ | refine DRAWN.of (id := 7) Z2 mixed XO (by kernel_rfl) ?_ | refine DRAWN.of (id := 9) Z2 mixed Xe (by kernel_rfl) ?_) | refine ADD.mk (fun _ _ => ?_) | refine AD ?_ | refine FORK.mk ?_ ?_ | with_reducible refine JOIN.go ?_ | refine CALL.value (hdF) rfl rfl ?_ | refine AU ?_ | (refine IW (fun h => ?_) (fun h => ?_) <;> try (exfalso; omega))) <;> conv => whnf)
         · have hdd : (Zl ns[j] l[i] q).2 = true := h
           have hst : Ye false q l[i] ns[j] = some ⟨ns[j], l[i], q, (Zl ns[j] l[i] q).1⟩ := by simp [Ye, hdd]
           have hsn := Xv hR (⟨ns[j], l[i], q, (Zl ns[j] l[i] q).1⟩ : St)
           rw [← Jm hi hjl hst] at hsn
           refine CALL.aA [0, 1, 2, 3, 4, 5] (htlF) ?_
           rintro r O nx ⟨rfl, rfl, rfl⟩
           conv => whnf
           repeat' ((first | with_reducible refine IF.tt ?_ | with_reducible refine IF.ff ?_ | refine AU ?_ | (refine IW (fun h => ?_) (fun h => ?_) <;> try (exfalso; omega))) <;> conv => whnf)
           · have hsn : (Zu (Zz w) (preC false q l ns i (j + 1)) ()).2 = false := by rw [hsn]; simp [Zz, h]
             obtain ⟨d, hd⟩ := Jn (first := false) (q := q) (ns := ns) (j := j + 1) hi
             have hall : (askM (Zz w) (fun _ => w.at') q (false, x, ns) ()).2 = false := by
               unfold askM
               show (Zu (Zz w) (Jv false q (atL x w.at') ns) ()).2 = false
               rw [hatx, hd, Xu hsn, hsn]
             rw [hall]
             refine FIN.aA h0 [] (.bool false) (wdN 0 1 2 3 4 w) ?_
             exact ⟨rfl, rfl, rfl⟩
           · have hsn : (Zu (Zz w) (preC false q l ns i (j + 1)) ()).2 = true := by rw [hsn]; simp [Zz, h]
             refine ⟨j + 1, ⟨by omega, hsn⟩, by omega, ?_⟩
             conv => whnf
             exact GOES.cA h0
         · have hst : Ye false q l[i] ns[j] = none := by simp [Ye, h]
           refine ⟨j + 1, ⟨by omega, by rw [YK hi hjl hst]; exact hR⟩, by omega, ?_⟩
           conv => whnf
           exact GOES.cA h0
       · repeat' ((first | with_reducible refine IF.tt ?_ | with_reducible refine IF.ff ?_ | (show DRAWN _ _ _ _ _ _ _; first | refine DRAWN.of (id := 1) Z2 mixed Jq (by kernel_rfl) ?_ | refine DRAWN.of (id := 7) Z2 mixed XO (by kernel_rfl) ?_ | refine DRAWN.of (id := 9) Z2 mixed Xe (by kernel_rfl) ?_) | refine ADD.mk (fun _ _ => ?_) | refine AD ?_ | refine FORK.mk ?_ ?_ | with_reducible refine JOIN.go ?_ | refine CALL.value (hdT) rfl rfl ?_ | refine AU ?_ | (refine IW (fun h => ?_) (fun h => ?_) <;> try (exfalso; omega))) <;> conv => whnf)
         · have hdd : (Zl ns[j] q l[i]).2 = true := h
           have hst : Ye true q l[i] ns[j] = some ⟨ns[j], q, l[i], (Zl ns[j] q l[i]).1⟩ := by simp [Ye, hdd]
           have hsn := Xv hR (⟨ns[j], q, l[i], (Zl ns[j] q l[i]).1⟩ : St)
           rw [← Jm hi hjl hst] at hsn
           refine CALL.aA [0, 1, 2, 3, 4, 5] (htlT) ?_
           rintro r O nx ⟨rfl, rfl, rfl⟩
           conv => whnf
           repeat' ((first | with_reducible refine IF.tt ?_ | with_reducible refine IF.ff ?_ | refine AU ?_ | (refine IW (fun h => ?_) (fun h => ?_) <;> try (exfalso; omega))) <;> conv => whnf)
           · have hsn : (Zu (Zz w) (preC true q l ns i (j + 1)) ()).2 = false := by rw [hsn]; simp [Zz, h]
             obtain ⟨d, hd⟩ := Jn (first := true) (q := q) (ns := ns) (j := j + 1) hi
             have hall : (askM (Zz w) (fun _ => w.at') q (true, x, ns) ()).2 = false := by
               unfold askM
               show (Zu (Zz w) (Jv true q (atL x w.at') ns) ()).2 = false
               rw [hatx, hd, Xu hsn, hsn]
             rw [hall]
             refine FIN.aA h0 [] (.bool false) (wdN 0 1 2 3 4 w) ?_
             exact ⟨rfl, rfl, rfl⟩
           · have hsn : (Zu (Zz w) (preC true q l ns i (j + 1)) ()).2 = true := by rw [hsn]; simp [Zz, h]
             refine ⟨j + 1, ⟨by omega, hsn⟩, by omega, ?_⟩
             conv => whnf
             exact GOES.cA h0
         · have hst : Ye true q l[i] ns[j] = none := by simp [Ye, h]
           refine ⟨j + 1, ⟨by omega, by rw [YK hi hjl hst]; exact hR⟩, by omega, ?_⟩
           conv => whnf
           exact GOES.cA h0
     · have hje : j = ns.length := by omega
       subst hje
       repeat' ((first | with_reducible refine IF.tt ?_ | with_reducible refine IF.ff ?_ | refine AU ?_ | (refine IW (fun h => ?_) (fun h => ?_) <;> try (exfalso; omega))) <;> conv => whnf)
       refine ⟨i + 1, ⟨by omega, by rw [← Z5y hi]; exact hR⟩, by omega, ?_⟩
       conv => whnf
       exact GOES.cA h0
   · have hie : i = l.length := by omega
     subst hie
     have hall : (askM (Zz w) (fun _ => w.at') q (first, x, ns) ()).2 = true := by
       unfold askM
       show (Zu (Zz w) (Jv first q (atL x w.at') ns) ()).2 = true
       rw [Z5z] at hRi
       rw [hatx, hRi]
     rw [hall]
     repeat' ((first | with_reducible refine IF.tt ?_ | with_reducible refine IF.ff ?_ | refine AU ?_ | (refine IW (fun h => ?_) (fun h => ?_) <;> try (exfalso; omega))) <;> conv => whnf)
     refine FIN.aA h0 [] (.bool true) (wdN 0 1 2 3 4 w) ?_
     exact ⟨rfl, rfl, rfl⟩
 · have hall : (askM (Zz w) (fun _ => w.at') q (first, x, ns) ()).2 = true := by
     unfold askM
     show (Zu (Zz w) (Jv first q (atL x w.at') ns) ()).2 = true
     have : atL x w.at' = [] := by unfold atL; rw [Wj hx]; rfl
     rw [this]; rfl
   rw [hall]
   conv => whnf
   repeat' ((first | with_reducible refine IF.tt ?_ | with_reducible refine IF.ff ?_ | (show DRAWN _ _ _ _ _ _ _; first | refine DRAWN.of (id := 1) Z2 mixed Jq (by kernel_rfl) ?_ | refine DRAWN.of (id := 7) Z2 mixed XO (by kernel_rfl) ?_ | refine DRAWN.of (id := 9) Z2 mixed Xe (by kernel_rfl) ?_) | refine ADD.mk (fun _ _ => ?_) | refine AD ?_ | refine FORK.mk ?_ ?_ | with_reducible refine JOIN.go ?_ | refine CALL.value (Z0B) rfl rfl ?_ | refine AU ?_ | (refine IW (fun h => ?_) (fun h => ?_) <;> try (exfalso; omega))) <;> conv => whnf)
   refine LOOP.once Z2 ?_
   conv => whnf
   repeat' ((first | with_reducible refine IF.tt ?_ | with_reducible refine IF.ff ?_ | refine AU ?_ | (refine IW (fun h => ?_) (fun h => ?_) <;> try (exfalso; omega))) <;> conv => whnf)
   refine FIN.aA h0 [] (.bool true) (wdN 0 1 2 3 4 w) ?_
   exact ⟨rfl, rfl, rfl⟩
end Go.Proofs.YtjbbkimodgffiaaGreatDoor
