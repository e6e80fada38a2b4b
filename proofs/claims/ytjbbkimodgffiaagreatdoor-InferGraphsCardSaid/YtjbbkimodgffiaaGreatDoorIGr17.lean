/- Part 17: World3. Conditions: as each part says. -/
import Derived.Test.YtjbbkimodgffiaaGreatDoorIGr15
import Derived.Test.YtjbbkimodgffiaaGreatDoorIGr16
set_option linter.unusedVariables false
set_option linter.unusedSimpArgs false
set_option maxRecDepth 20000
set_option maxHeartbeats 8000000
namespace Go.Proofs.YtjbbkimodgffiaaGreatDoor
open Go.Sx Go.Our
def Z8R : Plan := (Zq [(0, 2), (1, 1), (2, 1), (3, 2), (4, 1), (5, 2), (6, 1), (7, 1)])
def Xv : Plan := (Zq [(8, 1), (0, 2), (1, 1), (2, 1), (3, 2), (4, 2), (5, 0), (6, 3), (7, 1)])
def X6 : Plan := (.take 0 2 (.fork3 1 3 2 3 3 3 (.fork 2 3 3 3 (.take 3 3 (.take 4 0 (.take 5 0 (.join .nil)))) (.take 2 3 (.take 4 0 (.take 5 0 (.join .nil))))) (.fork 1 3 3 3 (.take 3 3 (.take 4 0 (.take 5 0 (.join .nil)))) (.fork 1 3 4 0 (.take 4 0 (.take 5 0 (.join .nil))) (.take 1 2 (.take 5 0 (.join .nil))))) (.fork 1 3 2 3 (.take 2 3 (.take 4 0 (.take 5 0 (.join .nil)))) (.fork 1 3 4 0 (.take 4 0 (.take 5 0 (.join .nil))) (.take 1 2 (.take 5 0 (.join .nil)))))))
def YG : Plan := (.take 0 2 (.fork 1 3 2 0 (.take 2 0 (.take 3 0 (.join .nil))) (.take 1 2 (.take 3 0 (.join .nil)))))
abbrev wdB (a y p t : Nat) (w : Wd) : Hp := .box [.sl (.loc a) 0 16 w.all.length none, .sl (.loc y) 0 49 w.why.length none, .mp (.loc p), .mp (.loc t)]
abbrev wdN (b a y p t : Nat) (w : Wd) : Hps := [(b, wdB a y p t w), (a, .rows 16 (w.all.map Za)), (y, .rows 49 (w.why.map WL)), (p, .mp (Vi w.place)), (t, .deep true 2 (atR w.at'))]
theorem ZaE {l : List Qd} (hl : ∀ q ∈ l, QdSm q) {q : Qd} (h : Der l q) : QdSm q := by
 induction h with
 | base h => exact hl _ h
 | step _ _ h iha ihb => rw [(Jc h).2.2.2.2.2]; exact JV iha ihb
theorem Z36 : Does Tryz.prog tab 74 0 [.val (.slice none 0 0)] [] [] (Val (.val (.slice none 0 0))) := by
 refine Does.enter Z2 (g := 74) (fn := Tryz.f74) Tryz.call74 Tryz.func74 rfl 8 rfl rfl [.tmp 2] rfl ?_
 intro w0 F η0 h0
 conv => whnf
 repeat' ((first | with_reducible refine IF.tt ?_ | with_reducible refine IF.ff ?_ | refine AU ?_ | ((with_reducible refine UNK.mk (fun h => ?_) ?_) <;> try (exfalso; omega)) | (refine IW (fun h => ?_) (fun h => ?_) <;> try (exfalso; omega))) <;> conv => whnf)
 exact FIN.value h0 rfl rfl
theorem YH (s : List UInt8) : Does Tryz.prog tab 75 0 [.str s] [] [] (Val (iriT s).sv) := by
 refine Does.enter Z2 (g := 75) (fn := Tryz.f75) Tryz.call75 Tryz.func75 rfl 5 rfl rfl [.cell 2 28] rfl ?_
 intro w0 F η0 h0
 conv => whnf
 repeat' ((first | with_reducible refine IF.tt ?_ | with_reducible refine IF.ff ?_ | refine AU ?_ | (refine IW (fun h => ?_) (fun h => ?_) <;> try (exfalso; omega))) <;> conv => whnf)
 exact FIN.value h0 rfl rfl
theorem back {M : Mx} {O : Hps} {nx : Nat} (i k : Nat) {j j' n : Nat} {x : Qd} {l : List Qd} {m : List (Qd × List Qd)} {rows : List (List SV)} (hx : ixA x m = some (j, l)) (hi : lkp i O = some (.deep true 2 ((atR m).modify j' (putD (.v (.sl (.loc k) 0 16 n none)))))) (hk : lkp k O = some (.rows 16 rows)) (hj : j' = j) (hn : n = l.length) (hr : rows = qdsV l) (hki : k ≠ i) :
   GHO M O nx (delK k (setK i (.deep true 2 (atR m)) O)) nx := by
 subst hj hn hr
 have hrow : (atR m)[j']? = some [.v (KQ.enc x), .kid 16 (qdsV l)] := by
   show (X8 KQ 16 qdsV m)[j']? = _
   unfold X8; rw [List.getElem?_map, Z2G hx]; rfl
 have h := GHO.putk (M := M) (nx := nx) i j' 1 k hi (row := [.v (KQ.enc x), .v (.sl (.loc k) 0 16 l.length none)]) (by rw [List.getElem?_modify, hrow]; simp [putD]) rfl hk (by simp) hki
 have e : setC ((atR m).modify j' (putD (.v (.sl (.loc k) 0 16 l.length none)))) j' 1 (.kid 16 ((qdsV l).take l.length)) = atR m := by
   apply List.ext_getElem?
   intro a
   rw [YL, List.getElem?_modify]
   by_cases ha : a = j'
   · subst ha; rw [hrow]; simp [putD, List.take_of_length_le]
   · have : ¬ j' = a := fun h => ha h.symm
     simp [ha, this]
 rwa [e] at h
theorem Z4m (most : Int) (w : Wd) (s : St) (hok : WdOK w) (hl : w.all.length ≤ 4194304) : Does Tryz.prog tab 109 7 [.agg (WL s), .ptr (.loc 5) 0 0 0, .ptr (.loc 6) 0 0 0] (wdN 0 1 2 3 4 w) [(5, .box [.ptr (.loc 0) 0 0 0]), (6, .box [.int .i64 most])]
   (fun r O nx => r = .bool (decide (((putM w s).all.length : Int) ≤ most)) ∧ O = wdN 0 7 8 3 4 (putM w s) ∧ nx = 9) := by
 have hp := Z64 w s hok hl
 refine Does.enter Z2 (g := 109) (fn := Tryz.f109) Tryz.call109 Tryz.func109 rfl 15 rfl rfl [.tmp 4] rfl ?_
 intro w0 F η0 h0
 conv => whnf
 repeat' ((first | with_reducible refine IF.tt ?_ | with_reducible refine IF.ff ?_ | refine AU ?_ | (refine IW (fun h => ?_) (fun h => ?_) <;> try (exfalso; omega))) <;> conv => whnf)
 refine CALL.aA [0, 1, 2, 3, 4] (hp) ?_
 rintro r O nx ⟨rfl, rfl, rfl⟩
 conv => whnf
 repeat' ((first | with_reducible refine IF.tt ?_ | with_reducible refine IF.ff ?_ | (show DRAWN _ _ _ _ _ _ _; first | refine DRAWN.of (id := 2) Z2 mixed Z8R (by kernel_rfl) ?_) | refine ADD.mk (fun _ _ => ?_) | refine AD ?_ | refine FORK.mk ?_ ?_ | refine AU ?_ | (refine IW (fun h => ?_) (fun h => ?_) <;> try (exfalso; omega))) <;> conv => whnf)
 refine FIN.aA h0 [8, 9] (.bool (decide (((putM w s).all.length : Int) ≤ most))) (wdN 0 7 8 3 4 (putM w s)) ?_
 exact ⟨rfl, rfl, rfl⟩
set_option maxHeartbeats 16000000 in
theorem Zbn (most : Int) (first : Bool) (x q : Qd) (ns : List Int) (L : List Qd) (w : Wd) (hI : CInv L w) (hL : ∀ q ∈ L, QdSm q) (hq : q ∈ w.all) (hm : (w.all.length : Int) ≤ most) (hmost : most ≤ 1048576) (hns : ns.length ≤ 100) : Does Tryz.prog tab 73 11 [.bool first, .agg (Za x), .sl (.loc 9) 0 1 ns.length none, .ptr (.loc 7) 0 0 0, .ptr (.loc 8) 0 0 0, .ptr (.loc 10) 0 0 0] (wdN 0 1 2 3 4 w)
   [(5, .box [.ptr (.loc 0) 0 0 0]), (6, .box [.int .i64 most]), (7, .box [.ptr (.loc 0) 0 0 0]), (8, .box (Za q)), (9, .rows 1 (ns.map Z4f)), (10, .box [.fn (.func 109) [] [.ptr (.loc 5) 0 0 0, .ptr (.loc 6) 0 0 0]])]
   (fun r O nx => r = .bool (askM (Z8 most) Wd.at' q (first, x, ns) w).2 ∧ O = wdN 0 11 12 3 4 (askM (Z8 most) Wd.at' q (first, x, ns) w).1 ∧ nx = 13) := by
 have hqS : QdSm q := ZaE hL (hI.der q hq)
 refine Does.enter Z2 (g := 73) (fn := Tryz.f73) Tryz.call73 Tryz.func73 rfl 62 rfl rfl [.tmp 9] rfl ?_
 intro w0 F η0 h0
 conv => whnf
 repeat' ((first | with_reducible refine IF.tt ?_ | with_reducible refine IF.ff ?_ | (show DRAWN _ _ _ _ _ _ _; first | refine DRAWN.of (id := 1) Z2 mixed Xv (by kernel_rfl) ?_ | refine DRAWN.of (id := 7) Z2 mixed X6 (by kernel_rfl) ?_ | refine DRAWN.of (id := 9) Z2 mixed YG (by kernel_rfl) ?_) | refine ADD.mk (fun _ _ => ?_) | refine AD ?_ | refine FORK.mk ?_ ?_ | with_reducible refine JOIN.go ?_ | (refine NEED.mk ⟨KQ.ok x, Z3R KQ _ _ _⟩ ?_; conv => whnf) | refine AU ?_ | (refine IW (fun h => ?_) (fun h => ?_) <;> try (exfalso; omega))) <;> conv => whnf)
 refine FINDD.A KQ 16 qdsV x _ (fun jx l hx => ?_) (fun hx => ?_)
 · have hatx : atL x w.at' = l := by unfold atL; rw [WX hx]; rfl
   have hsub : ∀ o ∈ l, o ∈ w.all := fun o ho => hI.spots.sub x o (hatx ▸ ho)
   have hll : l.length ≤ 4194304 := by have := hI.ok.at3 x; rw [hatx] at this; omega
   have hcl := Z1h l [] none (by omega)
   rw [List.append_nil] at hcl
   have hlq : (qdsV l).length = l.length := List.length_map ..
   conv => whnf
   rw [hlq]
   repeat' ((first | with_reducible refine IF.tt ?_ | with_reducible refine IF.ff ?_ | (show DRAWN _ _ _ _ _ _ _; first | refine DRAWN.of (id := 1) Z2 mixed Xv (by kernel_rfl) ?_ | refine DRAWN.of (id := 7) Z2 mixed X6 (by kernel_rfl) ?_ | refine DRAWN.of (id := 9) Z2 mixed YG (by kernel_rfl) ?_) | refine ADD.mk (fun _ _ => ?_) | refine AD ?_ | refine FORK.mk ?_ ?_ | with_reducible refine JOIN.go ?_ | refine AU ?_ | (refine IW (fun h => ?_) (fun h => ?_) <;> try (exfalso; omega))) <;> conv => whnf)
   refine CALL.aA [12] (hcl) ?_
   rintro r O nx ⟨rfl, rfl, rfl⟩
   conv => whnf
   repeat' ((first | with_reducible refine IF.tt ?_ | with_reducible refine IF.ff ?_ | (show DRAWN _ _ _ _ _ _ _; first | refine DRAWN.of (id := 1) Z2 mixed Xv (by kernel_rfl) ?_ | refine DRAWN.of (id := 7) Z2 mixed X6 (by kernel_rfl) ?_ | refine DRAWN.of (id := 9) Z2 mixed YG (by kernel_rfl) ?_) | refine ADD.mk (fun _ _ => ?_) | refine AD ?_ | refine FORK.mk ?_ ?_ | with_reducible refine JOIN.go ?_ | refine AU ?_ | (refine IW (fun h => ?_) (fun h => ?_) <;> try (exfalso; omega))) <;> conv => whnf)
   refine GHO.loop (back 4 12 hx rfl rfl (Nat.zero_add _) rfl rfl (by decide)) ?_
   have hR0 : (Zw (Z8 most) (preC first q l ns 0 0) w).2 = true := by rw [Z4j]; rfl
   refine LOOP.gok Z2 [0, 2, 4, 5, 24, 25] [] (X := Nat) (fun i => i ≤ l.length ∧ (Zw (Z8 most) (preC first q l ns i 0) w).2 = true) (fun i => [(26, .int .i64 (i : Int))]) (fun i => (11, .box (Za x)) :: (13, .rows 16 (l.map Za)) :: wdN 0 12 14 3 4 (Zw (Z8 most) (preC first q l ns i 0) w).1) 15 (fun i => l.length - i) 0 ⟨by omega, hR0⟩ ?_
   have hw0 : (Zw (Z8 most) (preC first q l ns 0 0) w).1 = w := by rw [Z4j]; rfl
   rw [hw0]
   conv => whnf
   refine ⟨by exact GOES.kA h0 [11, 1, 13, 2], ?_⟩
   clear hR0 hw0 hcl hlq
   rintro i ⟨hi, hRi⟩
   conv => whnf
   rcases Nat.lt_or_ge i l.length with hi | hie
   · have hoS : QdSm l[i] := ZaE hL (hI.der _ (hsub _ (List.getElem_mem _)))
     have gi : (l.map Za)[0 + (i : Int).toNat]? = some (Za l[i]) := by
       rw [show 0 + (i : Int).toNat = i by omega, List.getElem?_map, List.getElem?_eq_getElem hi]; rfl
     repeat' ((first | with_reducible refine IF.tt ?_ | with_reducible refine IF.ff ?_ | (refine GET.at gi ?_; conv => whnf) | refine AU ?_ | (refine IW (fun h => ?_) (fun h => ?_) <;> try (exfalso; omega))) <;> conv => whnf)
     skip
     refine LOOP.gok Z2 [0, 2, 4, 5, 11, 24, 25, 26, 30, 31] [11, 13, 15] (X := Nat) (fun j => j ≤ ns.length ∧ (Zw (Z8 most) (preC first q l ns i j) w).2 = true) (fun j => [(32, .int .i64 (j : Int))]) (fun j => wdN 0 12 14 3 4 (Zw (Z8 most) (preC first q l ns i j) w).1) 16 (fun j => ns.length - j) 0 ⟨by omega, hRi⟩ ?_
     conv => whnf
     refine ⟨by exact GOES.cA h0, ?_⟩
     rintro j ⟨hj, hR⟩
     obtain ⟨hRw, hRn, hRl⟩ := ZaB (most := most) (c := preC first q l ns i j) hI.ok (N := 1048576) (by omega) (by omega)
     have hRl := hRl hR
     conv => whnf
     rcases Nat.lt_or_ge j ns.length with hjl | hjl
     · have gn : (ns.map Z4f)[0 + (j : Int).toNat]? = some (Z4f ns[j]) := by
         rw [show 0 + (j : Int).toNat = j by omega, List.getElem?_map, List.getElem?_eq_getElem hjl]; rfl
       have hdT := Z4g ns[j] q l[i] hqS hoS
       have hdF := Z4g ns[j] l[i] q hoS hqS
       have htlT := Z4m most (Zw (Z8 most) (preC first q l ns i j) w).1 ⟨ns[j], q, l[i], (Zh ns[j] q l[i]).1⟩ hRw (by omega)
       have htlF := Z4m most (Zw (Z8 most) (preC first q l ns i j) w).1 ⟨ns[j], l[i], q, (Zh ns[j] l[i] q).1⟩ hRw (by omega)
       repeat' ((first | with_reducible refine IF.tt ?_ | with_reducible refine IF.ff ?_ | (refine GET.at gn ?_; conv => whnf) | refine AU ?_ | (refine IW (fun h => ?_) (fun h => ?_) <;> try (exfalso; omega))) <;> conv => whnf)
       refine DRAWN.of Z2 mixed X6 (by kernel_rfl) ?_
       conv => whnf
       (refine FORK.boxes [(15, .ptr (.loc 17) 0 0 0), (14, .ptr (.loc 16) 0 0 0), (37, .agg (Za l[i]))] [(15, .ptr (.loc 16) 0 0 0), (14, .ptr (.loc 17) 0 0 0), (37, .agg (Za l[i]))] [(17, .box (Za l[i])), (16, .box (Za q))] [(17, .box (Za q)), (16, .box (Za l[i]))] 18 (fun r1 r2 => by ((repeat' ((first | (with_reducible refine FORK.mk ?_ ?_) | (with_reducible refine ADD.mk (fun _ _ => ?_)) | refine AU ?_) <;> conv => whnf)); all_goals (first | exact JOIN.to3 r1 rfl rfl (fun t => by simp only [Z7]; (repeat' split) <;> first | rfl | (exfalso; omega)) | exact JOIN.to3 r2 rfl rfl (fun t => by simp only [Z7]; (repeat' split) <;> first | rfl | (exfalso; omega)) | trace_state))) ?_ ?_)
       all_goals (conv => whnf)
       all_goals ((with_reducible refine IF.mk (fun h => ?_) (fun h => ?_)) <;> (try simp (disch := omega) only [hsB, hsC, lnB, Z9, Zb, simprocAttr] at h) <;> subst h <;> conv => whnf)
       · refine DRAWN.of Z2 mixed YG (by kernel_rfl) ?_
         conv => whnf
         (refine FORK.swap [(41, .agg (Za q))] 16 17 (.box (Za l[i])) (.box (Za q)) (fun r => by ((repeat' ((first | (with_reducible refine FORK.mk ?_ ?_) | (with_reducible refine ADD.mk (fun _ _ => ?_)) | refine AU ?_) <;> conv => whnf)); all_goals exact JOIN.to r rfl rfl (fun _ => rfl))) ?_)
         conv => whnf
         repeat' ((first | with_reducible refine IF.tt ?_ | with_reducible refine IF.ff ?_ | (show DRAWN _ _ _ _ _ _ _; first | refine DRAWN.of (id := 1) Z2 mixed Xv (by kernel_rfl) ?_ | refine DRAWN.of (id := 7) Z2 mixed X6 (by kernel_rfl) ?_ | refine DRAWN.of (id := 9) Z2 mixed YG (by kernel_rfl) ?_) | refine ADD.mk (fun _ _ => ?_) | refine AD ?_ | refine FORK.mk ?_ ?_ | with_reducible refine JOIN.go ?_ | refine CALL.value (hdF) rfl rfl ?_ | refine AU ?_ | (refine IW (fun h => ?_) (fun h => ?_) <;> try (exfalso; omega))) <;> conv => whnf)
         · have hdd : (Zh ns[j] l[i] q).2 = true := h
           have hst : X5 false q l[i] ns[j] = some ⟨ns[j], l[i], q, (Zh ns[j] l[i] q).1⟩ := by simp [X5, hdd]
           have hsn := VO hR (⟨ns[j], l[i], q, (Zh ns[j] l[i] q).1⟩ : St)
           rw [← UN hi hjl hst] at hsn
           refine CALL.aA [0, 12, 14, 3, 4, 5, 6] (htlF) ?_
           rintro r O nx ⟨rfl, rfl, rfl⟩
           conv => whnf
           repeat' ((first | with_reducible refine IF.tt ?_ | with_reducible refine IF.ff ?_ | refine AU ?_ | (refine IW (fun h => ?_) (fun h => ?_) <;> try (exfalso; omega))) <;> conv => whnf)
           · have hsn : Zw (Z8 most) (preC false q l ns i (j + 1)) w = (putM (Zw (Z8 most) (preC false q l ns i j) w).1 ⟨ns[j], l[i], q, (Zh ns[j] l[i] q).1⟩, false) := by
               rw [hsn]
               have : ¬ ((putM (Zw (Z8 most) (preC false q l ns i j) w).1 ⟨ns[j], l[i], q, (Zh ns[j] l[i] q).1⟩).all.length : Int) ≤ most := by omega
               simp [Z8, this]
             obtain ⟨d, hd⟩ := UO (first := false) (q := q) (ns := ns) (j := j + 1) hi
             have hall : askM (Z8 most) Wd.at' q (false, x, ns) w = (putM (Zw (Z8 most) (preC false q l ns i j) w).1 ⟨ns[j], l[i], q, (Zh ns[j] l[i] q).1⟩, false) := by
               unfold askM
               rw [hatx, hd, VN (by rw [hsn]), hsn]
             rw [hall]
             refine FIN.aA h0 [19, 20] (.bool false) (wdN 0 11 12 3 4 (putM (Zw (Z8 most) (preC false q l ns i j) w).1 ⟨ns[j], l[i], q, (Zh ns[j] l[i] q).1⟩)) ?_
             exact ⟨rfl, rfl, rfl⟩
           · have hsn : Zw (Z8 most) (preC false q l ns i (j + 1)) w = (putM (Zw (Z8 most) (preC false q l ns i j) w).1 ⟨ns[j], l[i], q, (Zh ns[j] l[i] q).1⟩, true) := by rw [hsn]; simp [Z8, h]
             refine ⟨j + 1, ⟨by omega, by rw [hsn]⟩, by omega, ?_⟩
             rw [hsn]
             conv => whnf
             exact GOES.kA h0 [11, 19, 13, 20, 15]
         · have hst : X5 false q l[i] ns[j] = none := by simp [X5, h]
           refine ⟨j + 1, ⟨by omega, by rw [Xu hi hjl hst]; exact hR⟩, by omega, ?_⟩
           rw [Xu hi hjl hst]
           conv => whnf
           exact GOES.cA h0
       · repeat' ((first | with_reducible refine IF.tt ?_ | with_reducible refine IF.ff ?_ | (show DRAWN _ _ _ _ _ _ _; first | refine DRAWN.of (id := 1) Z2 mixed Xv (by kernel_rfl) ?_ | refine DRAWN.of (id := 7) Z2 mixed X6 (by kernel_rfl) ?_ | refine DRAWN.of (id := 9) Z2 mixed YG (by kernel_rfl) ?_) | refine ADD.mk (fun _ _ => ?_) | refine AD ?_ | refine FORK.mk ?_ ?_ | with_reducible refine JOIN.go ?_ | refine CALL.value (hdT) rfl rfl ?_ | refine AU ?_ | (refine IW (fun h => ?_) (fun h => ?_) <;> try (exfalso; omega))) <;> conv => whnf)
         · have hdd : (Zh ns[j] q l[i]).2 = true := h
           have hst : X5 true q l[i] ns[j] = some ⟨ns[j], q, l[i], (Zh ns[j] q l[i]).1⟩ := by simp [X5, hdd]
           have hsn := VO hR (⟨ns[j], q, l[i], (Zh ns[j] q l[i]).1⟩ : St)
           rw [← UN hi hjl hst] at hsn
           refine CALL.aA [0, 12, 14, 3, 4, 5, 6] (htlT) ?_
           rintro r O nx ⟨rfl, rfl, rfl⟩
           conv => whnf
           repeat' ((first | with_reducible refine IF.tt ?_ | with_reducible refine IF.ff ?_ | refine AU ?_ | (refine IW (fun h => ?_) (fun h => ?_) <;> try (exfalso; omega))) <;> conv => whnf)
           · have hsn : Zw (Z8 most) (preC true q l ns i (j + 1)) w = (putM (Zw (Z8 most) (preC true q l ns i j) w).1 ⟨ns[j], q, l[i], (Zh ns[j] q l[i]).1⟩, false) := by
               rw [hsn]
               have : ¬ ((putM (Zw (Z8 most) (preC true q l ns i j) w).1 ⟨ns[j], q, l[i], (Zh ns[j] q l[i]).1⟩).all.length : Int) ≤ most := by omega
               simp [Z8, this]
             obtain ⟨d, hd⟩ := UO (first := true) (q := q) (ns := ns) (j := j + 1) hi
             have hall : askM (Z8 most) Wd.at' q (true, x, ns) w = (putM (Zw (Z8 most) (preC true q l ns i j) w).1 ⟨ns[j], q, l[i], (Zh ns[j] q l[i]).1⟩, false) := by
               unfold askM
               rw [hatx, hd, VN (by rw [hsn]), hsn]
             rw [hall]
             refine FIN.aA h0 [19, 20] (.bool false) (wdN 0 11 12 3 4 (putM (Zw (Z8 most) (preC true q l ns i j) w).1 ⟨ns[j], q, l[i], (Zh ns[j] q l[i]).1⟩)) ?_
             exact ⟨rfl, rfl, rfl⟩
           · have hsn : Zw (Z8 most) (preC true q l ns i (j + 1)) w = (putM (Zw (Z8 most) (preC true q l ns i j) w).1 ⟨ns[j], q, l[i], (Zh ns[j] q l[i]).1⟩, true) := by rw [hsn]; simp [Z8, h]
             refine ⟨j + 1, ⟨by omega, by rw [hsn]⟩, by omega, ?_⟩
             rw [hsn]
             conv => whnf
             exact GOES.kA h0 [11, 19, 13, 20, 15]
         · have hst : X5 true q l[i] ns[j] = none := by simp [X5, h]
           refine ⟨j + 1, ⟨by omega, by rw [Xu hi hjl hst]; exact hR⟩, by omega, ?_⟩
           rw [Xu hi hjl hst]
           conv => whnf
           exact GOES.cA h0
       · refine DRAWN.of Z2 mixed YG (by kernel_rfl) ?_
         conv => whnf
         (refine FORK.swap [(41, .agg (Za q))] 17 16 (.box (Za l[i])) (.box (Za q)) (fun r => by ((repeat' ((first | (with_reducible refine FORK.mk ?_ ?_) | (with_reducible refine ADD.mk (fun _ _ => ?_)) | refine AU ?_) <;> conv => whnf)); all_goals exact JOIN.to r rfl rfl (fun _ => rfl))) ?_)
         conv => whnf
         repeat' ((first | with_reducible refine IF.tt ?_ | with_reducible refine IF.ff ?_ | (show DRAWN _ _ _ _ _ _ _; first | refine DRAWN.of (id := 1) Z2 mixed Xv (by kernel_rfl) ?_ | refine DRAWN.of (id := 7) Z2 mixed X6 (by kernel_rfl) ?_ | refine DRAWN.of (id := 9) Z2 mixed YG (by kernel_rfl) ?_) | refine ADD.mk (fun _ _ => ?_) | refine AD ?_ | refine FORK.mk ?_ ?_ | with_reducible refine JOIN.go ?_ | refine CALL.value (hdF) rfl rfl ?_ | refine AU ?_ | (refine IW (fun h => ?_) (fun h => ?_) <;> try (exfalso; omega))) <;> conv => whnf)
         · have hdd : (Zh ns[j] l[i] q).2 = true := h
           have hst : X5 false q l[i] ns[j] = some ⟨ns[j], l[i], q, (Zh ns[j] l[i] q).1⟩ := by simp [X5, hdd]
           have hsn := VO hR (⟨ns[j], l[i], q, (Zh ns[j] l[i] q).1⟩ : St)
           rw [← UN hi hjl hst] at hsn
           refine CALL.aA [0, 12, 14, 3, 4, 5, 6] (htlF) ?_
           rintro r O nx ⟨rfl, rfl, rfl⟩
           conv => whnf
           repeat' ((first | with_reducible refine IF.tt ?_ | with_reducible refine IF.ff ?_ | refine AU ?_ | (refine IW (fun h => ?_) (fun h => ?_) <;> try (exfalso; omega))) <;> conv => whnf)
           · have hsn : Zw (Z8 most) (preC false q l ns i (j + 1)) w = (putM (Zw (Z8 most) (preC false q l ns i j) w).1 ⟨ns[j], l[i], q, (Zh ns[j] l[i] q).1⟩, false) := by
               rw [hsn]
               have : ¬ ((putM (Zw (Z8 most) (preC false q l ns i j) w).1 ⟨ns[j], l[i], q, (Zh ns[j] l[i] q).1⟩).all.length : Int) ≤ most := by omega
               simp [Z8, this]
             obtain ⟨d, hd⟩ := UO (first := false) (q := q) (ns := ns) (j := j + 1) hi
             have hall : askM (Z8 most) Wd.at' q (false, x, ns) w = (putM (Zw (Z8 most) (preC false q l ns i j) w).1 ⟨ns[j], l[i], q, (Zh ns[j] l[i] q).1⟩, false) := by
               unfold askM
               rw [hatx, hd, VN (by rw [hsn]), hsn]
             rw [hall]
             refine FIN.aA h0 [19, 20] (.bool false) (wdN 0 11 12 3 4 (putM (Zw (Z8 most) (preC false q l ns i j) w).1 ⟨ns[j], l[i], q, (Zh ns[j] l[i] q).1⟩)) ?_
             exact ⟨rfl, rfl, rfl⟩
           · have hsn : Zw (Z8 most) (preC false q l ns i (j + 1)) w = (putM (Zw (Z8 most) (preC false q l ns i j) w).1 ⟨ns[j], l[i], q, (Zh ns[j] l[i] q).1⟩, true) := by rw [hsn]; simp [Z8, h]
             refine ⟨j + 1, ⟨by omega, by rw [hsn]⟩, by omega, ?_⟩
             rw [hsn]
             conv => whnf
             exact GOES.kA h0 [11, 19, 13, 20, 15]
         · have hst : X5 false q l[i] ns[j] = none := by simp [X5, h]
           refine ⟨j + 1, ⟨by omega, by rw [Xu hi hjl hst]; exact hR⟩, by omega, ?_⟩
           rw [Xu hi hjl hst]
           conv => whnf
           exact GOES.cA h0
       · repeat' ((first | with_reducible refine IF.tt ?_ | with_reducible refine IF.ff ?_ | (show DRAWN _ _ _ _ _ _ _; first | refine DRAWN.of (id := 1) Z2 mixed Xv (by kernel_rfl) ?_ | refine DRAWN.of (id := 7) Z2 mixed X6 (by kernel_rfl) ?_ | refine DRAWN.of (id := 9) Z2 mixed YG (by kernel_rfl) ?_) | refine ADD.mk (fun _ _ => ?_) | refine AD ?_ | refine FORK.mk ?_ ?_ | with_reducible refine JOIN.go ?_ | refine CALL.value (hdT) rfl rfl ?_ | refine AU ?_ | (refine IW (fun h => ?_) (fun h => ?_) <;> try (exfalso; omega))) <;> conv => whnf)
         · have hdd : (Zh ns[j] q l[i]).2 = true := h
           have hst : X5 true q l[i] ns[j] = some ⟨ns[j], q, l[i], (Zh ns[j] q l[i]).1⟩ := by simp [X5, hdd]
           have hsn := VO hR (⟨ns[j], q, l[i], (Zh ns[j] q l[i]).1⟩ : St)
           rw [← UN hi hjl hst] at hsn
           refine CALL.aA [0, 12, 14, 3, 4, 5, 6] (htlT) ?_
           rintro r O nx ⟨rfl, rfl, rfl⟩
           conv => whnf
           repeat' ((first | with_reducible refine IF.tt ?_ | with_reducible refine IF.ff ?_ | refine AU ?_ | (refine IW (fun h => ?_) (fun h => ?_) <;> try (exfalso; omega))) <;> conv => whnf)
           · have hsn : Zw (Z8 most) (preC true q l ns i (j + 1)) w = (putM (Zw (Z8 most) (preC true q l ns i j) w).1 ⟨ns[j], q, l[i], (Zh ns[j] q l[i]).1⟩, false) := by
               rw [hsn]
               have : ¬ ((putM (Zw (Z8 most) (preC true q l ns i j) w).1 ⟨ns[j], q, l[i], (Zh ns[j] q l[i]).1⟩).all.length : Int) ≤ most := by omega
               simp [Z8, this]
             obtain ⟨d, hd⟩ := UO (first := true) (q := q) (ns := ns) (j := j + 1) hi
             have hall : askM (Z8 most) Wd.at' q (true, x, ns) w = (putM (Zw (Z8 most) (preC true q l ns i j) w).1 ⟨ns[j], q, l[i], (Zh ns[j] q l[i]).1⟩, false) := by
               unfold askM
               rw [hatx, hd, VN (by rw [hsn]), hsn]
             rw [hall]
             refine FIN.aA h0 [19, 20] (.bool false) (wdN 0 11 12 3 4 (putM (Zw (Z8 most) (preC true q l ns i j) w).1 ⟨ns[j], q, l[i], (Zh ns[j] q l[i]).1⟩)) ?_
             exact ⟨rfl, rfl, rfl⟩
           · have hsn : Zw (Z8 most) (preC true q l ns i (j + 1)) w = (putM (Zw (Z8 most) (preC true q l ns i j) w).1 ⟨ns[j], q, l[i], (Zh ns[j] q l[i]).1⟩, true) := by rw [hsn]; simp [Z8, h]
             refine ⟨j + 1, ⟨by omega, by rw [hsn]⟩, by omega, ?_⟩
             rw [hsn]
             conv => whnf
             exact GOES.kA h0 [11, 19, 13, 20, 15]
         · have hst : X5 true q l[i] ns[j] = none := by simp [X5, h]
           refine ⟨j + 1, ⟨by omega, by rw [Xu hi hjl hst]; exact hR⟩, by omega, ?_⟩
           rw [Xu hi hjl hst]
           conv => whnf
           exact GOES.cA h0
     · have hje : j = ns.length := by omega
       subst hje
       repeat' ((first | with_reducible refine IF.tt ?_ | with_reducible refine IF.ff ?_ | refine AU ?_ | (refine IW (fun h => ?_) (fun h => ?_) <;> try (exfalso; omega))) <;> conv => whnf)
       refine ⟨i + 1, ⟨by omega, by rw [← Z6d hi]; exact hR⟩, by omega, ?_⟩
       rw [← Z6d hi]
       conv => whnf
       exact GOES.cA h0
   · have hie : i = l.length := by omega
     subst hie
     have hall : askM (Z8 most) Wd.at' q (first, x, ns) w = ((Zw (Z8 most) (preC first q l ns l.length 0) w).1, true) := by
       unfold askM
       rw [hatx, Z6e]
       rw [Z6e] at hRi
       rw [← hRi]
     rw [hall]
     repeat' ((first | with_reducible refine IF.tt ?_ | with_reducible refine IF.ff ?_ | refine AU ?_ | (refine IW (fun h => ?_) (fun h => ?_) <;> try (exfalso; omega))) <;> conv => whnf)
     refine FIN.aA h0 [12, 14] (.bool true) (wdN 0 11 12 3 4 (Zw (Z8 most) (preC first q l ns l.length 0) w).1) ?_
     exact ⟨rfl, rfl, rfl⟩
 · have hall : askM (Z8 most) Wd.at' q (first, x, ns) w = (w, true) := by
     unfold askM atL; rw [Z2F hx]; rfl
   rw [hall]
   conv => whnf
   repeat' ((first | with_reducible refine IF.tt ?_ | with_reducible refine IF.ff ?_ | (show DRAWN _ _ _ _ _ _ _; first | refine DRAWN.of (id := 1) Z2 mixed Xv (by kernel_rfl) ?_ | refine DRAWN.of (id := 7) Z2 mixed X6 (by kernel_rfl) ?_ | refine DRAWN.of (id := 9) Z2 mixed YG (by kernel_rfl) ?_) | refine ADD.mk (fun _ _ => ?_) | refine AD ?_ | refine FORK.mk ?_ ?_ | with_reducible refine JOIN.go ?_ | refine CALL.value (Z36) rfl rfl ?_ | refine AU ?_ | (refine IW (fun h => ?_) (fun h => ?_) <;> try (exfalso; omega))) <;> conv => whnf)
   refine LOOP.once Z2 ?_
   conv => whnf
   repeat' ((first | with_reducible refine IF.tt ?_ | with_reducible refine IF.ff ?_ | refine AU ?_ | (refine IW (fun h => ?_) (fun h => ?_) <;> try (exfalso; omega))) <;> conv => whnf)
   refine FIN.aA h0 [1, 2] (.bool true) (wdN 0 11 12 3 4 w) ?_
   exact ⟨rfl, rfl, rfl⟩
end Go.Proofs.YtjbbkimodgffiaaGreatDoor
