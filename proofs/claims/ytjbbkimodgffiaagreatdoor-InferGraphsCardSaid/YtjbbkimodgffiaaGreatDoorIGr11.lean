/- Part 11: Tag3, Tag4, Term1. Conditions: as each part says. -/
import Derived.Test.YtjbbkimodgffiaaGreatDoorIGr9
set_option linter.unusedVariables false
set_option linter.unusedSimpArgs false
set_option maxRecDepth 20000
set_option maxHeartbeats 8000000
namespace Go.Proofs.YtjbbkimodgffiaaGreatDoor
open Go.Sx Go.Our
theorem Z8G (ps : List (List UInt8)) (hb : Wb ps + ps.length ≤ 68719476736) (i m : Nat) (him : i + m = ps.length) (L E : List UInt8) (P : List UInt8) :
   Does Tryz.prog tab 182 4 [.ptr (.loc 0) 0 0 0] [(0, Vl i m L E [] [] 0 0 P), (2, .rows 1 []), (3, .rows 1 [])] [(1, .rows 1 (ps.map Zf))]
     (fun r O nx => ∃ (i' m' : Nat) (S R : List UInt8), i' + m' = ps.length ∧ r = .bool (YE (ps.drop i)).isSome ∧ (∀ l, YE (ps.drop i) = some l → l = ps.drop i') ∧ O = [(0, U0 i' m' L E S R 0 0 P)] ∧ nx = 4) := by
 have hsm := Z5b (ps := ps) (by omega)
 refine Does.enter Z2 (g := 182) (fn := Tryz.f182) Tryz.call182 Tryz.func182 rfl 85 rfl rfl [.tmp 2] rfl ?_
 intro w0 F η0 h0
 conv => whnf
 refine CALL.here (XX 206 _ ps (fun s hs => Z6U s (hsm s hs)) i m him L E [] [] 0 0 P) rfl rfl (by first | rfl | (simp only [Z4, Z3, Z0 _ (Z1 _), Bool.and_self, Bool.and_true] <;> rfl)) (by first | rfl | (simp only [Z4, Z3, Z0 _ (Z1 _), Bool.and_self, Bool.and_true] <;> rfl)) (by repeat' (first | exact trivial | exact rfl | ((conv => whnf); refine ⟨?_, ?_⟩))) (by repeat' (first | exact trivial | exact rfl | ((conv => whnf); refine ⟨?_, ?_⟩))) rfl ?_ ?_
 · rintro r O' nx' ⟨rfl, rfl, rfl⟩; exact ⟨rfl, rfl, rfl⟩
 rintro r O' ⟨rfl, rfl, _⟩
 conv => whnf
 refine IF.mk (fun h1 => ?_) (fun h1 => ?_)
 · obtain ⟨p, hp, hpm⟩ := Y7 h1
   have hlt := (List.getElem?_eq_some_iff.1 hp).1
   have hk1 := Z2X (p := fun s => ZN s 4 4 true) hp hpm
   obtain ⟨k, rfl⟩ : ∃ k, m = k + 1 := ⟨m - 1, by omega⟩
   conv => whnf
   refine CALL.here (Y3 ps i k him p hp L E [] [] 0 0 P) rfl rfl (by first | rfl | (simp only [Z4, Z3, Z0 _ (Z1 _), Bool.and_self, Bool.and_true] <;> rfl)) (by first | rfl | (simp only [Z4, Z3, Z0 _ (Z1 _), Bool.and_self, Bool.and_true] <;> rfl)) (by repeat' (first | exact trivial | exact rfl | ((conv => whnf); refine ⟨?_, ?_⟩))) (by repeat' (first | exact trivial | exact rfl | ((conv => whnf); refine ⟨?_, ?_⟩))) rfl ?_ ?_
   · rintro r O' nx' ⟨rfl, rfl, rfl⟩; exact ⟨rfl, rfl, rfl⟩
   rintro r O' ⟨rfl, rfl, _⟩
   conv => whnf
   refine CALL.here (XX 207 _ ps (fun s hs => Z1c s (hsm s hs)) (i + 1) k (by omega) L E p [] 0 0 P) rfl rfl (by first | rfl | (simp only [Z4, Z3, Z0 _ (Z1 _), Bool.and_self, Bool.and_true] <;> rfl)) (by first | rfl | (simp only [Z4, Z3, Z0 _ (Z1 _), Bool.and_self, Bool.and_true] <;> rfl)) (by repeat' (first | exact trivial | exact rfl | ((conv => whnf); refine ⟨?_, ?_⟩))) (by repeat' (first | exact trivial | exact rfl | ((conv => whnf); refine ⟨?_, ?_⟩))) rfl ?_ ?_
   · rintro r O' nx' ⟨rfl, rfl, rfl⟩; exact ⟨rfl, rfl, rfl⟩
   rintro r O' ⟨rfl, rfl, _⟩
   conv => whnf
   refine IF.mk (fun h1 => ?_) (fun h1 => ?_)
   · obtain ⟨q, hq, hqm⟩ := Y7 h1
     have hlt := (List.getElem?_eq_some_iff.1 hq).1
     obtain ⟨k2, rfl⟩ : ∃ k2, k = k2 + 1 := ⟨k - 1, by omega⟩
     have he : J9 Uf (J9 (fun s => ZN s 4 4 true) (ps.drop i)) = ps.drop (i + 1 + 1) := by rw [hk1, Z2X hq hqm]
     conv => whnf
     refine CALL.here (Y3 ps (i + 1) k2 (by omega) q hq L E p [] 0 0 P) rfl rfl (by first | rfl | (simp only [Z4, Z3, Z0 _ (Z1 _), Bool.and_self, Bool.and_true] <;> rfl)) (by first | rfl | (simp only [Z4, Z3, Z0 _ (Z1 _), Bool.and_self, Bool.and_true] <;> rfl)) (by repeat' (first | exact trivial | exact rfl | ((conv => whnf); refine ⟨?_, ?_⟩))) (by repeat' (first | exact trivial | exact rfl | ((conv => whnf); refine ⟨?_, ?_⟩))) rfl ?_ ?_
     · rintro r O' nx' ⟨rfl, rfl, rfl⟩; exact ⟨rfl, rfl, rfl⟩
     rintro r O' ⟨rfl, rfl, _⟩
     conv => whnf
     refine LOOP.nil 3 1 rfl ?_
     refine LOOP.go Z2 [0] (X := Nat × List (List UInt8) × List (List UInt8)) (fun y => y.1 ≤ ps.length ∧ y.2.1.length ≤ y.1 ∧ y.2.2.length ≤ y.1 ∧ YW [] (ps.drop (i + 1 + 1)) = YW y.2.1 (ps.drop y.1)) (fun y => [(3, .sl (.loc 6) 0 1 y.2.1.length none)]) (fun y => [(0, Xs y.1 (ps.length - y.1) L E (p) (q) y.2.2.length 0 P), (4, .rows 1 (y.2.2.map Zf)), (5, .rows 1 []), (6, .rows 1 (y.2.1.map Zf))]) 7 (fun y => ps.length - y.1) (i + 1 + 1, [], []) ⟨by simp only; omega, by simp, by simp, rfl⟩ ?_
     conv => whnf
     try rw [show ps.length - (i + 1 + 1) = k2 by omega]
     refine ⟨by (refine GOES.keeping h0 [2, 3, 4] rfl rfl rfl (by first | rfl | (simp only [Z4, Z3, Z0 _ (Z1 _), Bool.and_self, Bool.and_true] <;> rfl)) ?_ ?_ <;> (repeat' (first | (with_reducible rfl) | (exact Zj (Z1 _) (Ze _ (Z1 _))) | (exact Zj (Z1 _) (by simp [Zf, YM, List.take_of_length_le])) | (exact ZS rfl (by first | (simp; done) | omega | (simp; omega))) | (exact congrArg (SV.int _) (by first | omega | (simp (disch := omega) only [lnB, Z9, Zb] <;> omega) | (simp; done) | (simp <;> omega))) | ((conv => whnf); refine ⟨?_, ?_⟩) | exact trivial | (simp only [ren, renB]; done) | rfl))), ?_⟩
     rintro ⟨a, seen, vs⟩ ⟨ha, hs, hv, hx⟩
     dsimp only at ha hs hv hx ⊢
     conv => whnf
     refine CALL.here (YT 208 _ ps (fun s hs => Jb s (hsm s hs)) a (ps.length - a) (by omega) L E (p) (q) vs.length 0 P) rfl rfl (by first | rfl | (simp only [Z4, Z3, Z0 _ (Z1 _), Bool.and_self, Bool.and_true] <;> rfl)) (by first | rfl | (simp only [Z4, Z3, Z0 _ (Z1 _), Bool.and_self, Bool.and_true] <;> rfl)) (by repeat' (first | exact trivial | exact rfl | ((conv => whnf); refine ⟨?_, ?_⟩))) (by repeat' (first | exact trivial | exact rfl | ((conv => whnf); refine ⟨?_, ?_⟩))) rfl ?_ ?_
     · rintro r O' nx' ⟨rfl, rfl, rfl⟩; exact ⟨rfl, rfl, rfl⟩
     rintro r O' ⟨rfl, rfl, _⟩
     conv => whnf
     refine IF.mk (fun h => ?_) (fun h => ?_)
     · obtain ⟨w, hw, hwm⟩ := Y7 h
       have hlt := (List.getElem?_eq_some_iff.1 hw).1
       obtain ⟨k', hk'⟩ : ∃ k', ps.length - a = k' + 1 := ⟨ps.length - a - 1, by omega⟩
       have hpl := hsm w (List.mem_of_getElem? hw)
       have hxa : YW seen (ps.drop a) = if Zm w ∈ seen then none else YW (seen ++ [Zm w]) (ps.drop (a + 1)) := by
         rw [YO hw]; simp only [YW]; rw [if_pos hwm]
       rw [hk']
       conv => whnf
       refine CALL.here (ZH ps a k' (by omega) w hw L E (p) (q) vs.length 0 P) rfl rfl (by first | rfl | (simp only [Z4, Z3, Z0 _ (Z1 _), Bool.and_self, Bool.and_true] <;> rfl)) (by first | rfl | (simp only [Z4, Z3, Z0 _ (Z1 _), Bool.and_self, Bool.and_true] <;> rfl)) (by repeat' (first | exact trivial | exact rfl | ((conv => whnf); refine ⟨?_, ?_⟩))) (by repeat' (first | exact trivial | exact rfl | ((conv => whnf); refine ⟨?_, ?_⟩))) rfl ?_ ?_
       · rintro r O' nx' ⟨rfl, rfl, rfl⟩; exact ⟨rfl, rfl, rfl⟩
       rintro r O' ⟨rfl, rfl, _⟩
       conv => whnf
       repeat' ((first | refine CALL.value (Yx _ hpl) rfl rfl ?_ | (refine CALL.look1 6 (Y4 seen (Zm w) (by omega)) rfl rfl rfl rfl (Z1 _) rfl ?_; conv => whnf) | refine AU ?_ | (refine IW (fun h => ?_) (fun h => ?_) <;> try (exfalso; omega))) <;> conv => whnf)
       · have hin : Zm w ∈ seen := by simpa using h
         have hn : YE (ps.drop i) = none := by unfold YE; rw [he, hx, hxa, if_pos hin]
         exact FIN.loose h0 0 [.sl (.loc 1) (a + 1) 1 (k') none, .str L, .str E, .str (p), .str (q), .any, .any, .str P] rfl rfl rfl ⟨.inr ⟨rfl, rfl⟩, .inr ⟨rfl, rfl⟩, .inr ⟨rfl, rfl⟩, .inr ⟨rfl, rfl⟩, .inr ⟨rfl, rfl⟩, .inl rfl, .inl rfl, .inr ⟨rfl, rfl⟩, trivial⟩ ⟨a + 1, k', p, q, by omega, by rw [hn]; rfl, by simp [hn], rfl, rfl⟩
       · have hin : ¬ Zm w ∈ seen := by simpa using h
         refine ⟨(a + 1, seen ++ [Zm w], vs ++ [w]), ⟨by simp only; omega, by simp; omega, by simp; omega, by simp only; rw [hx, hxa, if_neg hin]⟩, by simp only; omega, ?_⟩
         dsimp only
         rw [show ps.length - (a + 1) = k' by omega, show (vs ++ [w]).length = vs.length + 1 by simp]
         conv => whnf
         (refine GOES.keeping h0 [10, 5, 8] rfl rfl rfl (by first | rfl | (simp only [Z4, Z3, Z0 _ (Z1 _), Bool.and_self, Bool.and_true] <;> rfl)) ?_ ?_ <;> (repeat' (first | (with_reducible rfl) | (exact Zj (Z1 _) (Ze _ (Z1 _))) | (exact Zj (Z1 _) (by simp [Zf, YM, List.take_of_length_le])) | (exact ZS rfl (by first | (simp; done) | omega | (simp; omega))) | (exact congrArg (SV.int _) (by first | omega | (simp (disch := omega) only [lnB, Z9, Zb] <;> omega) | (simp; done) | (simp <;> omega))) | ((conv => whnf); refine ⟨?_, ?_⟩) | exact trivial | (simp only [ren, renB]; done) | rfl)))
     · have hv0 : YW seen (ps.drop a) = some (ps.drop a, seen) := by
         rcases Xj h with h | ⟨s, _, h1, h2⟩
         · rw [h]; rfl
         · rw [h1]; simp only [YW]; rw [if_neg (by simp [h2])]
       have hr0 : YE (ps.drop i) = Yw seen (ps.drop a) := by unfold YE; rw [he, hx, hv0]
       conv => whnf
       refine LOOP.go Z2 [0] (X := Nat × List (List UInt8) × List (List UInt8)) (fun y => y.1 ≤ ps.length ∧ y.2.1.length ≤ y.1 ∧ y.2.2.length ≤ y.1 ∧ YE (ps.drop i) = Yw y.2.1 (ps.drop y.1)) (fun y => [(3, .sl (.loc 6) 0 1 y.2.1.length none)]) (fun y => [(0, Xs y.1 (ps.length - y.1) L E (p) (q) vs.length y.2.2.length P), (4, .rows 1 (vs.map Zf)), (5, .rows 1 (y.2.2.map Zf)), (6, .rows 1 (y.2.1.map Zf))]) 7 (fun y => ps.length - y.1) (a, seen, []) ⟨by simp only; omega, by simp only; omega, by simp, hr0⟩ ?_
       conv => whnf
       refine ⟨by (refine GOES.keeping h0 [4, 5, 6] rfl rfl rfl (by first | rfl | (simp only [Z4, Z3, Z0 _ (Z1 _), Bool.and_self, Bool.and_true] <;> rfl)) ?_ ?_ <;> (repeat' (first | (with_reducible rfl) | (exact Zj (Z1 _) (Ze _ (Z1 _))) | (exact Zj (Z1 _) (by simp [Zf, YM, List.take_of_length_le])) | (exact ZS rfl (by first | (simp; done) | omega | (simp; omega))) | (exact congrArg (SV.int _) (by first | omega | (simp (disch := omega) only [lnB, Z9, Zb] <;> omega) | (simp; done) | (simp <;> omega))) | ((conv => whnf); refine ⟨?_, ?_⟩) | exact trivial | (simp only [ren, renB]; done) | rfl))), ?_⟩
       clear hr0 hv0 hx hs hv
       rintro ⟨a, seen, xs⟩ ⟨ha, hs, hv, hx⟩
       dsimp only at ha hs hv hx ⊢
       conv => whnf
       refine CALL.here (YT 210 _ ps (fun s hs => VK s (hsm s hs)) a (ps.length - a) (by omega) L E (p) (q) vs.length xs.length P) rfl rfl (by first | rfl | (simp only [Z4, Z3, Z0 _ (Z1 _), Bool.and_self, Bool.and_true] <;> rfl)) (by first | rfl | (simp only [Z4, Z3, Z0 _ (Z1 _), Bool.and_self, Bool.and_true] <;> rfl)) (by repeat' (first | exact trivial | exact rfl | ((conv => whnf); refine ⟨?_, ?_⟩))) (by repeat' (first | exact trivial | exact rfl | ((conv => whnf); refine ⟨?_, ?_⟩))) rfl ?_ ?_
       · rintro r O' nx' ⟨rfl, rfl, rfl⟩; exact ⟨rfl, rfl, rfl⟩
       rintro r O' ⟨rfl, rfl, _⟩
       conv => whnf
       refine IF.mk (fun h => ?_) (fun h => ?_)
       · obtain ⟨w, hw, hwm⟩ := Y7 h
         have hlt := (List.getElem?_eq_some_iff.1 hw).1
         obtain ⟨k', hk'⟩ : ∃ k', ps.length - a = k' + 1 := ⟨ps.length - a - 1, by omega⟩
         have hpl := hsm w (List.mem_of_getElem? hw)
         rw [hk']
         conv => whnf
         refine CALL.here (ZH ps a k' (by omega) w hw L E (p) (q) vs.length xs.length P) rfl rfl (by first | rfl | (simp only [Z4, Z3, Z0 _ (Z1 _), Bool.and_self, Bool.and_true] <;> rfl)) (by first | rfl | (simp only [Z4, Z3, Z0 _ (Z1 _), Bool.and_self, Bool.and_true] <;> rfl)) (by repeat' (first | exact trivial | exact rfl | ((conv => whnf); refine ⟨?_, ?_⟩))) (by repeat' (first | exact trivial | exact rfl | ((conv => whnf); refine ⟨?_, ?_⟩))) rfl ?_ ?_
         · rintro r O' nx' ⟨rfl, rfl, rfl⟩; exact ⟨rfl, rfl, rfl⟩
         rintro r O' ⟨rfl, rfl, _⟩
         conv => whnf
         refine CALL.here (VL 2 ps (by omega) (a + 1) k' (by omega) L E (p) (q) vs.length xs.length P) rfl rfl (by first | rfl | (simp only [Z4, Z3, Z0 _ (Z1 _), Bool.and_self, Bool.and_true] <;> rfl)) (by first | rfl | (simp only [Z4, Z3, Z0 _ (Z1 _), Bool.and_self, Bool.and_true] <;> rfl)) (by repeat' (first | exact trivial | exact rfl | ((conv => whnf); refine ⟨?_, ?_⟩))) (by repeat' (first | exact trivial | exact rfl | ((conv => whnf); refine ⟨?_, ?_⟩))) rfl ?_ ?_
         · rintro r O' nx' ⟨n, s, _, _, rfl, rfl, rfl⟩; exact ⟨rfl, rfl, rfl⟩
         rintro r O' ⟨n, s, hn, hsl, rfl, rfl, _⟩
         have hnle : n ≤ (ps.drop (a + 1)).length := by rw [hn]; exact Ug _ _
         rw [List.length_drop] at hnle
         have hxa : Yw seen (ps.drop a) = if n = 0 ∨ Zm w ∈ seen then none else Yw (seen ++ [Zm w]) (ps.drop (a + 1 + n)) := by
           rw [YO hw, Yw, if_pos hwm, ← hn, List.drop_drop]
         conv => whnf
         refine IF.mk (fun h1 => ?_) (fun h1 => ?_)
         · have h0n : n = 0 := by simpa using h1
           have hn : YE (ps.drop i) = none := by rw [hx, hxa, if_pos (.inl h0n)]
           conv => whnf
           repeat' ((first | refine AU ?_ | (refine IW (fun h => ?_) (fun h => ?_) <;> try (exfalso; omega))) <;> conv => whnf)
           exact FIN.loose h0 0 [.sl (.loc 1) (a + 1 + n) 1 (k' - n) none, .str L, .str E, .str (p), .str (q), .any, .any, .str P] rfl rfl rfl ⟨.inr ⟨rfl, rfl⟩, .inr ⟨rfl, rfl⟩, .inr ⟨rfl, rfl⟩, .inr ⟨rfl, rfl⟩, .inr ⟨rfl, rfl⟩, .inl rfl, .inl rfl, .inr ⟨rfl, rfl⟩, trivial⟩ ⟨a + 1 + n, k' - n, p, q, by omega, by rw [hn]; rfl, by simp [hn], rfl, rfl⟩
         · have h0n : n ≠ 0 := by simpa using h1
           conv => whnf
           repeat' ((first | refine CALL.value (Yx _ hpl) rfl rfl ?_ | (refine CALL.look1 6 (Y4 seen (Zm w) (by omega)) rfl rfl rfl rfl (Z1 _) rfl ?_; conv => whnf) | refine AU ?_ | (refine IW (fun h => ?_) (fun h => ?_) <;> try (exfalso; omega))) <;> conv => whnf)
           · have hin : Zm w ∈ seen := by simp_all
             have hn : YE (ps.drop i) = none := by rw [hx, hxa, if_pos (.inr hin)]
             exact FIN.loose h0 0 [.sl (.loc 1) (a + 1 + n) 1 (k' - n) none, .str L, .str E, .str (p), .str (q), .any, .any, .str P] rfl rfl rfl ⟨.inr ⟨rfl, rfl⟩, .inr ⟨rfl, rfl⟩, .inr ⟨rfl, rfl⟩, .inr ⟨rfl, rfl⟩, .inr ⟨rfl, rfl⟩, .inl rfl, .inl rfl, .inr ⟨rfl, rfl⟩, trivial⟩ ⟨a + 1 + n, k' - n, p, q, by omega, by rw [hn]; rfl, by simp [hn], rfl, rfl⟩
           · have hin : ¬ Zm w ∈ seen := by simp_all
             refine ⟨(a + 1 + n, seen ++ [Zm w], xs ++ [w ++ s]), ⟨by simp only; omega, by simp; omega, by simp; omega, by simp only; rw [hx, hxa, if_neg (by simp [h0n, hin])]⟩, by simp only; omega, ?_⟩
             dsimp only
             rw [show ps.length - (a + 1 + n) = k' - n by omega, show (xs ++ [w ++ s]).length = xs.length + 1 by simp]
             conv => whnf
             (refine GOES.keeping h0 [4, 10, 8] rfl rfl rfl (by first | rfl | (simp only [Z4, Z3, Z0 _ (Z1 _), Bool.and_self, Bool.and_true] <;> rfl)) ?_ ?_ <;> (repeat' (first | (with_reducible rfl) | (exact Zj (Z1 _) (Ze _ (Z1 _))) | (exact Zj (Z1 _) (by simp [Zf, YM, List.take_of_length_le])) | (exact ZS rfl (by first | (simp; done) | omega | (simp; omega))) | (exact congrArg (SV.int _) (by first | omega | (simp (disch := omega) only [lnB, Z9, Zb] <;> omega) | (simp; done) | (simp <;> omega))) | ((conv => whnf); refine ⟨?_, ?_⟩) | exact trivial | (simp only [ren, renB]; done) | rfl)))
       · have hv0 : Yw seen (ps.drop a) = some (ps.drop a) := by
           rcases Xj h with h | ⟨s, _, h1, h2⟩
           · rw [h, Yw]
           · rw [h1, Yw, if_neg (by simp [h2])]
         conv => whnf
         exact FIN.loose h0 0 [.sl (.loc 1) (a) 1 (ps.length - a) none, .str L, .str E, .str (p), .str (q), .any, .any, .str P] rfl rfl rfl ⟨.inr ⟨rfl, rfl⟩, .inr ⟨rfl, rfl⟩, .inr ⟨rfl, rfl⟩, .inr ⟨rfl, rfl⟩, .inr ⟨rfl, rfl⟩, .inl rfl, .inl rfl, .inr ⟨rfl, rfl⟩, trivial⟩ ⟨a, ps.length - a, p, q, by omega, by rw [hx, hv0]; rfl, by rw [hx, hv0]; rintro l ⟨⟩; rfl, rfl, rfl⟩
   · have he : J9 Uf (J9 (fun s => ZN s 4 4 true) (ps.drop i)) = ps.drop (i + 1) := by rw [hk1, Z5c h1]
     conv => whnf
     refine LOOP.nil 3 1 rfl ?_
     refine LOOP.go Z2 [0] (X := Nat × List (List UInt8) × List (List UInt8)) (fun y => y.1 ≤ ps.length ∧ y.2.1.length ≤ y.1 ∧ y.2.2.length ≤ y.1 ∧ YW [] (ps.drop (i + 1)) = YW y.2.1 (ps.drop y.1)) (fun y => [(3, .sl (.loc 6) 0 1 y.2.1.length none)]) (fun y => [(0, Xs y.1 (ps.length - y.1) L E (p) ([]) y.2.2.length 0 P), (4, .rows 1 (y.2.2.map Zf)), (5, .rows 1 []), (6, .rows 1 (y.2.1.map Zf))]) 7 (fun y => ps.length - y.1) (i + 1, [], []) ⟨by simp only; omega, by simp, by simp, rfl⟩ ?_
     conv => whnf
     try rw [show ps.length - (i + 1) = k by omega]
     refine ⟨by (refine GOES.keeping h0 [2, 3, 4] rfl rfl rfl (by first | rfl | (simp only [Z4, Z3, Z0 _ (Z1 _), Bool.and_self, Bool.and_true] <;> rfl)) ?_ ?_ <;> (repeat' (first | (with_reducible rfl) | (exact Zj (Z1 _) (Ze _ (Z1 _))) | (exact Zj (Z1 _) (by simp [Zf, YM, List.take_of_length_le])) | (exact ZS rfl (by first | (simp; done) | omega | (simp; omega))) | (exact congrArg (SV.int _) (by first | omega | (simp (disch := omega) only [lnB, Z9, Zb] <;> omega) | (simp; done) | (simp <;> omega))) | ((conv => whnf); refine ⟨?_, ?_⟩) | exact trivial | (simp only [ren, renB]; done) | rfl))), ?_⟩
     rintro ⟨a, seen, vs⟩ ⟨ha, hs, hv, hx⟩
     dsimp only at ha hs hv hx ⊢
     conv => whnf
     refine CALL.here (YT 208 _ ps (fun s hs => Jb s (hsm s hs)) a (ps.length - a) (by omega) L E (p) ([]) vs.length 0 P) rfl rfl (by first | rfl | (simp only [Z4, Z3, Z0 _ (Z1 _), Bool.and_self, Bool.and_true] <;> rfl)) (by first | rfl | (simp only [Z4, Z3, Z0 _ (Z1 _), Bool.and_self, Bool.and_true] <;> rfl)) (by repeat' (first | exact trivial | exact rfl | ((conv => whnf); refine ⟨?_, ?_⟩))) (by repeat' (first | exact trivial | exact rfl | ((conv => whnf); refine ⟨?_, ?_⟩))) rfl ?_ ?_
     · rintro r O' nx' ⟨rfl, rfl, rfl⟩; exact ⟨rfl, rfl, rfl⟩
     rintro r O' ⟨rfl, rfl, _⟩
     conv => whnf
     refine IF.mk (fun h => ?_) (fun h => ?_)
     · obtain ⟨w, hw, hwm⟩ := Y7 h
       have hlt := (List.getElem?_eq_some_iff.1 hw).1
       obtain ⟨k', hk'⟩ : ∃ k', ps.length - a = k' + 1 := ⟨ps.length - a - 1, by omega⟩
       have hpl := hsm w (List.mem_of_getElem? hw)
       have hxa : YW seen (ps.drop a) = if Zm w ∈ seen then none else YW (seen ++ [Zm w]) (ps.drop (a + 1)) := by
         rw [YO hw]; simp only [YW]; rw [if_pos hwm]
       rw [hk']
       conv => whnf
       refine CALL.here (ZH ps a k' (by omega) w hw L E (p) ([]) vs.length 0 P) rfl rfl (by first | rfl | (simp only [Z4, Z3, Z0 _ (Z1 _), Bool.and_self, Bool.and_true] <;> rfl)) (by first | rfl | (simp only [Z4, Z3, Z0 _ (Z1 _), Bool.and_self, Bool.and_true] <;> rfl)) (by repeat' (first | exact trivial | exact rfl | ((conv => whnf); refine ⟨?_, ?_⟩))) (by repeat' (first | exact trivial | exact rfl | ((conv => whnf); refine ⟨?_, ?_⟩))) rfl ?_ ?_
       · rintro r O' nx' ⟨rfl, rfl, rfl⟩; exact ⟨rfl, rfl, rfl⟩
       rintro r O' ⟨rfl, rfl, _⟩
       conv => whnf
       repeat' ((first | refine CALL.value (Yx _ hpl) rfl rfl ?_ | (refine CALL.look1 6 (Y4 seen (Zm w) (by omega)) rfl rfl rfl rfl (Z1 _) rfl ?_; conv => whnf) | refine AU ?_ | (refine IW (fun h => ?_) (fun h => ?_) <;> try (exfalso; omega))) <;> conv => whnf)
       · have hin : Zm w ∈ seen := by simpa using h
         have hn : YE (ps.drop i) = none := by unfold YE; rw [he, hx, hxa, if_pos hin]
         exact FIN.loose h0 0 [.sl (.loc 1) (a + 1) 1 (k') none, .str L, .str E, .str (p), .str ([]), .any, .any, .str P] rfl rfl rfl ⟨.inr ⟨rfl, rfl⟩, .inr ⟨rfl, rfl⟩, .inr ⟨rfl, rfl⟩, .inr ⟨rfl, rfl⟩, .inr ⟨rfl, rfl⟩, .inl rfl, .inl rfl, .inr ⟨rfl, rfl⟩, trivial⟩ ⟨a + 1, k', p, [], by omega, by rw [hn]; rfl, by simp [hn], rfl, rfl⟩
       · have hin : ¬ Zm w ∈ seen := by simpa using h
         refine ⟨(a + 1, seen ++ [Zm w], vs ++ [w]), ⟨by simp only; omega, by simp; omega, by simp; omega, by simp only; rw [hx, hxa, if_neg hin]⟩, by simp only; omega, ?_⟩
         dsimp only
         rw [show ps.length - (a + 1) = k' by omega, show (vs ++ [w]).length = vs.length + 1 by simp]
         conv => whnf
         (refine GOES.keeping h0 [10, 5, 8] rfl rfl rfl (by first | rfl | (simp only [Z4, Z3, Z0 _ (Z1 _), Bool.and_self, Bool.and_true] <;> rfl)) ?_ ?_ <;> (repeat' (first | (with_reducible rfl) | (exact Zj (Z1 _) (Ze _ (Z1 _))) | (exact Zj (Z1 _) (by simp [Zf, YM, List.take_of_length_le])) | (exact ZS rfl (by first | (simp; done) | omega | (simp; omega))) | (exact congrArg (SV.int _) (by first | omega | (simp (disch := omega) only [lnB, Z9, Zb] <;> omega) | (simp; done) | (simp <;> omega))) | ((conv => whnf); refine ⟨?_, ?_⟩) | exact trivial | (simp only [ren, renB]; done) | rfl)))
     · have hv0 : YW seen (ps.drop a) = some (ps.drop a, seen) := by
         rcases Xj h with h | ⟨s, _, h1, h2⟩
         · rw [h]; rfl
         · rw [h1]; simp only [YW]; rw [if_neg (by simp [h2])]
       have hr0 : YE (ps.drop i) = Yw seen (ps.drop a) := by unfold YE; rw [he, hx, hv0]
       conv => whnf
       refine LOOP.go Z2 [0] (X := Nat × List (List UInt8) × List (List UInt8)) (fun y => y.1 ≤ ps.length ∧ y.2.1.length ≤ y.1 ∧ y.2.2.length ≤ y.1 ∧ YE (ps.drop i) = Yw y.2.1 (ps.drop y.1)) (fun y => [(3, .sl (.loc 6) 0 1 y.2.1.length none)]) (fun y => [(0, Xs y.1 (ps.length - y.1) L E (p) ([]) vs.length y.2.2.length P), (4, .rows 1 (vs.map Zf)), (5, .rows 1 (y.2.2.map Zf)), (6, .rows 1 (y.2.1.map Zf))]) 7 (fun y => ps.length - y.1) (a, seen, []) ⟨by simp only; omega, by simp only; omega, by simp, hr0⟩ ?_
       conv => whnf
       refine ⟨by (refine GOES.keeping h0 [4, 5, 6] rfl rfl rfl (by first | rfl | (simp only [Z4, Z3, Z0 _ (Z1 _), Bool.and_self, Bool.and_true] <;> rfl)) ?_ ?_ <;> (repeat' (first | (with_reducible rfl) | (exact Zj (Z1 _) (Ze _ (Z1 _))) | (exact Zj (Z1 _) (by simp [Zf, YM, List.take_of_length_le])) | (exact ZS rfl (by first | (simp; done) | omega | (simp; omega))) | (exact congrArg (SV.int _) (by first | omega | (simp (disch := omega) only [lnB, Z9, Zb] <;> omega) | (simp; done) | (simp <;> omega))) | ((conv => whnf); refine ⟨?_, ?_⟩) | exact trivial | (simp only [ren, renB]; done) | rfl))), ?_⟩
       clear hr0 hv0 hx hs hv
       rintro ⟨a, seen, xs⟩ ⟨ha, hs, hv, hx⟩
       dsimp only at ha hs hv hx ⊢
       conv => whnf
       refine CALL.here (YT 210 _ ps (fun s hs => VK s (hsm s hs)) a (ps.length - a) (by omega) L E (p) ([]) vs.length xs.length P) rfl rfl (by first | rfl | (simp only [Z4, Z3, Z0 _ (Z1 _), Bool.and_self, Bool.and_true] <;> rfl)) (by first | rfl | (simp only [Z4, Z3, Z0 _ (Z1 _), Bool.and_self, Bool.and_true] <;> rfl)) (by repeat' (first | exact trivial | exact rfl | ((conv => whnf); refine ⟨?_, ?_⟩))) (by repeat' (first | exact trivial | exact rfl | ((conv => whnf); refine ⟨?_, ?_⟩))) rfl ?_ ?_
       · rintro r O' nx' ⟨rfl, rfl, rfl⟩; exact ⟨rfl, rfl, rfl⟩
       rintro r O' ⟨rfl, rfl, _⟩
       conv => whnf
       refine IF.mk (fun h => ?_) (fun h => ?_)
       · obtain ⟨w, hw, hwm⟩ := Y7 h
         have hlt := (List.getElem?_eq_some_iff.1 hw).1
         obtain ⟨k', hk'⟩ : ∃ k', ps.length - a = k' + 1 := ⟨ps.length - a - 1, by omega⟩
         have hpl := hsm w (List.mem_of_getElem? hw)
         rw [hk']
         conv => whnf
         refine CALL.here (ZH ps a k' (by omega) w hw L E (p) ([]) vs.length xs.length P) rfl rfl (by first | rfl | (simp only [Z4, Z3, Z0 _ (Z1 _), Bool.and_self, Bool.and_true] <;> rfl)) (by first | rfl | (simp only [Z4, Z3, Z0 _ (Z1 _), Bool.and_self, Bool.and_true] <;> rfl)) (by repeat' (first | exact trivial | exact rfl | ((conv => whnf); refine ⟨?_, ?_⟩))) (by repeat' (first | exact trivial | exact rfl | ((conv => whnf); refine ⟨?_, ?_⟩))) rfl ?_ ?_
         · rintro r O' nx' ⟨rfl, rfl, rfl⟩; exact ⟨rfl, rfl, rfl⟩
         rintro r O' ⟨rfl, rfl, _⟩
         conv => whnf
         refine CALL.here (VL 2 ps (by omega) (a + 1) k' (by omega) L E (p) ([]) vs.length xs.length P) rfl rfl (by first | rfl | (simp only [Z4, Z3, Z0 _ (Z1 _), Bool.and_self, Bool.and_true] <;> rfl)) (by first | rfl | (simp only [Z4, Z3, Z0 _ (Z1 _), Bool.and_self, Bool.and_true] <;> rfl)) (by repeat' (first | exact trivial | exact rfl | ((conv => whnf); refine ⟨?_, ?_⟩))) (by repeat' (first | exact trivial | exact rfl | ((conv => whnf); refine ⟨?_, ?_⟩))) rfl ?_ ?_
         · rintro r O' nx' ⟨n, s, _, _, rfl, rfl, rfl⟩; exact ⟨rfl, rfl, rfl⟩
         rintro r O' ⟨n, s, hn, hsl, rfl, rfl, _⟩
         have hnle : n ≤ (ps.drop (a + 1)).length := by rw [hn]; exact Ug _ _
         rw [List.length_drop] at hnle
         have hxa : Yw seen (ps.drop a) = if n = 0 ∨ Zm w ∈ seen then none else Yw (seen ++ [Zm w]) (ps.drop (a + 1 + n)) := by
           rw [YO hw, Yw, if_pos hwm, ← hn, List.drop_drop]
         conv => whnf
         refine IF.mk (fun h1 => ?_) (fun h1 => ?_)
         · have h0n : n = 0 := by simpa using h1
           have hn : YE (ps.drop i) = none := by rw [hx, hxa, if_pos (.inl h0n)]
           conv => whnf
           repeat' ((first | refine AU ?_ | (refine IW (fun h => ?_) (fun h => ?_) <;> try (exfalso; omega))) <;> conv => whnf)
           exact FIN.loose h0 0 [.sl (.loc 1) (a + 1 + n) 1 (k' - n) none, .str L, .str E, .str (p), .str ([]), .any, .any, .str P] rfl rfl rfl ⟨.inr ⟨rfl, rfl⟩, .inr ⟨rfl, rfl⟩, .inr ⟨rfl, rfl⟩, .inr ⟨rfl, rfl⟩, .inr ⟨rfl, rfl⟩, .inl rfl, .inl rfl, .inr ⟨rfl, rfl⟩, trivial⟩ ⟨a + 1 + n, k' - n, p, [], by omega, by rw [hn]; rfl, by simp [hn], rfl, rfl⟩
         · have h0n : n ≠ 0 := by simpa using h1
           conv => whnf
           repeat' ((first | refine CALL.value (Yx _ hpl) rfl rfl ?_ | (refine CALL.look1 6 (Y4 seen (Zm w) (by omega)) rfl rfl rfl rfl (Z1 _) rfl ?_; conv => whnf) | refine AU ?_ | (refine IW (fun h => ?_) (fun h => ?_) <;> try (exfalso; omega))) <;> conv => whnf)
           · have hin : Zm w ∈ seen := by simp_all
             have hn : YE (ps.drop i) = none := by rw [hx, hxa, if_pos (.inr hin)]
             exact FIN.loose h0 0 [.sl (.loc 1) (a + 1 + n) 1 (k' - n) none, .str L, .str E, .str (p), .str ([]), .any, .any, .str P] rfl rfl rfl ⟨.inr ⟨rfl, rfl⟩, .inr ⟨rfl, rfl⟩, .inr ⟨rfl, rfl⟩, .inr ⟨rfl, rfl⟩, .inr ⟨rfl, rfl⟩, .inl rfl, .inl rfl, .inr ⟨rfl, rfl⟩, trivial⟩ ⟨a + 1 + n, k' - n, p, [], by omega, by rw [hn]; rfl, by simp [hn], rfl, rfl⟩
           · have hin : ¬ Zm w ∈ seen := by simp_all
             refine ⟨(a + 1 + n, seen ++ [Zm w], xs ++ [w ++ s]), ⟨by simp only; omega, by simp; omega, by simp; omega, by simp only; rw [hx, hxa, if_neg (by simp [h0n, hin])]⟩, by simp only; omega, ?_⟩
             dsimp only
             rw [show ps.length - (a + 1 + n) = k' - n by omega, show (xs ++ [w ++ s]).length = xs.length + 1 by simp]
             conv => whnf
             (refine GOES.keeping h0 [4, 10, 8] rfl rfl rfl (by first | rfl | (simp only [Z4, Z3, Z0 _ (Z1 _), Bool.and_self, Bool.and_true] <;> rfl)) ?_ ?_ <;> (repeat' (first | (with_reducible rfl) | (exact Zj (Z1 _) (Ze _ (Z1 _))) | (exact Zj (Z1 _) (by simp [Zf, YM, List.take_of_length_le])) | (exact ZS rfl (by first | (simp; done) | omega | (simp; omega))) | (exact congrArg (SV.int _) (by first | omega | (simp (disch := omega) only [lnB, Z9, Zb] <;> omega) | (simp; done) | (simp <;> omega))) | ((conv => whnf); refine ⟨?_, ?_⟩) | exact trivial | (simp only [ren, renB]; done) | rfl)))
       · have hv0 : Yw seen (ps.drop a) = some (ps.drop a) := by
           rcases Xj h with h | ⟨s, _, h1, h2⟩
           · rw [h, Yw]
           · rw [h1, Yw, if_neg (by simp [h2])]
         conv => whnf
         exact FIN.loose h0 0 [.sl (.loc 1) (a) 1 (ps.length - a) none, .str L, .str E, .str (p), .str ([]), .any, .any, .str P] rfl rfl rfl ⟨.inr ⟨rfl, rfl⟩, .inr ⟨rfl, rfl⟩, .inr ⟨rfl, rfl⟩, .inr ⟨rfl, rfl⟩, .inr ⟨rfl, rfl⟩, .inl rfl, .inl rfl, .inr ⟨rfl, rfl⟩, trivial⟩ ⟨a, ps.length - a, p, [], by omega, by rw [hx, hv0]; rfl, by rw [hx, hv0]; rintro l ⟨⟩; rfl, rfl, rfl⟩
 · have hk1 := Z5c h1
   conv => whnf
   refine CALL.here (XX 207 _ ps (fun s hs => Z1c s (hsm s hs)) i m (by omega) L E [] [] 0 0 P) rfl rfl (by first | rfl | (simp only [Z4, Z3, Z0 _ (Z1 _), Bool.and_self, Bool.and_true] <;> rfl)) (by first | rfl | (simp only [Z4, Z3, Z0 _ (Z1 _), Bool.and_self, Bool.and_true] <;> rfl)) (by repeat' (first | exact trivial | exact rfl | ((conv => whnf); refine ⟨?_, ?_⟩))) (by repeat' (first | exact trivial | exact rfl | ((conv => whnf); refine ⟨?_, ?_⟩))) rfl ?_ ?_
   · rintro r O' nx' ⟨rfl, rfl, rfl⟩; exact ⟨rfl, rfl, rfl⟩
   rintro r O' ⟨rfl, rfl, _⟩
   conv => whnf
   refine IF.mk (fun h1 => ?_) (fun h1 => ?_)
   · obtain ⟨q, hq, hqm⟩ := Y7 h1
     have hlt := (List.getElem?_eq_some_iff.1 hq).1
     obtain ⟨k2, rfl⟩ : ∃ k2, m = k2 + 1 := ⟨m - 1, by omega⟩
     have he : J9 Uf (J9 (fun s => ZN s 4 4 true) (ps.drop i)) = ps.drop (i + 1) := by rw [hk1, Z2X hq hqm]
     conv => whnf
     refine CALL.here (Y3 ps i k2 (by omega) q hq L E [] [] 0 0 P) rfl rfl (by first | rfl | (simp only [Z4, Z3, Z0 _ (Z1 _), Bool.and_self, Bool.and_true] <;> rfl)) (by first | rfl | (simp only [Z4, Z3, Z0 _ (Z1 _), Bool.and_self, Bool.and_true] <;> rfl)) (by repeat' (first | exact trivial | exact rfl | ((conv => whnf); refine ⟨?_, ?_⟩))) (by repeat' (first | exact trivial | exact rfl | ((conv => whnf); refine ⟨?_, ?_⟩))) rfl ?_ ?_
     · rintro r O' nx' ⟨rfl, rfl, rfl⟩; exact ⟨rfl, rfl, rfl⟩
     rintro r O' ⟨rfl, rfl, _⟩
     conv => whnf
     refine LOOP.nil 3 1 rfl ?_
     refine LOOP.go Z2 [0] (X := Nat × List (List UInt8) × List (List UInt8)) (fun y => y.1 ≤ ps.length ∧ y.2.1.length ≤ y.1 ∧ y.2.2.length ≤ y.1 ∧ YW [] (ps.drop (i + 1)) = YW y.2.1 (ps.drop y.1)) (fun y => [(3, .sl (.loc 6) 0 1 y.2.1.length none)]) (fun y => [(0, Xs y.1 (ps.length - y.1) L E ([]) (q) y.2.2.length 0 P), (4, .rows 1 (y.2.2.map Zf)), (5, .rows 1 []), (6, .rows 1 (y.2.1.map Zf))]) 7 (fun y => ps.length - y.1) (i + 1, [], []) ⟨by simp only; omega, by simp, by simp, rfl⟩ ?_
     conv => whnf
     try rw [show ps.length - (i + 1) = k2 by omega]
     refine ⟨by (refine GOES.keeping h0 [2, 3, 4] rfl rfl rfl (by first | rfl | (simp only [Z4, Z3, Z0 _ (Z1 _), Bool.and_self, Bool.and_true] <;> rfl)) ?_ ?_ <;> (repeat' (first | (with_reducible rfl) | (exact Zj (Z1 _) (Ze _ (Z1 _))) | (exact Zj (Z1 _) (by simp [Zf, YM, List.take_of_length_le])) | (exact ZS rfl (by first | (simp; done) | omega | (simp; omega))) | (exact congrArg (SV.int _) (by first | omega | (simp (disch := omega) only [lnB, Z9, Zb] <;> omega) | (simp; done) | (simp <;> omega))) | ((conv => whnf); refine ⟨?_, ?_⟩) | exact trivial | (simp only [ren, renB]; done) | rfl))), ?_⟩
     rintro ⟨a, seen, vs⟩ ⟨ha, hs, hv, hx⟩
     dsimp only at ha hs hv hx ⊢
     conv => whnf
     refine CALL.here (YT 208 _ ps (fun s hs => Jb s (hsm s hs)) a (ps.length - a) (by omega) L E ([]) (q) vs.length 0 P) rfl rfl (by first | rfl | (simp only [Z4, Z3, Z0 _ (Z1 _), Bool.and_self, Bool.and_true] <;> rfl)) (by first | rfl | (simp only [Z4, Z3, Z0 _ (Z1 _), Bool.and_self, Bool.and_true] <;> rfl)) (by repeat' (first | exact trivial | exact rfl | ((conv => whnf); refine ⟨?_, ?_⟩))) (by repeat' (first | exact trivial | exact rfl | ((conv => whnf); refine ⟨?_, ?_⟩))) rfl ?_ ?_
     · rintro r O' nx' ⟨rfl, rfl, rfl⟩; exact ⟨rfl, rfl, rfl⟩
     rintro r O' ⟨rfl, rfl, _⟩
     conv => whnf
     refine IF.mk (fun h => ?_) (fun h => ?_)
     · obtain ⟨w, hw, hwm⟩ := Y7 h
       have hlt := (List.getElem?_eq_some_iff.1 hw).1
       obtain ⟨k', hk'⟩ : ∃ k', ps.length - a = k' + 1 := ⟨ps.length - a - 1, by omega⟩
       have hpl := hsm w (List.mem_of_getElem? hw)
       have hxa : YW seen (ps.drop a) = if Zm w ∈ seen then none else YW (seen ++ [Zm w]) (ps.drop (a + 1)) := by
         rw [YO hw]; simp only [YW]; rw [if_pos hwm]
       rw [hk']
       conv => whnf
       refine CALL.here (ZH ps a k' (by omega) w hw L E ([]) (q) vs.length 0 P) rfl rfl (by first | rfl | (simp only [Z4, Z3, Z0 _ (Z1 _), Bool.and_self, Bool.and_true] <;> rfl)) (by first | rfl | (simp only [Z4, Z3, Z0 _ (Z1 _), Bool.and_self, Bool.and_true] <;> rfl)) (by repeat' (first | exact trivial | exact rfl | ((conv => whnf); refine ⟨?_, ?_⟩))) (by repeat' (first | exact trivial | exact rfl | ((conv => whnf); refine ⟨?_, ?_⟩))) rfl ?_ ?_
       · rintro r O' nx' ⟨rfl, rfl, rfl⟩; exact ⟨rfl, rfl, rfl⟩
       rintro r O' ⟨rfl, rfl, _⟩
       conv => whnf
       repeat' ((first | refine CALL.value (Yx _ hpl) rfl rfl ?_ | (refine CALL.look1 6 (Y4 seen (Zm w) (by omega)) rfl rfl rfl rfl (Z1 _) rfl ?_; conv => whnf) | refine AU ?_ | (refine IW (fun h => ?_) (fun h => ?_) <;> try (exfalso; omega))) <;> conv => whnf)
       · have hin : Zm w ∈ seen := by simpa using h
         have hn : YE (ps.drop i) = none := by unfold YE; rw [he, hx, hxa, if_pos hin]
         exact FIN.loose h0 0 [.sl (.loc 1) (a + 1) 1 (k') none, .str L, .str E, .str ([]), .str (q), .any, .any, .str P] rfl rfl rfl ⟨.inr ⟨rfl, rfl⟩, .inr ⟨rfl, rfl⟩, .inr ⟨rfl, rfl⟩, .inr ⟨rfl, rfl⟩, .inr ⟨rfl, rfl⟩, .inl rfl, .inl rfl, .inr ⟨rfl, rfl⟩, trivial⟩ ⟨a + 1, k', [], q, by omega, by rw [hn]; rfl, by simp [hn], rfl, rfl⟩
       · have hin : ¬ Zm w ∈ seen := by simpa using h
         refine ⟨(a + 1, seen ++ [Zm w], vs ++ [w]), ⟨by simp only; omega, by simp; omega, by simp; omega, by simp only; rw [hx, hxa, if_neg hin]⟩, by simp only; omega, ?_⟩
         dsimp only
         rw [show ps.length - (a + 1) = k' by omega, show (vs ++ [w]).length = vs.length + 1 by simp]
         conv => whnf
         (refine GOES.keeping h0 [10, 5, 8] rfl rfl rfl (by first | rfl | (simp only [Z4, Z3, Z0 _ (Z1 _), Bool.and_self, Bool.and_true] <;> rfl)) ?_ ?_ <;> (repeat' (first | (with_reducible rfl) | (exact Zj (Z1 _) (Ze _ (Z1 _))) | (exact Zj (Z1 _) (by simp [Zf, YM, List.take_of_length_le])) | (exact ZS rfl (by first | (simp; done) | omega | (simp; omega))) | (exact congrArg (SV.int _) (by first | omega | (simp (disch := omega) only [lnB, Z9, Zb] <;> omega) | (simp; done) | (simp <;> omega))) | ((conv => whnf); refine ⟨?_, ?_⟩) | exact trivial | (simp only [ren, renB]; done) | rfl)))
     · have hv0 : YW seen (ps.drop a) = some (ps.drop a, seen) := by
         rcases Xj h with h | ⟨s, _, h1, h2⟩
         · rw [h]; rfl
         · rw [h1]; simp only [YW]; rw [if_neg (by simp [h2])]
       have hr0 : YE (ps.drop i) = Yw seen (ps.drop a) := by unfold YE; rw [he, hx, hv0]
       conv => whnf
       refine LOOP.go Z2 [0] (X := Nat × List (List UInt8) × List (List UInt8)) (fun y => y.1 ≤ ps.length ∧ y.2.1.length ≤ y.1 ∧ y.2.2.length ≤ y.1 ∧ YE (ps.drop i) = Yw y.2.1 (ps.drop y.1)) (fun y => [(3, .sl (.loc 6) 0 1 y.2.1.length none)]) (fun y => [(0, Xs y.1 (ps.length - y.1) L E ([]) (q) vs.length y.2.2.length P), (4, .rows 1 (vs.map Zf)), (5, .rows 1 (y.2.2.map Zf)), (6, .rows 1 (y.2.1.map Zf))]) 7 (fun y => ps.length - y.1) (a, seen, []) ⟨by simp only; omega, by simp only; omega, by simp, hr0⟩ ?_
       conv => whnf
       refine ⟨by (refine GOES.keeping h0 [4, 5, 6] rfl rfl rfl (by first | rfl | (simp only [Z4, Z3, Z0 _ (Z1 _), Bool.and_self, Bool.and_true] <;> rfl)) ?_ ?_ <;> (repeat' (first | (with_reducible rfl) | (exact Zj (Z1 _) (Ze _ (Z1 _))) | (exact Zj (Z1 _) (by simp [Zf, YM, List.take_of_length_le])) | (exact ZS rfl (by first | (simp; done) | omega | (simp; omega))) | (exact congrArg (SV.int _) (by first | omega | (simp (disch := omega) only [lnB, Z9, Zb] <;> omega) | (simp; done) | (simp <;> omega))) | ((conv => whnf); refine ⟨?_, ?_⟩) | exact trivial | (simp only [ren, renB]; done) | rfl))), ?_⟩
       clear hr0 hv0 hx hs hv
       rintro ⟨a, seen, xs⟩ ⟨ha, hs, hv, hx⟩
       dsimp only at ha hs hv hx ⊢
       conv => whnf
       refine CALL.here (YT 210 _ ps (fun s hs => VK s (hsm s hs)) a (ps.length - a) (by omega) L E ([]) (q) vs.length xs.length P) rfl rfl (by first | rfl | (simp only [Z4, Z3, Z0 _ (Z1 _), Bool.and_self, Bool.and_true] <;> rfl)) (by first | rfl | (simp only [Z4, Z3, Z0 _ (Z1 _), Bool.and_self, Bool.and_true] <;> rfl)) (by repeat' (first | exact trivial | exact rfl | ((conv => whnf); refine ⟨?_, ?_⟩))) (by repeat' (first | exact trivial | exact rfl | ((conv => whnf); refine ⟨?_, ?_⟩))) rfl ?_ ?_
       · rintro r O' nx' ⟨rfl, rfl, rfl⟩; exact ⟨rfl, rfl, rfl⟩
       rintro r O' ⟨rfl, rfl, _⟩
       conv => whnf
       refine IF.mk (fun h => ?_) (fun h => ?_)
       · obtain ⟨w, hw, hwm⟩ := Y7 h
         have hlt := (List.getElem?_eq_some_iff.1 hw).1
         obtain ⟨k', hk'⟩ : ∃ k', ps.length - a = k' + 1 := ⟨ps.length - a - 1, by omega⟩
         have hpl := hsm w (List.mem_of_getElem? hw)
         rw [hk']
         conv => whnf
         refine CALL.here (ZH ps a k' (by omega) w hw L E ([]) (q) vs.length xs.length P) rfl rfl (by first | rfl | (simp only [Z4, Z3, Z0 _ (Z1 _), Bool.and_self, Bool.and_true] <;> rfl)) (by first | rfl | (simp only [Z4, Z3, Z0 _ (Z1 _), Bool.and_self, Bool.and_true] <;> rfl)) (by repeat' (first | exact trivial | exact rfl | ((conv => whnf); refine ⟨?_, ?_⟩))) (by repeat' (first | exact trivial | exact rfl | ((conv => whnf); refine ⟨?_, ?_⟩))) rfl ?_ ?_
         · rintro r O' nx' ⟨rfl, rfl, rfl⟩; exact ⟨rfl, rfl, rfl⟩
         rintro r O' ⟨rfl, rfl, _⟩
         conv => whnf
         refine CALL.here (VL 2 ps (by omega) (a + 1) k' (by omega) L E ([]) (q) vs.length xs.length P) rfl rfl (by first | rfl | (simp only [Z4, Z3, Z0 _ (Z1 _), Bool.and_self, Bool.and_true] <;> rfl)) (by first | rfl | (simp only [Z4, Z3, Z0 _ (Z1 _), Bool.and_self, Bool.and_true] <;> rfl)) (by repeat' (first | exact trivial | exact rfl | ((conv => whnf); refine ⟨?_, ?_⟩))) (by repeat' (first | exact trivial | exact rfl | ((conv => whnf); refine ⟨?_, ?_⟩))) rfl ?_ ?_
         · rintro r O' nx' ⟨n, s, _, _, rfl, rfl, rfl⟩; exact ⟨rfl, rfl, rfl⟩
         rintro r O' ⟨n, s, hn, hsl, rfl, rfl, _⟩
         have hnle : n ≤ (ps.drop (a + 1)).length := by rw [hn]; exact Ug _ _
         rw [List.length_drop] at hnle
         have hxa : Yw seen (ps.drop a) = if n = 0 ∨ Zm w ∈ seen then none else Yw (seen ++ [Zm w]) (ps.drop (a + 1 + n)) := by
           rw [YO hw, Yw, if_pos hwm, ← hn, List.drop_drop]
         conv => whnf
         refine IF.mk (fun h1 => ?_) (fun h1 => ?_)
         · have h0n : n = 0 := by simpa using h1
           have hn : YE (ps.drop i) = none := by rw [hx, hxa, if_pos (.inl h0n)]
           conv => whnf
           repeat' ((first | refine AU ?_ | (refine IW (fun h => ?_) (fun h => ?_) <;> try (exfalso; omega))) <;> conv => whnf)
           exact FIN.loose h0 0 [.sl (.loc 1) (a + 1 + n) 1 (k' - n) none, .str L, .str E, .str ([]), .str (q), .any, .any, .str P] rfl rfl rfl ⟨.inr ⟨rfl, rfl⟩, .inr ⟨rfl, rfl⟩, .inr ⟨rfl, rfl⟩, .inr ⟨rfl, rfl⟩, .inr ⟨rfl, rfl⟩, .inl rfl, .inl rfl, .inr ⟨rfl, rfl⟩, trivial⟩ ⟨a + 1 + n, k' - n, [], q, by omega, by rw [hn]; rfl, by simp [hn], rfl, rfl⟩
         · have h0n : n ≠ 0 := by simpa using h1
           conv => whnf
           repeat' ((first | refine CALL.value (Yx _ hpl) rfl rfl ?_ | (refine CALL.look1 6 (Y4 seen (Zm w) (by omega)) rfl rfl rfl rfl (Z1 _) rfl ?_; conv => whnf) | refine AU ?_ | (refine IW (fun h => ?_) (fun h => ?_) <;> try (exfalso; omega))) <;> conv => whnf)
           · have hin : Zm w ∈ seen := by simp_all
             have hn : YE (ps.drop i) = none := by rw [hx, hxa, if_pos (.inr hin)]
             exact FIN.loose h0 0 [.sl (.loc 1) (a + 1 + n) 1 (k' - n) none, .str L, .str E, .str ([]), .str (q), .any, .any, .str P] rfl rfl rfl ⟨.inr ⟨rfl, rfl⟩, .inr ⟨rfl, rfl⟩, .inr ⟨rfl, rfl⟩, .inr ⟨rfl, rfl⟩, .inr ⟨rfl, rfl⟩, .inl rfl, .inl rfl, .inr ⟨rfl, rfl⟩, trivial⟩ ⟨a + 1 + n, k' - n, [], q, by omega, by rw [hn]; rfl, by simp [hn], rfl, rfl⟩
           · have hin : ¬ Zm w ∈ seen := by simp_all
             refine ⟨(a + 1 + n, seen ++ [Zm w], xs ++ [w ++ s]), ⟨by simp only; omega, by simp; omega, by simp; omega, by simp only; rw [hx, hxa, if_neg (by simp [h0n, hin])]⟩, by simp only; omega, ?_⟩
             dsimp only
             rw [show ps.length - (a + 1 + n) = k' - n by omega, show (xs ++ [w ++ s]).length = xs.length + 1 by simp]
             conv => whnf
             (refine GOES.keeping h0 [4, 10, 8] rfl rfl rfl (by first | rfl | (simp only [Z4, Z3, Z0 _ (Z1 _), Bool.and_self, Bool.and_true] <;> rfl)) ?_ ?_ <;> (repeat' (first | (with_reducible rfl) | (exact Zj (Z1 _) (Ze _ (Z1 _))) | (exact Zj (Z1 _) (by simp [Zf, YM, List.take_of_length_le])) | (exact ZS rfl (by first | (simp; done) | omega | (simp; omega))) | (exact congrArg (SV.int _) (by first | omega | (simp (disch := omega) only [lnB, Z9, Zb] <;> omega) | (simp; done) | (simp <;> omega))) | ((conv => whnf); refine ⟨?_, ?_⟩) | exact trivial | (simp only [ren, renB]; done) | rfl)))
       · have hv0 : Yw seen (ps.drop a) = some (ps.drop a) := by
           rcases Xj h with h | ⟨s, _, h1, h2⟩
           · rw [h, Yw]
           · rw [h1, Yw, if_neg (by simp [h2])]
         conv => whnf
         exact FIN.loose h0 0 [.sl (.loc 1) (a) 1 (ps.length - a) none, .str L, .str E, .str ([]), .str (q), .any, .any, .str P] rfl rfl rfl ⟨.inr ⟨rfl, rfl⟩, .inr ⟨rfl, rfl⟩, .inr ⟨rfl, rfl⟩, .inr ⟨rfl, rfl⟩, .inr ⟨rfl, rfl⟩, .inl rfl, .inl rfl, .inr ⟨rfl, rfl⟩, trivial⟩ ⟨a, ps.length - a, [], q, by omega, by rw [hx, hv0]; rfl, by rw [hx, hv0]; rintro l ⟨⟩; rfl, rfl, rfl⟩
   · have he : J9 Uf (J9 (fun s => ZN s 4 4 true) (ps.drop i)) = ps.drop i := by rw [hk1, Z5c h1]
     conv => whnf
     refine LOOP.nil 3 1 rfl ?_
     refine LOOP.go Z2 [0] (X := Nat × List (List UInt8) × List (List UInt8)) (fun y => y.1 ≤ ps.length ∧ y.2.1.length ≤ y.1 ∧ y.2.2.length ≤ y.1 ∧ YW [] (ps.drop (i)) = YW y.2.1 (ps.drop y.1)) (fun y => [(3, .sl (.loc 6) 0 1 y.2.1.length none)]) (fun y => [(0, Xs y.1 (ps.length - y.1) L E ([]) ([]) y.2.2.length 0 P), (4, .rows 1 (y.2.2.map Zf)), (5, .rows 1 []), (6, .rows 1 (y.2.1.map Zf))]) 7 (fun y => ps.length - y.1) (i, [], []) ⟨by simp only; omega, by simp, by simp, rfl⟩ ?_
     conv => whnf
     try rw [show ps.length - (i) = m by omega]
     refine ⟨by (refine GOES.keeping h0 [2, 3, 4] rfl rfl rfl (by first | rfl | (simp only [Z4, Z3, Z0 _ (Z1 _), Bool.and_self, Bool.and_true] <;> rfl)) ?_ ?_ <;> (repeat' (first | (with_reducible rfl) | (exact Zj (Z1 _) (Ze _ (Z1 _))) | (exact Zj (Z1 _) (by simp [Zf, YM, List.take_of_length_le])) | (exact ZS rfl (by first | (simp; done) | omega | (simp; omega))) | (exact congrArg (SV.int _) (by first | omega | (simp (disch := omega) only [lnB, Z9, Zb] <;> omega) | (simp; done) | (simp <;> omega))) | ((conv => whnf); refine ⟨?_, ?_⟩) | exact trivial | (simp only [ren, renB]; done) | rfl))), ?_⟩
     rintro ⟨a, seen, vs⟩ ⟨ha, hs, hv, hx⟩
     dsimp only at ha hs hv hx ⊢
     conv => whnf
     refine CALL.here (YT 208 _ ps (fun s hs => Jb s (hsm s hs)) a (ps.length - a) (by omega) L E ([]) ([]) vs.length 0 P) rfl rfl (by first | rfl | (simp only [Z4, Z3, Z0 _ (Z1 _), Bool.and_self, Bool.and_true] <;> rfl)) (by first | rfl | (simp only [Z4, Z3, Z0 _ (Z1 _), Bool.and_self, Bool.and_true] <;> rfl)) (by repeat' (first | exact trivial | exact rfl | ((conv => whnf); refine ⟨?_, ?_⟩))) (by repeat' (first | exact trivial | exact rfl | ((conv => whnf); refine ⟨?_, ?_⟩))) rfl ?_ ?_
     · rintro r O' nx' ⟨rfl, rfl, rfl⟩; exact ⟨rfl, rfl, rfl⟩
     rintro r O' ⟨rfl, rfl, _⟩
     conv => whnf
     refine IF.mk (fun h => ?_) (fun h => ?_)
     · obtain ⟨w, hw, hwm⟩ := Y7 h
       have hlt := (List.getElem?_eq_some_iff.1 hw).1
       obtain ⟨k', hk'⟩ : ∃ k', ps.length - a = k' + 1 := ⟨ps.length - a - 1, by omega⟩
       have hpl := hsm w (List.mem_of_getElem? hw)
       have hxa : YW seen (ps.drop a) = if Zm w ∈ seen then none else YW (seen ++ [Zm w]) (ps.drop (a + 1)) := by
         rw [YO hw]; simp only [YW]; rw [if_pos hwm]
       rw [hk']
       conv => whnf
       refine CALL.here (ZH ps a k' (by omega) w hw L E ([]) ([]) vs.length 0 P) rfl rfl (by first | rfl | (simp only [Z4, Z3, Z0 _ (Z1 _), Bool.and_self, Bool.and_true] <;> rfl)) (by first | rfl | (simp only [Z4, Z3, Z0 _ (Z1 _), Bool.and_self, Bool.and_true] <;> rfl)) (by repeat' (first | exact trivial | exact rfl | ((conv => whnf); refine ⟨?_, ?_⟩))) (by repeat' (first | exact trivial | exact rfl | ((conv => whnf); refine ⟨?_, ?_⟩))) rfl ?_ ?_
       · rintro r O' nx' ⟨rfl, rfl, rfl⟩; exact ⟨rfl, rfl, rfl⟩
       rintro r O' ⟨rfl, rfl, _⟩
       conv => whnf
       repeat' ((first | refine CALL.value (Yx _ hpl) rfl rfl ?_ | (refine CALL.look1 6 (Y4 seen (Zm w) (by omega)) rfl rfl rfl rfl (Z1 _) rfl ?_; conv => whnf) | refine AU ?_ | (refine IW (fun h => ?_) (fun h => ?_) <;> try (exfalso; omega))) <;> conv => whnf)
       · have hin : Zm w ∈ seen := by simpa using h
         have hn : YE (ps.drop i) = none := by unfold YE; rw [he, hx, hxa, if_pos hin]
         exact FIN.loose h0 0 [.sl (.loc 1) (a + 1) 1 (k') none, .str L, .str E, .str ([]), .str ([]), .any, .any, .str P] rfl rfl rfl ⟨.inr ⟨rfl, rfl⟩, .inr ⟨rfl, rfl⟩, .inr ⟨rfl, rfl⟩, .inr ⟨rfl, rfl⟩, .inr ⟨rfl, rfl⟩, .inl rfl, .inl rfl, .inr ⟨rfl, rfl⟩, trivial⟩ ⟨a + 1, k', [], [], by omega, by rw [hn]; rfl, by simp [hn], rfl, rfl⟩
       · have hin : ¬ Zm w ∈ seen := by simpa using h
         refine ⟨(a + 1, seen ++ [Zm w], vs ++ [w]), ⟨by simp only; omega, by simp; omega, by simp; omega, by simp only; rw [hx, hxa, if_neg hin]⟩, by simp only; omega, ?_⟩
         dsimp only
         rw [show ps.length - (a + 1) = k' by omega, show (vs ++ [w]).length = vs.length + 1 by simp]
         conv => whnf
         (refine GOES.keeping h0 [10, 5, 8] rfl rfl rfl (by first | rfl | (simp only [Z4, Z3, Z0 _ (Z1 _), Bool.and_self, Bool.and_true] <;> rfl)) ?_ ?_ <;> (repeat' (first | (with_reducible rfl) | (exact Zj (Z1 _) (Ze _ (Z1 _))) | (exact Zj (Z1 _) (by simp [Zf, YM, List.take_of_length_le])) | (exact ZS rfl (by first | (simp; done) | omega | (simp; omega))) | (exact congrArg (SV.int _) (by first | omega | (simp (disch := omega) only [lnB, Z9, Zb] <;> omega) | (simp; done) | (simp <;> omega))) | ((conv => whnf); refine ⟨?_, ?_⟩) | exact trivial | (simp only [ren, renB]; done) | rfl)))
     · have hv0 : YW seen (ps.drop a) = some (ps.drop a, seen) := by
         rcases Xj h with h | ⟨s, _, h1, h2⟩
         · rw [h]; rfl
         · rw [h1]; simp only [YW]; rw [if_neg (by simp [h2])]
       have hr0 : YE (ps.drop i) = Yw seen (ps.drop a) := by unfold YE; rw [he, hx, hv0]
       conv => whnf
       refine LOOP.go Z2 [0] (X := Nat × List (List UInt8) × List (List UInt8)) (fun y => y.1 ≤ ps.length ∧ y.2.1.length ≤ y.1 ∧ y.2.2.length ≤ y.1 ∧ YE (ps.drop i) = Yw y.2.1 (ps.drop y.1)) (fun y => [(3, .sl (.loc 6) 0 1 y.2.1.length none)]) (fun y => [(0, Xs y.1 (ps.length - y.1) L E ([]) ([]) vs.length y.2.2.length P), (4, .rows 1 (vs.map Zf)), (5, .rows 1 (y.2.2.map Zf)), (6, .rows 1 (y.2.1.map Zf))]) 7 (fun y => ps.length - y.1) (a, seen, []) ⟨by simp only; omega, by simp only; omega, by simp, hr0⟩ ?_
       conv => whnf
       refine ⟨by (refine GOES.keeping h0 [4, 5, 6] rfl rfl rfl (by first | rfl | (simp only [Z4, Z3, Z0 _ (Z1 _), Bool.and_self, Bool.and_true] <;> rfl)) ?_ ?_ <;> (repeat' (first | (with_reducible rfl) | (exact Zj (Z1 _) (Ze _ (Z1 _))) | (exact Zj (Z1 _) (by simp [Zf, YM, List.take_of_length_le])) | (exact ZS rfl (by first | (simp; done) | omega | (simp; omega))) | (exact congrArg (SV.int _) (by first | omega | (simp (disch := omega) only [lnB, Z9, Zb] <;> omega) | (simp; done) | (simp <;> omega))) | ((conv => whnf); refine ⟨?_, ?_⟩) | exact trivial | (simp only [ren, renB]; done) | rfl))), ?_⟩
       clear hr0 hv0 hx hs hv
       rintro ⟨a, seen, xs⟩ ⟨ha, hs, hv, hx⟩
       dsimp only at ha hs hv hx ⊢
       conv => whnf
       refine CALL.here (YT 210 _ ps (fun s hs => VK s (hsm s hs)) a (ps.length - a) (by omega) L E ([]) ([]) vs.length xs.length P) rfl rfl (by first | rfl | (simp only [Z4, Z3, Z0 _ (Z1 _), Bool.and_self, Bool.and_true] <;> rfl)) (by first | rfl | (simp only [Z4, Z3, Z0 _ (Z1 _), Bool.and_self, Bool.and_true] <;> rfl)) (by repeat' (first | exact trivial | exact rfl | ((conv => whnf); refine ⟨?_, ?_⟩))) (by repeat' (first | exact trivial | exact rfl | ((conv => whnf); refine ⟨?_, ?_⟩))) rfl ?_ ?_
       · rintro r O' nx' ⟨rfl, rfl, rfl⟩; exact ⟨rfl, rfl, rfl⟩
       rintro r O' ⟨rfl, rfl, _⟩
       conv => whnf
       refine IF.mk (fun h => ?_) (fun h => ?_)
       · obtain ⟨w, hw, hwm⟩ := Y7 h
         have hlt := (List.getElem?_eq_some_iff.1 hw).1
         obtain ⟨k', hk'⟩ : ∃ k', ps.length - a = k' + 1 := ⟨ps.length - a - 1, by omega⟩
         have hpl := hsm w (List.mem_of_getElem? hw)
         rw [hk']
         conv => whnf
         refine CALL.here (ZH ps a k' (by omega) w hw L E ([]) ([]) vs.length xs.length P) rfl rfl (by first | rfl | (simp only [Z4, Z3, Z0 _ (Z1 _), Bool.and_self, Bool.and_true] <;> rfl)) (by first | rfl | (simp only [Z4, Z3, Z0 _ (Z1 _), Bool.and_self, Bool.and_true] <;> rfl)) (by repeat' (first | exact trivial | exact rfl | ((conv => whnf); refine ⟨?_, ?_⟩))) (by repeat' (first | exact trivial | exact rfl | ((conv => whnf); refine ⟨?_, ?_⟩))) rfl ?_ ?_
         · rintro r O' nx' ⟨rfl, rfl, rfl⟩; exact ⟨rfl, rfl, rfl⟩
         rintro r O' ⟨rfl, rfl, _⟩
         conv => whnf
         refine CALL.here (VL 2 ps (by omega) (a + 1) k' (by omega) L E ([]) ([]) vs.length xs.length P) rfl rfl (by first | rfl | (simp only [Z4, Z3, Z0 _ (Z1 _), Bool.and_self, Bool.and_true] <;> rfl)) (by first | rfl | (simp only [Z4, Z3, Z0 _ (Z1 _), Bool.and_self, Bool.and_true] <;> rfl)) (by repeat' (first | exact trivial | exact rfl | ((conv => whnf); refine ⟨?_, ?_⟩))) (by repeat' (first | exact trivial | exact rfl | ((conv => whnf); refine ⟨?_, ?_⟩))) rfl ?_ ?_
         · rintro r O' nx' ⟨n, s, _, _, rfl, rfl, rfl⟩; exact ⟨rfl, rfl, rfl⟩
         rintro r O' ⟨n, s, hn, hsl, rfl, rfl, _⟩
         have hnle : n ≤ (ps.drop (a + 1)).length := by rw [hn]; exact Ug _ _
         rw [List.length_drop] at hnle
         have hxa : Yw seen (ps.drop a) = if n = 0 ∨ Zm w ∈ seen then none else Yw (seen ++ [Zm w]) (ps.drop (a + 1 + n)) := by
           rw [YO hw, Yw, if_pos hwm, ← hn, List.drop_drop]
         conv => whnf
         refine IF.mk (fun h1 => ?_) (fun h1 => ?_)
         · have h0n : n = 0 := by simpa using h1
           have hn : YE (ps.drop i) = none := by rw [hx, hxa, if_pos (.inl h0n)]
           conv => whnf
           repeat' ((first | refine AU ?_ | (refine IW (fun h => ?_) (fun h => ?_) <;> try (exfalso; omega))) <;> conv => whnf)
           exact FIN.loose h0 0 [.sl (.loc 1) (a + 1 + n) 1 (k' - n) none, .str L, .str E, .str ([]), .str ([]), .any, .any, .str P] rfl rfl rfl ⟨.inr ⟨rfl, rfl⟩, .inr ⟨rfl, rfl⟩, .inr ⟨rfl, rfl⟩, .inr ⟨rfl, rfl⟩, .inr ⟨rfl, rfl⟩, .inl rfl, .inl rfl, .inr ⟨rfl, rfl⟩, trivial⟩ ⟨a + 1 + n, k' - n, [], [], by omega, by rw [hn]; rfl, by simp [hn], rfl, rfl⟩
         · have h0n : n ≠ 0 := by simpa using h1
           conv => whnf
           repeat' ((first | refine CALL.value (Yx _ hpl) rfl rfl ?_ | (refine CALL.look1 6 (Y4 seen (Zm w) (by omega)) rfl rfl rfl rfl (Z1 _) rfl ?_; conv => whnf) | refine AU ?_ | (refine IW (fun h => ?_) (fun h => ?_) <;> try (exfalso; omega))) <;> conv => whnf)
           · have hin : Zm w ∈ seen := by simp_all
             have hn : YE (ps.drop i) = none := by rw [hx, hxa, if_pos (.inr hin)]
             exact FIN.loose h0 0 [.sl (.loc 1) (a + 1 + n) 1 (k' - n) none, .str L, .str E, .str ([]), .str ([]), .any, .any, .str P] rfl rfl rfl ⟨.inr ⟨rfl, rfl⟩, .inr ⟨rfl, rfl⟩, .inr ⟨rfl, rfl⟩, .inr ⟨rfl, rfl⟩, .inr ⟨rfl, rfl⟩, .inl rfl, .inl rfl, .inr ⟨rfl, rfl⟩, trivial⟩ ⟨a + 1 + n, k' - n, [], [], by omega, by rw [hn]; rfl, by simp [hn], rfl, rfl⟩
           · have hin : ¬ Zm w ∈ seen := by simp_all
             refine ⟨(a + 1 + n, seen ++ [Zm w], xs ++ [w ++ s]), ⟨by simp only; omega, by simp; omega, by simp; omega, by simp only; rw [hx, hxa, if_neg (by simp [h0n, hin])]⟩, by simp only; omega, ?_⟩
             dsimp only
             rw [show ps.length - (a + 1 + n) = k' - n by omega, show (xs ++ [w ++ s]).length = xs.length + 1 by simp]
             conv => whnf
             (refine GOES.keeping h0 [4, 10, 8] rfl rfl rfl (by first | rfl | (simp only [Z4, Z3, Z0 _ (Z1 _), Bool.and_self, Bool.and_true] <;> rfl)) ?_ ?_ <;> (repeat' (first | (with_reducible rfl) | (exact Zj (Z1 _) (Ze _ (Z1 _))) | (exact Zj (Z1 _) (by simp [Zf, YM, List.take_of_length_le])) | (exact ZS rfl (by first | (simp; done) | omega | (simp; omega))) | (exact congrArg (SV.int _) (by first | omega | (simp (disch := omega) only [lnB, Z9, Zb] <;> omega) | (simp; done) | (simp <;> omega))) | ((conv => whnf); refine ⟨?_, ?_⟩) | exact trivial | (simp only [ren, renB]; done) | rfl)))
       · have hv0 : Yw seen (ps.drop a) = some (ps.drop a) := by
           rcases Xj h with h | ⟨s, _, h1, h2⟩
           · rw [h, Yw]
           · rw [h1, Yw, if_neg (by simp [h2])]
         conv => whnf
         exact FIN.loose h0 0 [.sl (.loc 1) (a) 1 (ps.length - a) none, .str L, .str E, .str ([]), .str ([]), .any, .any, .str P] rfl rfl rfl ⟨.inr ⟨rfl, rfl⟩, .inr ⟨rfl, rfl⟩, .inr ⟨rfl, rfl⟩, .inr ⟨rfl, rfl⟩, .inr ⟨rfl, rfl⟩, .inl rfl, .inl rfl, .inr ⟨rfl, rfl⟩, trivial⟩ ⟨a, ps.length - a, [], [], by omega, by rw [hx, hv0]; rfl, by rw [hx, hv0]; rintro l ⟨⟩; rfl, rfl, rfl⟩
end Go.Proofs.YtjbbkimodgffiaaGreatDoor
namespace Go.Proofs.YtjbbkimodgffiaaGreatDoor
open Go.Sx Go.Our
theorem Z8H {p : List UInt8 → Bool} {ps : List (List UInt8)} : Ys p ps 0 = Z61 p ps := by
 unfold Ys
 cases ps <;> rfl
theorem Z9T (s : List UInt8) (hs : s.length ≤ 34359738368) : Does Tryz.prog tab 143 0 [.str s] [] [] (Val (.tup [.agg (anyN 7), .int .i64 (if tagP (Zx s) = true then 0 else 61)])) := by
 have hbulk := Z1Y s
 have hlen := Z3X s
 generalize hps : Zx s = ps at *
 have hb : Wb ps + ps.length ≤ 68719476736 := by unfold Wb; omega
 have hsm := Z5b (ps := ps) (by omega)
 refine Does.enter Z2 (g := 143) (fn := Tryz.f143) Tryz.call143 Tryz.func143 rfl 56 rfl rfl [.cell 2 147, .tmp 3] rfl ?_
 intro w0 F η0 h0
 conv => whnf
 refine CALL.newS (Z6R s (by omega)) rfl (Z1 _) ?_
 rw [hps, List.length_map]
 conv => whnf
 refine CALL.nilCell 2 5 1 rfl rfl ?_
 refine CALL.nilCell 2 6 1 rfl rfl ?_
 refine CALL.aA [2, 1, 3, 4] (XX 180 _ ps (fun s hs => Ja s) 0 ps.length (by omega) [] [] [] [] 0 0 []) ?_
 rintro r O' nx' ⟨rfl, rfl, rfl⟩
 rw [Z8H]
 conv => whnf
 refine IF.mk (fun h1 => ?_) (fun h1 => ?_)
 · have h1 : Z61 JT ps = false := by simpa using h1
   conv => whnf
   repeat' ((first | refine AU ?_ | (refine IW (fun h => ?_) (fun h => ?_) <;> try (exfalso; omega))) <;> conv => whnf)
   refine CALL.aA [2, 1, 3, 4] (Z2W ps (by omega) 0 ps.length (by omega) [] [] 0 0 []) ?_
   rintro r O' nx' ⟨i1, m1, L, E, him1, rfl, hL, rfl, rfl⟩
   cases h2 : W8 (ps.drop 0) with
   | none =>
     have htag : tagP ps = false := by
       have h2 : W8 ps = none := h2
       unfold tagP; rw [if_neg (by simp [h1]), h2]
     rw [Option.isSome_none]
     conv => whnf
     repeat' ((first | refine AU ?_ | (refine IW (fun h => ?_) (fun h => ?_) <;> try (exfalso; omega))) <;> conv => whnf)
     refine FIN.anyA 7 h0 rfl rfl rfl ⟨?_, rfl, rfl⟩
     rw [htag]; rfl
   | some l1 =>
     have hl1 := hL l1 h2
     subst hl1
     rw [Option.isSome_some]
     conv => whnf
     repeat' ((first | refine AU ?_ | (refine IW (fun h => ?_) (fun h => ?_) <;> try (exfalso; omega))) <;> conv => whnf)
     refine CALL.aA [2, 1, 3, 4] (Z8G ps (by omega) i1 m1 him1 L E []) ?_
     rintro r O' nx' ⟨i2, m2, S, R, him2, rfl, hR, rfl, rfl⟩
     cases h3 : YE (ps.drop i1) with
     | none =>
       have htag : tagP ps = false := by
         have h2 : W8 ps = _ := h2
         unfold tagP; rw [if_neg (by simp [h1]), h2]; simp only [h3]
       rw [Option.isSome_none]
       conv => whnf
       repeat' ((first | refine AU ?_ | (refine IW (fun h => ?_) (fun h => ?_) <;> try (exfalso; omega))) <;> conv => whnf)
       refine FIN.anyA 7 h0 rfl rfl rfl ⟨?_, rfl, rfl⟩
       rw [htag]; rfl
     | some l2 =>
       have hl2 := hR l2 h3
       subst hl2
       have htag : tagP ps = UI (ps.drop i2) := by
         have h2 : W8 ps = _ := h2
         unfold tagP; rw [if_neg (by simp [h1]), h2]; simp only [h3]
       rw [Option.isSome_some]
       conv => whnf
       repeat' ((first | refine AU ?_ | (refine IW (fun h => ?_) (fun h => ?_) <;> try (exfalso; omega))) <;> conv => whnf)
       refine CALL.aA [2, 1, 3, 4] (Z6V 180 _ ps (fun s hs => Ja s) (i2) (m2) (by omega) L E S R 0 0 []) ?_
       rintro r O' nx' ⟨rfl, rfl, rfl⟩
       conv => whnf
       refine IF.mk (fun h1 => ?_) (fun h1 => ?_)
       · obtain ⟨w, hw, hwm⟩ := Y7 h1
         have hlt := (List.getElem?_eq_some_iff.1 hw).1
         have hlast : UI (ps.drop (i2)) = decide (Yg (VZ 1) (ps.drop (i2 + 1)) ≠ 0 ∧ Yg (VZ 1) (ps.drop (i2 + 1)) = (ps.drop (i2 + 1)).length) := by rw [YO hw]; simp only [UI]; rw [if_pos hwm]
         rw [List.length_drop] at hlast
         obtain ⟨k', hk'⟩ : ∃ k', m2 = k' + 1 := ⟨m2 - 1, by omega⟩
         have hwl := hsm w (List.mem_of_getElem? hw)
         rw [hk']
         conv => whnf
         refine CALL.aA [2, 1, 3, 4] (U1 ps (i2) k' (by omega) w hw L E S R 0 0 []) ?_
         rintro r O' nx' ⟨rfl, rfl, rfl⟩
         conv => whnf
         refine CALL.aA [2, 1, 3, 4] (Z6W 1 ps (by omega) (i2 + 1) k' (by omega) L E S R 0 0 []) ?_
         rintro r O' nx' ⟨n, x, hn, hxl, rfl, rfl, rfl⟩
         have hn : n = Yg (VZ 1) (ps.drop (i2 + 1)) := hn
         have hnle : n ≤ (ps.drop (i2 + 1)).length := by rw [hn]; exact Ug _ _
         rw [List.length_drop] at hnle
         rw [← hn] at hlast
         conv => whnf
         repeat' ((first | refine AU ?_ | (refine IW (fun h => ?_) (fun h => ?_) <;> try (exfalso; omega))) <;> conv => whnf)
         all_goals
           refine FIN.anyA 7 h0 rfl rfl rfl ⟨?_, rfl, rfl⟩
           rw [htag, hlast]
         · rw [if_neg (by simp_all)]
         · rw [if_neg (by simp; omega)]
         · rw [if_pos (by simp; simp at *; omega)]
       · have hlast : UI (ps.drop (i2)) = decide (m2 = 0) := by
           rcases Xj h1 with h2 | ⟨x, h3, h2, h4⟩
           · rw [h2]; have := congrArg List.length h2; rw [List.length_drop, List.length_nil] at this; simp only [UI]; symm; exact decide_eq_true (by omega)
           · have := (List.getElem?_eq_some_iff.1 h3).1
             rw [h2]; simp only [UI]; rw [if_neg (by simp [h4])]; symm; exact decide_eq_false (by omega)
         conv => whnf
         repeat' ((first | refine AU ?_ | (refine IW (fun h => ?_) (fun h => ?_) <;> try (exfalso; omega))) <;> conv => whnf)
         all_goals
           refine FIN.anyA 7 h0 rfl rfl rfl ⟨?_, rfl, rfl⟩
           rw [htag, hlast]
         · rw [if_neg (by rw [decide_eq_true_iff]; omega)]
         · rw [if_pos (by rw [decide_eq_true_iff]; omega)]
 · have h1 : Z61 JT ps = true := by simpa using h1
   have htag : tagP ps = UI (ps.drop 0) := by unfold tagP; rw [if_pos h1]; rfl
   conv => whnf
   repeat' ((first | refine AU ?_ | (refine IW (fun h => ?_) (fun h => ?_) <;> try (exfalso; omega))) <;> conv => whnf)
   refine CALL.aA [2, 1, 3, 4] (XX 180 _ ps (fun s hs => Ja s) (0) (ps.length) (by omega) [] [] [] [] 0 0 []) ?_
   rintro r O' nx' ⟨rfl, rfl, rfl⟩
   conv => whnf
   refine IF.mk (fun h1 => ?_) (fun h1 => ?_)
   · obtain ⟨w, hw, hwm⟩ := Y7 h1
     have hlt := (List.getElem?_eq_some_iff.1 hw).1
     have hlast : UI (ps.drop (0)) = decide (Yg (VZ 1) (ps.drop (0 + 1)) ≠ 0 ∧ Yg (VZ 1) (ps.drop (0 + 1)) = (ps.drop (0 + 1)).length) := by rw [YO hw]; simp only [UI]; rw [if_pos hwm]
     rw [List.length_drop] at hlast
     obtain ⟨k', hk'⟩ : ∃ k', ps.length = k' + 1 := ⟨ps.length - 1, by omega⟩
     have hwl := hsm w (List.mem_of_getElem? hw)
     rw [hk']
     conv => whnf
     refine CALL.aA [2, 1, 3, 4] (Y3 ps (0) k' (by omega) w hw [] [] [] [] 0 0 []) ?_
     rintro r O' nx' ⟨rfl, rfl, rfl⟩
     conv => whnf
     refine CALL.aA [2, 1, 3, 4] (Z8E 1 ps (by omega) (0 + 1) k' (by omega) [] [] [] [] 0 0 []) ?_
     rintro r O' nx' ⟨n, x, hn, hxl, rfl, rfl, rfl⟩
     have hn : n = Yg (VZ 1) (ps.drop (0 + 1)) := hn
     have hnle : n ≤ (ps.drop (0 + 1)).length := by rw [hn]; exact Ug _ _
     rw [List.length_drop] at hnle
     rw [← hn] at hlast
     conv => whnf
     repeat' ((first | refine AU ?_ | (refine IW (fun h => ?_) (fun h => ?_) <;> try (exfalso; omega))) <;> conv => whnf)
     all_goals
       refine FIN.anyA 7 h0 rfl rfl rfl ⟨?_, rfl, rfl⟩
       rw [htag, hlast]
     · rw [if_neg (by simp_all)]
     · rw [if_neg (by simp; omega)]
     · rw [if_pos (by simp; simp at *; omega)]
   · have hlast : UI (ps.drop (0)) = decide (ps.length = 0) := by
       rcases Xj h1 with h2 | ⟨x, h3, h2, h4⟩
       · rw [h2]; have := congrArg List.length h2; rw [List.length_drop, List.length_nil] at this; simp only [UI]; symm; exact decide_eq_true (by omega)
       · have := (List.getElem?_eq_some_iff.1 h3).1
         rw [h2]; simp only [UI]; rw [if_neg (by simp [h4])]; symm; exact decide_eq_false (by omega)
     conv => whnf
     repeat' ((first | refine AU ?_ | (refine IW (fun h => ?_) (fun h => ?_) <;> try (exfalso; omega))) <;> conv => whnf)
     all_goals
       refine FIN.anyA 7 h0 rfl rfl rfl ⟨?_, rfl, rfl⟩
       rw [htag, hlast]
     · rw [if_neg (by rw [decide_eq_true_iff]; omega)]
     · rw [if_pos (by rw [decide_eq_true_iff]; omega)]
def Z9U : Plan := (Zq [(0, 1), (1, 1), (2, 1), (3, 1), (6, 1), (4, 2), (7, 2), (5, 3), (8, 1), (9, 1)])
theorem Z4a (k : Int) (t y l : List UInt8) (ht : Sm t) (hy : Sm y) (hl : Sm l) : Does Tryz.prog tab 116 0 [.agg [.int .i64 k, .str t, .str y, .str l]] [] [] (Val (.int .i64 (litM t y l))) := by
 refine Does.enter Z2 (g := 116) (fn := Tryz.f116) Tryz.call116 Tryz.func116 rfl 55 rfl rfl [.tmp 2] rfl ?_
 intro w0 F η0 h0
 conv => whnf
 repeat' ((first | refine DRAWN.of (id := 12) Z2 mixed Z9U (by kernel_rfl) ?_ | refine ADD.mk (fun _ _ => ?_) | refine AD ?_ | refine FORK.mk ?_ ?_ | refine CALL.value (Z21 _ ht) rfl rfl ?_ | refine CALL.value (UL _ hy) rfl rfl ?_ | refine CALL.value (Z9T _ (by omega)) rfl rfl ?_ | refine CALL.value (Yx _ hl) rfl rfl ?_ | (refine CALL.look1 2 (Z2Z [(if tagP (Zx l) = true then 0 else 61), 61] (by simp)) rfl rfl rfl rfl rfl rfl ?_; conv => whnf) | refine AU ?_ | (refine IW (fun h => ?_) (fun h => ?_) <;> try (exfalso; omega))) <;> conv => whnf)
 all_goals
   refine FIN.value h0 rfl (congrArg (SV.int _) ?_)
   by_cases hy0 : y = JU
   · have hyb : (y == JU) = true := by simp [hy0]
     unfold JU at hyb
     try rw [hyb] at h
     by_cases htg : tagP (Zx l) = true <;> by_cases hlw : Zm l = l <;> by_cases hl0 : l = [] <;> simp_all [litM, JU, orE] <;> omega
   · have hyb : (y == JU) = false := by simp [hy0]
     unfold JU at hyb
     try rw [hyb] at h
     by_cases htg : tagP (Zx l) = true <;> by_cases hlw : Zm l = l <;> by_cases hl0 : l = [] <;> simp_all [litM, JU, orE] <;> omega
theorem JW (x : Tm) (hx : TmSm x) : Does Tryz.prog tab 90 0 [.agg [.int .i64 x.k, .str x.t, .str x.y, .str x.l]] [] [] (Val (.int .i64 (Vg x))) := by
 obtain ⟨ht, hy, hl⟩ := hx
 obtain ⟨k, t, y, l⟩ := x
 dsimp only at ht hy hl ⊢
 refine Does.enter Z2 (g := 90) (fn := Tryz.f90) Tryz.call90 Tryz.func90 rfl 33 rfl rfl [.tmp 2] rfl ?_
 intro w0 F η0 h0
 conv => whnf
 repeat' ((first | refine CALL.value (Z4a _ _ _ _ ht hy hl) rfl rfl ?_ | refine CALL.value (UL _ ht) rfl rfl ?_ | refine CALL.value (Z5a _ ht) rfl rfl ?_ | refine AU ?_ | (refine IW (fun h => ?_) (fun h => ?_) <;> try (exfalso; omega))) <;> conv => whnf)
 all_goals
   refine FIN.value h0 rfl (congrArg (SV.int _) ?_)
   unfold Vg
   first
     | (simp_all; done)
     | (simp_all <;> omega)
theorem Z4b (x : Tm) : Does Tryz.prog tab 89 0 [.int .i64 0, .agg [.int .i64 x.k, .str x.t, .str x.y, .str x.l]] [] [] (Val (.bool (decide (x.k = 1 ∨ x.k = 2)))) := by
 refine Does.enter Z2 (g := 89) (fn := Tryz.f89) Tryz.call89 Tryz.func89 rfl 49 rfl rfl [.tmp 4] rfl ?_
 intro w0 F η0 h0
 conv => whnf
 repeat' ((first | refine AU ?_ | (refine IW (fun h => ?_) (fun h => ?_) <;> try (exfalso; omega))) <;> conv => whnf)
 all_goals
   refine FIN.value h0 rfl (congrArg SV.bool ?_)
   by_cases h1 : x.k = 1 <;> by_cases h2 : x.k = 2 <;> simp_all
theorem Z4c (x : Tm) : Does Tryz.prog tab 89 0 [.int .i64 1, .agg [.int .i64 x.k, .str x.t, .str x.y, .str x.l]] [] [] (Val (.bool (decide (x.k = 1)))) := by
 refine Does.enter Z2 (g := 89) (fn := Tryz.f89) Tryz.call89 Tryz.func89 rfl 49 rfl rfl [.tmp 4] rfl ?_
 intro w0 F η0 h0
 conv => whnf
 repeat' ((first | refine AU ?_ | (refine IW (fun h => ?_) (fun h => ?_) <;> try (exfalso; omega))) <;> conv => whnf)
 all_goals
   refine FIN.value h0 rfl (congrArg SV.bool ?_)
   by_cases h1 : x.k = 1 <;> simp_all
theorem Z4d (x : Tm) : Does Tryz.prog tab 89 0 [.int .i64 2, .agg [.int .i64 x.k, .str x.t, .str x.y, .str x.l]] [] [] (Val (.bool (decide (x.k = 1 ∨ x.k = 2 ∨ x.k = 3)))) := by
 refine Does.enter Z2 (g := 89) (fn := Tryz.f89) Tryz.call89 Tryz.func89 rfl 49 rfl rfl [.tmp 4] rfl ?_
 intro w0 F η0 h0
 conv => whnf
 repeat' ((first | refine AU ?_ | (refine IW (fun h => ?_) (fun h => ?_) <;> try (exfalso; omega))) <;> conv => whnf)
 all_goals
   refine FIN.value h0 rfl (congrArg SV.bool ?_)
   by_cases h1 : x.k = 1 <;> by_cases h2 : x.k = 2 <;> by_cases h3 : x.k = 3 <;> simp_all
theorem Z4e (x : Tm) : Does Tryz.prog tab 89 0 [.int .i64 3, .agg [.int .i64 x.k, .str x.t, .str x.y, .str x.l]] [] [] (Val (.bool (decide (x.k = 1 ∨ x.k = 2 ∨ x = Zd)))) := by
 obtain ⟨k, t, y, l⟩ := x
 dsimp only
 refine Does.enter Z2 (g := 89) (fn := Tryz.f89) Tryz.call89 Tryz.func89 rfl 49 rfl rfl [.tmp 4] rfl ?_
 intro w0 F η0 h0
 conv => whnf
 repeat' ((first | refine AU ?_ | (refine IW (fun h => ?_) (fun h => ?_) <;> try (exfalso; omega))) <;> conv => whnf)
 all_goals
   refine FIN.value h0 rfl (congrArg SV.bool ?_)
   unfold Zd
   by_cases h1 : k = 1 <;> by_cases h2 : k = 2 <;> by_cases h3 : k = 0 <;> cases t <;> cases y <;> cases l <;> simp_all
theorem Vm (q : Qd) (hq : QdSm q) : Does Tryz.prog tab 61 0 [q.sv] [] [] (Val (.int .i64 (Zk q))) := by
 obtain ⟨hs, hp, ho, hg⟩ := hq
 unfold Qd.sv
 refine Does.enter Z2 (g := 61) (fn := Tryz.f61) Tryz.call61 Tryz.func61 rfl 36 rfl rfl [.tmp 2] rfl ?_
 intro w0 F η0 h0
 conv => whnf
 repeat' ((first | (refine LOOP.once Z2 ?_; conv => whnf) | refine CALL.value (Z4b q.s) rfl rfl ?_ | refine CALL.value (Z4c q.p) rfl rfl ?_ | refine CALL.value (Z4d q.o) rfl rfl ?_ | refine CALL.value (Z4e q.g) rfl rfl ?_ | refine CALL.value (JW q.s hs) rfl rfl ?_ | refine CALL.value (JW q.p hp) rfl rfl ?_ | refine CALL.value (JW q.o ho) rfl rfl ?_ | refine CALL.value (JW q.g hg) rfl rfl ?_ | refine AU ?_ | (refine IW (fun h => ?_) (fun h => ?_) <;> try (exfalso; omega))) <;> conv => whnf)
 all_goals
   refine FIN.value h0 rfl (congrArg (SV.int _) ?_)
   have hco := @Z52 q.o
   have hz : q.g = Zd → q.g.k = 0 := fun h => by rw [h]; rfl
   unfold Zk
   clear hs hp ho hg
   by_cases hgz : q.g = Zd
   · have := hz hgz; simp_all
   · by_cases g1 : q.g.k = 1
     · simp_all
     · by_cases g2 : q.g.k = 2
       · simp_all
       · simp_all
end Go.Proofs.YtjbbkimodgffiaaGreatDoor
