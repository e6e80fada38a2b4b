/- Part 20: Sets6, TermsG. Conditions: as each part says. -/
import Derived.Test.YtjbbkimodgffiaaGreatDoorIGr19
set_option linter.unusedVariables false
set_option linter.unusedSimpArgs false
set_option maxRecDepth 20000
set_option maxHeartbeats 8000000
namespace Go.Proofs.YtjbbkimodgffiaaGreatDoor
open Go.Sx Go.Our
end Go.Proofs.YtjbbkimodgffiaaGreatDoor
namespace Go.Proofs.YtjbbkimodgffiaaGreatDoor
open Go.Sx Go.Our
theorem Z4x {α : Type} (f : Qd → List α) {l : List Qd} {i : Nat} (h : i < l.length) : (l.take (i + 1)).flatMap f = (l.take i).flatMap f ++ f l[i] := by
 rw [List.take_succ_eq_append_getElem h, List.flatMap_append]; simp
theorem UT {α : Type} (f : Qd → List α) {k : Nat} (hk : ∀ q, (f q).length ≤ k) : ∀ (l : List Qd), (l.flatMap f).length ≤ l.length * k
 | [] => by simp
 | q :: l => by
   have := UT f hk l
   have := hk q
   simp only [List.flatMap_cons, List.length_append, List.length_cons, Nat.succ_mul]; omega
theorem Wc (q : Qd) : (Yz q).length ≤ 4 := by unfold Yz; split <;> simp
theorem Z6p (l : List Qd) : XZ l = l.flatMap fun q => [q.g] := by
 induction l with
 | nil => rfl
 | cons q l ih => simp only [XZ, List.map_cons, List.flatMap_cons] at ih ⊢; rw [ih]; rfl
set_option maxHeartbeats 4000000 in
theorem Z2b (l z : List Qd) (lim : Option Nat) (hl : Z16 l) (hz : (l ++ z).length ≤ 1152921504606846976) : Does Tryz.prog tab 30 1 [.sl (.loc 0) 0 16 l.length lim] [] [(0, .rows 16 ((l ++ z).map Za))]
   (Z28 Zy 4 1 Zd (l.flatMap Yz).length (setL ZM (l.flatMap Yz))) := by
 unfold Z16 at hl
 have hlen : ∀ i, ((l.take i).flatMap Yz).length ≤ (l.take i).length * 4 := fun i => UT _ Wc _
 refine Does.enter Z2 (g := 30) (fn := Tryz.f30) Tryz.call30 Tryz.func30 rfl 33 rfl rfl [.tmp 2] rfl ?_
 intro w0 F η0 h0
 conv => whnf
 refine LOOP.nil 3 4 rfl ?_
 refine LOOP.go Z2 [6, 7] (X := Nat) (fun i => i ≤ l.length) (fun i => [(8, .int .i64 (i : Int)), (3, .sl (.loc 1) 0 4 ((l.take i).flatMap Yz).length none)]) (fun i => [(1, .rows 4 (((l.take i).flatMap Yz).map Zy))]) 2 (fun i => l.length - i) 0 (by omega) ?_
 conv => whnf
 refine ⟨by (refine GOES.cutting h0 rfl rfl rfl (by first | rfl | (simp only [Z4, Z3, Z0 _ (Zu _), Bool.and_self, Bool.and_true] <;> rfl)) ?_ ?_ <;> (repeat' (first | (with_reducible rfl) | (exact ZS rfl (by first | (simp; done) | omega | (simp; omega))) | (exact congrArg (SV.int _) (by first | omega | (simp (disch := omega) only [lnB, Z9, Zb] <;> omega) | (simp; done) | (simp <;> omega))) | (exact congrArg (Hp.rows _) (by rfl)) | ((conv => whnf); refine ⟨?_, ?_⟩) | exact trivial | rfl))), ?_⟩
 intro i hi
 have hli := hlen i
 rw [List.length_take, Nat.min_eq_left hi] at hli
 conv => whnf
 by_cases hil : i < l.length
 · have hs := Z4x Yz hil
   generalize (l.take i).flatMap Yz = out at *
   repeat' ((first | (refine GET.at (row := Za (l[i]'(by omega))) (Z6m (by omega) (by omega)) ?_; conv => whnf) | (refine NEED.mk (Xy 56 rfl rfl (by simp) (by simp) (by omega)) ?_; conv => whnf) | (refine NEED.mk (Xy 56 rfl rfl (by simp) (by simp; omega) (by omega)) ?_; conv => whnf) | refine AU ?_ | (refine IW (fun h => ?_) (fun h => ?_) <;> try (exfalso; omega))) <;> conv => whnf)
   all_goals first
     | (refine ⟨i + 1, by omega, by omega, ?_⟩; rw [hs]; (simp only [Yz]; (try rw [if_neg (by omega)]); (try rw [if_pos (by omega)])); (conv => whnf); (refine GOES.keeping h0 [4] rfl rfl rfl (by first | rfl | (simp only [Z4, Z3, Z0 _ (Zu _), Bool.and_self, Bool.and_true] <;> rfl)) ?_ ?_ <;> (repeat' (first | (with_reducible rfl) | (exact Zj (Zu _) (Ze _ (Zu _))) | (exact Zj (Zu _) (by (simp [List.take_of_length_le, YM, Zy]))) | (exact ZS rfl (by first | (simp; done) | omega | (simp; omega))) | (exact congrArg (SV.int _) (by first | omega | (simp (disch := omega) only [lnB, Z9, Zb] <;> omega) | (simp; done) | (simp <;> omega))) | ((conv => whnf); refine ⟨?_, ?_⟩) | exact trivial | (simp only [ren, renB]; done) | rfl))); done)
     | (refine ⟨i + 1, by omega, by omega, ?_⟩; rw [hs]; (simp only [Yz]; (try rw [if_neg (by omega)]); (try rw [if_pos (by omega)])); (conv => whnf); (refine GOES.keeping h0 [6] rfl rfl rfl (by first | rfl | (simp only [Z4, Z3, Z0 _ (Zu _), Bool.and_self, Bool.and_true] <;> rfl)) ?_ ?_ <;> (repeat' (first | (with_reducible rfl) | (exact Zj (Zu _) (Ze _ (Zu _))) | (exact Zj (Zu _) (by (simp [List.take_of_length_le, YM, Zy]))) | (exact ZS rfl (by first | (simp; done) | omega | (simp; omega))) | (exact congrArg (SV.int _) (by first | omega | (simp (disch := omega) only [lnB, Z9, Zb] <;> omega) | (simp; done) | (simp <;> omega))) | ((conv => whnf); refine ⟨?_, ?_⟩) | exact trivial | (simp only [ren, renB]; done) | rfl))); done)
     | trace_state
 · have hie : i = l.length := by omega
   subst hie
   rw [List.take_length] at hli ⊢
   generalize l.flatMap Yz = out at *
   have hT := WB out [] none (by omega)
   rw [List.append_nil] at hT
   repeat' ((first | refine AU ?_ | (refine IW (fun h => ?_) (fun h => ?_) <;> try (exfalso; omega))) <;> conv => whnf)
   refine CALL.aA [1] (hT) ?_
   rintro r O nx ⟨j, hj, rfl, rfl, rfl⟩
   conv => whnf
   refine FIN.aA h0 [2] (.sl (.loc 1) 0 4 (setL ZM out).length (some (setL ZM out).length)) [(1, .rows 4 ((setL ZM out ++ List.replicate j Zd).map Zy))] ?_
   exact ⟨j, hj, rfl, rfl, rfl⟩
set_option maxHeartbeats 4000000 in
theorem Z1i (l z : List Qd) (lim : Option Nat) (hl : Z16 l) (hz : (l ++ z).length ≤ 1152921504606846976) : Does Tryz.prog tab 28 1 [.sl (.loc 0) 0 16 l.length lim] [] [(0, .rows 16 ((l ++ z).map Za))]
   (Z28 Zy 4 1 Zd (l.flatMap (fun q => [q.g])).length (setL ZM (l.flatMap (fun q => [q.g])))) := by
 unfold Z16 at hl
 have hlen : ∀ i, ((l.take i).flatMap (fun q => [q.g])).length ≤ (l.take i).length * 4 := fun i => UT _ (fun q => by simp) _
 refine Does.enter Z2 (g := 28) (fn := Tryz.f28) Tryz.call28 Tryz.func28 rfl 20 rfl rfl [.tmp 2] rfl ?_
 intro w0 F η0 h0
 conv => whnf
 refine LOOP.nil 3 4 rfl ?_
 refine LOOP.go Z2 [6, 7] (X := Nat) (fun i => i ≤ l.length) (fun i => [(8, .int .i64 (i : Int)), (3, .sl (.loc 1) 0 4 ((l.take i).flatMap (fun q => [q.g])).length none)]) (fun i => [(1, .rows 4 (((l.take i).flatMap (fun q => [q.g])).map Zy))]) 2 (fun i => l.length - i) 0 (by omega) ?_
 conv => whnf
 refine ⟨by (refine GOES.cutting h0 rfl rfl rfl (by first | rfl | (simp only [Z4, Z3, Z0 _ (Zu _), Bool.and_self, Bool.and_true] <;> rfl)) ?_ ?_ <;> (repeat' (first | (with_reducible rfl) | (exact ZS rfl (by first | (simp; done) | omega | (simp; omega))) | (exact congrArg (SV.int _) (by first | omega | (simp (disch := omega) only [lnB, Z9, Zb] <;> omega) | (simp; done) | (simp <;> omega))) | (exact congrArg (Hp.rows _) (by rfl)) | ((conv => whnf); refine ⟨?_, ?_⟩) | exact trivial | rfl))), ?_⟩
 intro i hi
 have hli := hlen i
 rw [List.length_take, Nat.min_eq_left hi] at hli
 conv => whnf
 by_cases hil : i < l.length
 · have hs := Z4x (fun q => [q.g]) hil
   generalize (l.take i).flatMap (fun q => [q.g]) = out at *
   repeat' ((first | (refine GET.at (row := Za (l[i]'(by omega))) (Z6m (by omega) (by omega)) ?_; conv => whnf) | (refine NEED.mk (Xy 56 rfl rfl (by simp) (by simp) (by omega)) ?_; conv => whnf) | (refine NEED.mk (Xy 56 rfl rfl (by simp) (by simp; omega) (by omega)) ?_; conv => whnf) | refine AU ?_ | (refine IW (fun h => ?_) (fun h => ?_) <;> try (exfalso; omega))) <;> conv => whnf)
   all_goals first
     | (refine ⟨i + 1, by omega, by omega, ?_⟩; rw [hs]; skip; (conv => whnf); (refine GOES.keeping h0 [4] rfl rfl rfl (by first | rfl | (simp only [Z4, Z3, Z0 _ (Zu _), Bool.and_self, Bool.and_true] <;> rfl)) ?_ ?_ <;> (repeat' (first | (with_reducible rfl) | (exact Zj (Zu _) (Ze _ (Zu _))) | (exact Zj (Zu _) (by (simp [List.take_of_length_le, YM, Zy]))) | (exact ZS rfl (by first | (simp; done) | omega | (simp; omega))) | (exact congrArg (SV.int _) (by first | omega | (simp (disch := omega) only [lnB, Z9, Zb] <;> omega) | (simp; done) | (simp <;> omega))) | ((conv => whnf); refine ⟨?_, ?_⟩) | exact trivial | (simp only [ren, renB]; done) | rfl))); done)
     | (refine ⟨i + 1, by omega, by omega, ?_⟩; rw [hs]; skip; (conv => whnf); (refine GOES.keeping h0 [6] rfl rfl rfl (by first | rfl | (simp only [Z4, Z3, Z0 _ (Zu _), Bool.and_self, Bool.and_true] <;> rfl)) ?_ ?_ <;> (repeat' (first | (with_reducible rfl) | (exact Zj (Zu _) (Ze _ (Zu _))) | (exact Zj (Zu _) (by (simp [List.take_of_length_le, YM, Zy]))) | (exact ZS rfl (by first | (simp; done) | omega | (simp; omega))) | (exact congrArg (SV.int _) (by first | omega | (simp (disch := omega) only [lnB, Z9, Zb] <;> omega) | (simp; done) | (simp <;> omega))) | ((conv => whnf); refine ⟨?_, ?_⟩) | exact trivial | (simp only [ren, renB]; done) | rfl))); done)
     | trace_state
 · have hie : i = l.length := by omega
   subst hie
   rw [List.take_length] at hli ⊢
   generalize l.flatMap (fun q => [q.g]) = out at *
   have hT := WB out [] none (by omega)
   rw [List.append_nil] at hT
   repeat' ((first | refine AU ?_ | (refine IW (fun h => ?_) (fun h => ?_) <;> try (exfalso; omega))) <;> conv => whnf)
   refine CALL.aA [1] (hT) ?_
   rintro r O nx ⟨j, hj, rfl, rfl, rfl⟩
   conv => whnf
   refine FIN.aA h0 [2] (.sl (.loc 1) 0 4 (setL ZM out).length (some (setL ZM out).length)) [(1, .rows 4 ((setL ZM out ++ List.replicate j Zd).map Zy))] ?_
   exact ⟨j, hj, rfl, rfl, rfl⟩
end Go.Proofs.YtjbbkimodgffiaaGreatDoor
