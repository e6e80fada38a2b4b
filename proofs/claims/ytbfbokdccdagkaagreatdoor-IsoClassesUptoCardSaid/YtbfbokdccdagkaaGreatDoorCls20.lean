/- Part 20: RIso2, RIso7, LawCls2, LawCls3. Conditions: as each part says. -/
import Derived.Test.YtbfbokdccdagkaaGreatDoorCls18
import Derived.Test.YtbfbokdccdagkaaGreatDoorCls19
set_option linter.unusedVariables false
set_option linter.unusedSimpArgs false
set_option maxRecDepth 20000
set_option maxHeartbeats 8000000
namespace Go.Proofs.YtbfbokdccdagkaaGreatDoor
open Go.Sx Go.Our
def Z9G : Plan := (ZB [(0, 1), (1, 1), (2, 1), (3, 1), (5, 1), (6, 1), (7, 1), (8, 1), (4, 2), (9, 2), (10, 1), (11, 3), (12, 0), (13, 1), (14, 1), (15, 0)])
theorem Zbh {A : List LB} (h : Rise cmpL A) {m i : Nat} (hm : m < A.length) (hi : i < A.length) : Z2Q A[m] A[i] = true ↔ m < i := by
 rw [Z0P, decide_eq_true_iff]
 unfold Rise at h
 rw [List.pairwise_iff_getElem] at h
 constructor
 · intro h1
   rcases Nat.lt_trichotomy m i with h2 | h2 | h2
   · exact h2
   · subst h2; have := triL.self A[m]; omega
   · have h3 := h i m hi hm h2
     have := triL.anti A[m] A[i]
     omega
 · exact fun h1 => h m i hm hi h1
def ndsM (of : Int) (A : List LB) : List Nd := A.map fun s => ⟨of, s, 0⟩
theorem XS (of : Int) (A : List LB) : (ndsM of A).length = A.length := by simp [ndsM]
theorem Z4J {of : Int} {A : List LB} {m : Nat} (h : m < (ndsM of A).length) : (ndsM of A)[m] = ⟨of, A[m]'(by rw [XS] at h; exact h), 0⟩ := by simp [ndsM]
theorem Z6u {S : List Qd} : ∀ q ∈ S, Z4E (ndsM 0 (ZD S)) 0 (ixF 0 (ZD S)) (ZD S).length q := by
 intro q hq x hx
 have hx : x ∈ ZD S := (Jb _ _).2 (List.mem_flatMap.2 ⟨q, hq, hx⟩)
 have hr : Rise cmpL (ZD S) := Xh triL _
 have hlt := List.idxOf_lt_length_of_mem hx
 refine ⟨(ZD S).idxOf x, by unfold ixF; rw [if_pos hx]; omega, hlt, by rw [XS]; omega, fun m hm => ?_⟩
 have hm2 := hm
 rw [XS] at hm2
 have h1 := Zbh hr hm2 hlt
 rw [List.getElem_idxOf hlt] at h1
 unfold Zbe
 rw [Z4J hm]
 simp only [Int.lt_irrefl, false_or, true_and]
 exact h1
theorem Z8r (n : Nat) : Um (List.replicate n [SV.val (.slice none 0 0)]) (inD (List.replicate n [])) := by
 refine ⟨by simp [inD], fun a row' h => ?_⟩
 unfold inD at h
 rw [List.map_replicate] at h
 obtain ⟨ha, hr⟩ := List.getElem?_eq_some_iff.1 h
 rw [List.length_replicate] at ha
 rw [List.getElem_replicate] at hr
 subst hr
 refine ⟨_, by rw [List.getElem?_replicate, if_pos ha], ?_⟩
 exact And.intro (.inr ⟨rfl, 20, rfl⟩) trivial
theorem Zcx (of : Int) (A : List LB) {i : Nat} (h : i < A.length) {n : Nat} (hn : n = i) : List.take n (((ndsM of A).take i).map Yi) ++ List.take 1 (List.drop 0 [[SV.int .i64 of, SV.str A[i], .int .i64 0]]) = ((ndsM of A).take (i + 1)).map Yi := by
 subst hn
 have hl : n < (ndsM of A).length := by rw [XS]; exact h
 rw [List.take_of_length_le (by rw [List.length_map, List.length_take]; omega), List.take_succ_eq_append_getElem hl, List.map_append]
 rw [Z4J hl]; rfl
set_option maxHeartbeats 4000000 in
theorem Z4K (l z : List Qd) (lim : Option Nat) (hl : JI l) (hl2 : l.length ≤ 1048576) (hz : (l ++ z).length ≤ 1152921504606846976) :
   Does Tryz.prog tab 39 2 [.sl (.loc 0) 0 1 1 none] [] [(0, .rows 1 [[.sl (.loc 1) 0 16 l.length lim]]), (1, .rows 16 ((l ++ z).map Zc))]
   (fun r O nx => r = .ptr (.loc 2) 0 0 0 ∧ O = [(2, .box [.sl (.loc 3) 0 3 (ZD l).length none, .sl (.loc 4) 0 1 (ZD l).length none]), (3, .rows 3 ((ndsM 0 (ZD l)).map Yi)), (4, .deep false 1 (inD (Yz l)))] ∧ nx = 5) := by
 have hbl := Z3V l z lim hl hz
 have hAl : (ZD l).length ≤ l.length * 4 := Nat.le_trans (Xe _) (Xz _ Yx _)
 have hpl := Z6u (S := l)
 refine Does.enter Z2 (g := 39) (fn := Tryz.f39) Tryz.call39 Tryz.func39 rfl 78 rfl rfl [.tmp 2] rfl ?_
 intro w0 F η0 h0
 conv => whnf
 repeat' ((first | with_reducible refine IF.tt ?_ | with_reducible refine IF.ff ?_ | refine AU ?_ | (refine IW (fun h => ?_) (fun h => ?_) <;> try (exfalso; omega))) <;> conv => whnf)
 refine LOOP.once Z2 ?_
 conv => whnf
 repeat' ((first | with_reducible refine IF.tt ?_ | with_reducible refine IF.ff ?_ | refine AU ?_ | (refine IW (fun h => ?_) (fun h => ?_) <;> try (exfalso; omega))) <;> conv => whnf)
 refine CALL.aA [1] (hbl) ?_
 rintro r O nx ⟨rfl, rfl, rfl⟩
 conv => whnf
 repeat' ((first | with_reducible refine IF.tt ?_ | with_reducible refine IF.ff ?_ | refine AU ?_ | (refine IW (fun h => ?_) (fun h => ?_) <;> try (exfalso; omega))) <;> conv => whnf)
 have hset : setL cmpL (X3 l) = ZD l := rfl
 rw [hset]
 unfold Yz
 unfold JI at hl
 generalize ZD l = A at hAl hpl ⊢
 refine LOOP.nilCell 2 0 3 rfl rfl ?_
 refine LOOP.gok Z2 [0, 3, 4, 5] [] (X := Nat) (fun k => k ≤ A.length) (fun k => [(6, .int .i64 (k : Int))]) (fun k => [(2, .box [.sl (.loc 4) 0 3 k none, .val (.slice none 0 0)]), (3, .rows 1 (A.map Z6)), (4, .rows 3 (((ndsM 0 A).take k).map Yi))]) 5 (fun k => A.length - k) 0 (by omega) ?_
 conv => whnf
 refine ⟨by exact GOES.kA h0 [2, 3, 4], ?_⟩
 intro k hk
 have htk : ((ndsM 0 A).take k).length = k := by rw [List.length_take, XS]; omega
 conv => whnf
 refine IF.mk (fun h1 => ?_) (fun h1 => ?_)
 · have hlt : k < A.length := by simp at h1; omega
   conv => whnf
   repeat' ((first | with_reducible refine IF.tt ?_ | with_reducible refine IF.ff ?_ | (show DRAWN _ _ _ _ _ _ _; first | refine DRAWN.of (id := 9) Z2 mixed Z9G (by kernel_rfl) ?_) | refine ADD.mk (fun _ _ => ?_) | refine AD ?_ | refine FORK.mk ?_ ?_ | (refine GET.at (row := Z6 A[k]) (Zq hlt (by omega)) ?_; conv => whnf) | (refine NEED.mk (Zu 32 rfl rfl rfl (by rw [List.length_map, htk]; exact Nat.le_refl _) (by omega)) ?_; conv => whnf) | refine AU ?_ | (refine IW (fun h => ?_) (fun h => ?_) <;> try (exfalso; omega))) <;> conv => whnf)
   all_goals rw [Zcx 0 A hlt rfl]
   all_goals refine ⟨k + 1, by omega, by omega, ?_⟩
   all_goals conv => whnf
   all_goals exact GOES.kA h0 [2, 3, 6]
 · have hke : k = A.length := by simp at h1; omega
   subst hke
   rw [List.take_of_length_le (by rw [XS]; exact Nat.le_refl _)]
   conv => whnf
   repeat' ((first | with_reducible refine IF.tt ?_ | with_reducible refine IF.ff ?_ | refine AU ?_ | (refine IW (fun h => ?_) (fun h => ?_) <;> try (exfalso; omega))) <;> conv => whnf)
   refine LOOP.once Z2 ?_
   conv => whnf
   repeat' ((first | with_reducible refine IF.tt ?_ | with_reducible refine IF.ff ?_ | (refine NEED.mk (VY 24 rfl (by omega) (by omega) (by omega) (by omega)) ?_; conv => whnf) | refine AU ?_ | (refine IW (fun h => ?_) (fun h => ?_) <;> try (exfalso; omega))) <;> conv => whnf)
   rw [Int.toNat_natCast]
   refine GHO.loop (GHO.deepen 5 (inD (List.replicate A.length [])) rfl (Z8r _)) ?_
   refine LOOP.once Z2 ?_
   conv => whnf
   repeat' ((first | with_reducible refine IF.tt ?_ | with_reducible refine IF.ff ?_ | refine AU ?_ | (refine IW (fun h => ?_) (fun h => ?_) <;> try (exfalso; omega))) <;> conv => whnf)
   have hins : ∀ j, ((l.take j).foldl (putS (ixF 0 A)) (List.replicate A.length [])).length = A.length := fun j => by rw [Jt]; exact List.length_replicate
   refine LOOP.gok Z2 [0, 3, 7] [2, 4] (X := Nat) (fun j => j ≤ l.length) (fun j => [(8, .int .i64 (j : Int))]) (fun j => [(5, .deep false 1 (inD ((l.take j).foldl (putS (ixF 0 A)) (List.replicate A.length []))))]) 6 (fun j => l.length - j) 0 (by omega) ?_
   conv => whnf
   refine ⟨by exact GOES.kA h0 [2, 3, 4, 5], ?_⟩
   intro j hj
   conv => whnf
   repeat' ((first | with_reducible refine IF.tt ?_ | with_reducible refine IF.ff ?_ | refine AU ?_ | (refine IW (fun h => ?_) (fun h => ?_) <;> try (exfalso; omega))) <;> conv => whnf)
   · have hlt : j < l.length := by omega
     have hto := Jp (putS (ixF 0 A)) (List.replicate A.length []) l hlt
     have hI := hins j
     have hbd := JQ (f := ixF 0 A) (l := l.take j) (N := 0) (I := List.replicate A.length []) (fun x hx => by rw [List.eq_of_mem_replicate hx]; exact Nat.le_refl _)
     rw [List.length_take] at hbd
     generalize (l.take j).foldl (putS (ixF 0 A)) (List.replicate A.length []) = I at hto hI hbd ⊢
     have hput := Z8n (ndsM 0 A) 0 (ixF 0 A) l[j] I (by rw [hI]; exact hpl _ (List.getElem_mem hlt)) (by rw [XS]; omega) (fun x hx => by have := hbd x hx; omega) (by omega)
     rw [hI, XS] at hput
     repeat' ((first | with_reducible refine IF.tt ?_ | with_reducible refine IF.ff ?_ | (refine GET.at (row := Zc l[j]) (Zcp hlt (by omega)) ?_; conv => whnf) | refine AU ?_ | (refine IW (fun h => ?_) (fun h => ?_) <;> try (exfalso; omega))) <;> conv => whnf)
     refine CALL.aA [2, 4, 5] (hput) ?_
     rintro r O nx ⟨rfl, rfl, rfl⟩
     conv => whnf
     repeat' ((first | with_reducible refine IF.tt ?_ | with_reducible refine IF.ff ?_ | refine AU ?_ | (refine IW (fun h => ?_) (fun h => ?_) <;> try (exfalso; omega))) <;> conv => whnf)
     refine ⟨j + 1, by omega, by omega, ?_⟩
     rw [hto]
     conv => whnf
     exact GOES.cA h0
   · have hje : j = l.length := by omega
     subst hje
     rw [List.take_length]
     repeat' ((first | with_reducible refine IF.tt ?_ | with_reducible refine IF.ff ?_ | refine AU ?_ | (refine IW (fun h => ?_) (fun h => ?_) <;> try (exfalso; omega))) <;> conv => whnf)
     refine LOOP.once Z2 ?_
     conv => whnf
     repeat' ((first | with_reducible refine IF.tt ?_ | with_reducible refine IF.ff ?_ | refine AU ?_ | (refine IW (fun h => ?_) (fun h => ?_) <;> try (exfalso; omega))) <;> conv => whnf)
     refine FIN.aA h0 [2, 4, 5] (.ptr (.loc 2) 0 0 0) [(2, .box [.sl (.loc 3) 0 3 A.length none, .sl (.loc 4) 0 1 A.length none]), (3, .rows 3 ((ndsM 0 A).map Yi)), (4, .deep false 1 (inD (l.foldl (putS (ixF 0 A)) (List.replicate A.length []))))] ⟨rfl, rfl, rfl⟩
end Go.Proofs.YtbfbokdccdagkaaGreatDoor
namespace Go.Proofs.YtbfbokdccdagkaaGreatDoor
open Go.Sx Go.Our
def Z9H : Plan := (ZB [(0, 1), (1, 1), (2, 1), (3, 1), (4, 1), (6, 1), (7, 1), (8, 1), (10, 1), (5, 2), (9, 2), (11, 1), (12, 1), (13, 2), (14, 3), (15, 0), (16, 1), (17, 0)])
theorem Z5C {α β : Type} : ∀ (l : List α) (r : List β) (i : Nat), (l.zip r).take i = (l.take i).zip (r.take i)
 | [], r, i => by simp
 | l, [], i => by cases l <;> simp
 | a :: l, b :: r, 0 => by simp
 | a :: l, b :: r, i + 1 => by simp [Z5C l r i]
theorem Z9I (I : List (List LB)) (k : Nat) (p : Int × LB) (h : p.1.toNat < I.length) : putC (I ++ List.replicate k []) p = putC I p ++ List.replicate k [] := by
 unfold putC
 apply List.ext_getElem?
 intro a
 rw [List.getElem?_modify, List.getElem?_append, List.getElem?_append, List.length_modify, List.getElem?_modify]
 by_cases h1 : a < I.length
 · rw [if_pos h1, if_pos h1]
 · rw [if_neg h1, if_neg h1]
   have h2 : ¬ p.1.toNat = a := by omega
   simp [h2]
theorem Z3W (k : Nat) : ∀ (l : List (Int × LB)) (I : List (List LB)), (∀ p ∈ l, p.1.toNat < I.length) → l.foldl putC (I ++ List.replicate k []) = l.foldl putC I ++ List.replicate k []
 | [], I, h => rfl
 | p :: l, I, h => by
   rw [List.foldl_cons, List.foldl_cons, Z9I I k p (h p (List.mem_cons_self ..)), Z3W k l (putC I p) fun q hq => by rw [WM]; exact h q (List.mem_cons_of_mem _ hq)]
theorem Z5D {F : List Int} {i : Nat} (h : i < F.length) : maxC (F.take (i + 1)) = upC (maxC (F.take i)) F[i] := by
 rw [List.take_succ_eq_append_getElem h]; unfold maxC; rw [List.foldl_append]; rfl
theorem Zcy (c : Int) (h0 : 0 ≤ c) : ∀ (F : List Int), (∀ x ∈ F, x < c) → maxC F ≤ c := by
 have : ∀ (F : List Int) (m : Int), (∀ x ∈ F, x < c) → m ≤ c → F.foldl upC m ≤ c := by
   intro F
   induction F with
   | nil => intro m _ h; exact h
   | cons x F ih =>
     intro m h hm
     have := h x (List.mem_cons_self ..)
     exact ih _ (fun y hy => h y (List.mem_cons_of_mem _ hy)) (by unfold upC; split <;> omega)
 exact fun F h => this F 0 h h0
theorem Zbi {x : Int} : ∀ {F : List Int}, x ∈ F → x < maxC F := by
 have mono : ∀ (F : List Int) (m : Int), m ≤ F.foldl upC m := by
   intro F
   induction F with
   | nil => intro m; exact Int.le_refl _
   | cons y F ih => intro m; exact Int.le_trans (by unfold upC; split <;> omega) (ih _)
 have : ∀ (F : List Int) (m : Int), x ∈ F → x < F.foldl upC m := by
   intro F
   induction F with
   | nil => intro m h; cases h
   | cons y F ih =>
     intro m h
     rcases List.mem_cons.1 h with rfl | h
     · exact Int.lt_of_lt_of_le (by unfold upC; split <;> omega) (mono F _)
     · exact ih _ h
 exact fun {F} h => this F 0 h
def Uw (F : List Int) (A : List LB) (i : Nat) : List (List LB) := ((F.zip A).take i).foldl putC (List.replicate (maxC (F.take i)).toNat [])
theorem Z3X (F : List Int) (A : List LB) (i : Nat) : (Uw F A i).length = (maxC (F.take i)).toNat := by unfold Uw; rw [XR, List.length_replicate]
theorem Z8s {F : List Int} {A : List LB} (h : F.length = A.length) : Uw F A A.length = Ys F A (maxC F).toNat := by
 unfold Uw Ys
 rw [List.take_of_length_le (l := F) (by omega), List.take_of_length_le (l := F.zip A) (by rw [List.length_zip]; omega)]
theorem Z4L (F : List Int) (A : List LB) (i : Nat) : ∀ x ∈ Uw F A i, x.length ≤ i := by
 intro x hx
 have := JR (l := (F.zip A).take i) (N := 0) (out := List.replicate (maxC (F.take i)).toNat []) (fun x hx => by rw [List.eq_of_mem_replicate hx]; exact Nat.le_refl _) x hx
 rw [List.length_take] at this; omega
theorem Z6v {F : List Int} {A : List LB} {i : Nat} (hF : i < F.length) (hA : i < A.length) (hp : ∀ c ∈ F, 0 ≤ c) {m : Nat} (hm : m = (maxC (F.take (i + 1))).toNat) :
   putC (Uw F A i ++ List.replicate (m - (Uw F A i).length) []) (F[i], A[i]) = Uw F A (i + 1) := by
 have hz : i < (F.zip A).length := by rw [List.length_zip]; omega
 have h0 := Z4H (F.take i)
 have h1 := Z5D hF
 have h2 := hp _ (List.getElem_mem hF)
 have h3 : (maxC (F.take i)).toNat ≤ m := by rw [hm, h1]; unfold upC; split <;> omega
 have h4 : Uw F A (i + 1) = putC (((F.zip A).take i).foldl putC (List.replicate m [])) (F[i], A[i]) := by
   unfold Uw
   rw [← hm, List.take_succ_eq_append_getElem hz, List.foldl_append, List.getElem_zip]; rfl
 rw [h4, Z3X]
 congr 1
 obtain ⟨k, rfl⟩ : ∃ k, m = (maxC (F.take i)).toNat + k := ⟨m - (maxC (F.take i)).toNat, by omega⟩
 rw [Nat.add_sub_cancel_left, ← List.replicate_append_replicate, Z3W]
 · rfl
 · intro p hp'
   rw [List.length_replicate]
   rw [Z5C] at hp'
   obtain ⟨x, y⟩ := p
   have hx := (List.of_mem_zip hp').1
   have h5 := Zbi hx
   have h6 := hp x (List.mem_of_mem_take hx)
   dsimp only; omega
theorem Z9J {T : Tab} {e : TypeId} (I : List (List LB)) (k : Nat) {n : Nat} (hn : n = I.length + k) (h : appV T e (ZX (Value.slice none 0 0)) = .kid 1 []) :
   List.take n (lbD (I ++ List.replicate k [])) ++ List.map (fun row => List.map (appV T e) row) (List.take 1 (List.drop 0 [[ZX (Value.slice none 0 0)]])) = lbD (I ++ List.replicate (k + 1) []) := by
 subst hn
 rw [List.take_of_length_le (by simp [lbD])]
 rw [List.replicate_succ', ← List.append_assoc]
 simp [lbD, Z3O, h]
set_option maxHeartbeats 4000000 in
theorem Z2P (l : List Qd) (lim : Option Nat) (hl : ClsOK l) :
   Does Tryz.prog tab 13 1 [.sl (.loc 0) 0 16 l.length none] [] [(0, .rows 16 (l.map Zc))]
   (fun r O nx => ∃ F c, Settles (Yz (setL Zx l)) (List.replicate (ZD (setL Zx l)).length 0) (if ((ZD (setL Zx l)).length : Int) < 1 then ((ZD (setL Zx l)).length : Int) else 1) F c ∧
     r = .sl (.loc 1) 0 1 c.toNat none ∧ O = [(1, .deep false 1 (lbD (Ys F (ZD (setL Zx l)) c.toNat)))] ∧ nx = 2) := by
 have hfew := hl.few
 have hts := VX l (by omega) l.length l.length 0 (Nat.le_refl _) (by omega)
 rw [List.drop_zero, List.take_length, Uk triQ _ l (Nat.le_refl _)] at hts
 have hS := Z4D hl
 have hSf := hS.few
 have hSl : (setL Zx l).length ≤ l.length := Xe _
 generalize setL Zx l = S at hts hS hSf hSl ⊢
 have hW := Z4C hS
 have hlen : (Yz S).length = (ZD S).length := by unfold Yz; rw [Jt, List.length_replicate]
 have hAl : (ZD S).length ≤ S.length * 4 := Nat.le_trans (Xe _) (Xz _ Yx _)
 have hcls : (ndsM 0 (ZD S)).map Nd.cls = List.replicate (ZD S).length 0 := by unfold ndsM; rw [List.map_map]; exact List.map_const'
 have hst := Z3T (ndsM 0 (ZD S)) (Yz S) (by rw [hcls]; exact hW)
 rw [hcls, Z9C, XS, hlen] at hst
 have hlk := Z4K S [] none (by unfold JI; omega) (by omega) (by rw [List.append_nil]; omega)
 rw [List.append_nil] at hlk
 refine Does.enter Z2 (g := 13) (fn := Tryz.f13) Tryz.call13 Tryz.func13 rfl 55 rfl rfl [.tmp 2] rfl ?_
 intro w0 F η0 h0
 conv => whnf
 repeat' ((first | with_reducible refine IF.tt ?_ | with_reducible refine IF.ff ?_ | refine AU ?_ | (refine IW (fun h => ?_) (fun h => ?_) <;> try (exfalso; omega))) <;> conv => whnf)
 refine CALL.aA [0] (hts) ?_
 rintro r O nx ⟨rfl, rfl, rfl⟩
 conv => whnf
 repeat' ((first | with_reducible refine IF.tt ?_ | with_reducible refine IF.ff ?_ | refine AU ?_ | (refine IW (fun h => ?_) (fun h => ?_) <;> try (exfalso; omega))) <;> conv => whnf)
 refine CALL.aA [2, 1] (hlk) ?_
 rintro r O nx ⟨rfl, rfl, rfl⟩
 conv => whnf
 repeat' ((first | with_reducible refine IF.tt ?_ | with_reducible refine IF.ff ?_ | refine AU ?_ | (refine IW (fun h => ?_) (fun h => ?_) <;> try (exfalso; omega))) <;> conv => whnf)
 refine CALL.aA [3, 4, 5] (hst) ?_
 rintro r O nx ⟨rfl, F, c, hSt, rfl, rfl⟩
 obtain ⟨hWF, hFl, hFr, hc0, hc1⟩ := hSt.ok hW
 rw [List.length_replicate] at hFl hc1
 have hFc : maxC F = c := hSt.max
 have hFm := fun i => Zcy c hc0 (F.take i) fun x hx => (hFr x (List.mem_of_mem_take hx)).2
 have hFp := fun i => Z4H (F.take i)
 conv => whnf
 obtain ⟨A, hA⟩ : ∃ A, A = ZD S := ⟨_, rfl⟩
 rw [← hA] at hFl hc1 hAl hlen ⊢
 have hNl : (setN (ndsM 0 A) F).length = A.length := by rw [Z2N (by rw [XS]; exact hFl), XS]
 repeat' ((first | with_reducible refine IF.tt ?_ | with_reducible refine IF.ff ?_ | refine AU ?_ | (refine IW (fun h => ?_) (fun h => ?_) <;> try (exfalso; omega))) <;> conv => whnf)
 refine LOOP.nil 4 1 rfl ?_
 refine GHO.loop (GHO.deepen 6 [] rfl (Z3Q 0)) ?_
 refine LOOP.gok Z2 [3] [] (X := Nat) (fun i => i ≤ A.length) (fun i => [(5, .int .i64 (i : Int)), (4, .sl (.loc 6) 0 1 (Uw F A i).length none)]) (fun i => [(6, .deep false 1 (lbD (Uw F A i))), (3, .box [.sl (.loc 4) 0 3 A.length none, .sl (.loc 5) 0 1 A.length none]), (4, .rows 3 ((setN (ndsM 0 A) F).map Yi))]) 7 (fun i => A.length - i) 0 (by omega) ?_
 conv => whnf
 refine ⟨by exact GOES.cA h0, ?_⟩
 intro i hi
 conv => whnf
 repeat' ((first | with_reducible refine IF.tt ?_ | with_reducible refine IF.ff ?_ | refine AU ?_ | (refine IW (fun h => ?_) (fun h => ?_) <;> try (exfalso; omega))) <;> conv => whnf)
 · have hil : i < A.length := by omega
   have hFi := hFr _ (List.getElem_mem (show i < F.length by omega))
   have hgn : ((setN (ndsM 0 A) F).map Yi)[i]? = some [.int .i64 0, .str A[i], .int .i64 (F[i]'(by omega))] := by
     rw [List.getElem?_map, List.getElem?_eq_getElem (by omega), Option.map_some]
     unfold setN
     rw [List.getElem_zipWith, Z4J]; rfl
   have hsu := Z6v (F := F) (A := A) (i := i) (by omega) hil (fun c hc => (hFr c hc).1) rfl
   have hmt := Z5D (F := F) (i := i) (by omega)
   have hIl := Z3X F A i
   have hIb := Z4L F A i
   have hM1 := hFm i
   have hM2 := hFp i
   repeat' ((first | with_reducible refine IF.tt ?_ | with_reducible refine IF.ff ?_ | (refine GET.at (row := [.int .i64 0, .str A[i], .int .i64 (F[i]'(by omega))]) (by rw [Int.toNat_natCast, Nat.zero_add]; exact hgn) ?_; conv => whnf) | refine AU ?_ | (refine IW (fun h => ?_) (fun h => ?_) <;> try (exfalso; omega))) <;> conv => whnf)
   rw [hmt] at hsu
   generalize maxC (F.take i) = M0 at hsu hIl hM1 hM2
   generalize Uw F A i = I at hsu hIl hIb ⊢
   generalize F[i]'(by omega) = f at hsu hFi hgn ⊢
   refine LOOP.gok Z2 [3, 5, 6] [3, 4] (X := Nat) (fun k => k = 0 ∨ (I.length : Int) + (k : Int) ≤ f + 1) (fun k => [(4, .sl (.loc 6) 0 1 (I.length + k) none)]) (fun k => [(6, .deep false 1 (lbD (I ++ List.replicate k [])))]) 7 (fun k => (f + 1).toNat - (I.length + k)) 0 (.inl rfl) ?_
   conv => whnf
   refine ⟨by rw [List.replicate_zero, List.append_nil]; exact GOES.cA h0, ?_⟩
   intro k hk
   conv => whnf
   repeat' ((first | with_reducible refine IF.tt ?_ | with_reducible refine IF.ff ?_ | refine AU ?_ | (refine IW (fun h => ?_) (fun h => ?_) <;> try (exfalso; omega))) <;> conv => whnf)
   · repeat' ((first | with_reducible refine IF.tt ?_ | with_reducible refine IF.ff ?_ | (refine NEED.mk (Zu 24 rfl rfl (by simp) (by simp [lbD]) (by omega)) ?_; conv => whnf) | refine AU ?_ | (refine IW (fun h => ?_) (fun h => ?_) <;> try (exfalso; omega))) <;> conv => whnf)
     rw [Z9J I k rfl]
     rotate_left
     · rfl
     refine ⟨k + 1, .inr (by omega), by omega, ?_⟩
     conv => whnf
     exact GOES.kA h0 [1, 2, 3, 4, 5, 8]
   · have hk2 : (upC M0 f).toNat - I.length = k := by unfold upC; split <;> omega
     rw [hk2] at hsu
     obtain ⟨J, hJ⟩ : ∃ J, J = I ++ List.replicate k [] := ⟨_, rfl⟩
     have hJl : J.length = I.length + k := by rw [hJ, List.length_append, List.length_replicate]
     have hJb : ∀ x ∈ J, x.length ≤ i := fun x hx => by
       rw [hJ] at hx
       rcases List.mem_append.1 hx with e | e
       · exact hIb x e
       · rw [List.eq_of_mem_replicate e]; exact Nat.zero_le _
     rw [← hJ] at hsu ⊢
     rw [← hJl]
     have hfl : f.toNat < J.length := by omega
     have hJf := hJb _ (List.getElem_mem hfl)
     refine GHO.drawn (GHO.take 6 f.toNat 0 rfl (Ju hfl) rfl) ?_
     repeat' ((first | with_reducible refine IF.tt ?_ | with_reducible refine IF.ff ?_ | (show DRAWN _ _ _ _ _ _ _; first | refine DRAWN.of (id := 10) Z2 mixed Z9H (by kernel_rfl) ?_) | refine ADD.mk (fun _ _ => ?_) | refine AD ?_ | refine FORK.mk ?_ ?_ | (refine GET.at (by rw [Nat.zero_add]; exact YI (Ju hfl)) ?_; conv => whnf) | (refine GET.at (row := [.int .i64 0, .str A[i], .int .i64 f]) (by rw [Int.toNat_natCast, Nat.zero_add]; exact hgn) ?_; conv => whnf) | (refine FINDD.at (by rw [Nat.zero_add]; exact YJ (Ju hfl)) ?_; conv => whnf) | (refine NEED.mk (Zu 16 rfl rfl rfl (Nat.le_refl _) (by rw [List.length_map]; omega)) ?_; conv => whnf) | refine AU ?_ | (refine IW (fun h => ?_) (fun h => ?_) <;> try (exfalso; omega))) <;> conv => whnf)
     have hsl : (Uw F A (i + 1)).length = J.length := by rw [← hsu, WM]
     all_goals rw [Z3P hfl (Nat.zero_add _) (s := A[i]) (by rw [List.take_of_length_le (by simp), List.take_of_length_le (by simp)]; simp [Z6])]
     all_goals refine ⟨i + 1, by omega, by omega, ?_⟩
     all_goals rw [hsl, ← hsu]
     all_goals (conv => whnf)
     all_goals exact GOES.cA h0
 · have hie : i = A.length := by omega
   subst hie
   rw [Z8s hFl, hFc]
   have hcl : (Ys F A c.toNat).length = c.toNat := by unfold Ys; rw [XR, List.length_replicate]
   repeat' ((first | with_reducible refine IF.tt ?_ | with_reducible refine IF.ff ?_ | refine AU ?_ | (refine IW (fun h => ?_) (fun h => ?_) <;> try (exfalso; omega))) <;> conv => whnf)
   rw [hcl]
   refine FIN.aA h0 [6] (.sl (.loc 1) 0 1 c.toNat none) [(1, .deep false 1 (lbD (Ys F A c.toNat)))] ⟨F, c, by rw [hA]; exact hSt, rfl, rfl, rfl⟩
def upF {α : Type} (f : α → α) (l : List α) (i : Nat) : List α := (l.take i).map f ++ l.drop i
section
variable {α : Type} {f : α → α} {l : List α}
theorem Z4M : upF f l 0 = l := by simp [upF]
theorem Zar : upF f l l.length = l.map f := by simp [upF]
theorem Zas (i : Nat) : (upF f l i).length = l.length := by simp [upF]; omega
theorem Zat {i : Nat} (h : i < l.length) : (upF f l i)[i]? = some l[i] := by
 unfold upF
 rw [List.getElem?_append_right (by simp; omega), List.getElem?_drop, List.length_map, List.length_take, Nat.min_eq_left (by omega), Nat.sub_self, Nat.add_zero, List.getElem?_eq_getElem h]
theorem Zcz {i : Nat} (h : i < l.length) (h' : i < (upF f l i).length) : (upF f l i)[i] = l[i] := by
 have := Zat (f := f) h
 rw [List.getElem?_eq_getElem h'] at this
 injection this
theorem Z8t {i : Nat} (h : i < l.length) : (upF f l i).set i (f l[i]) = upF f l (i + 1) := by
 unfold upF
 rw [List.set_append_right _ _ (by simp; omega), List.length_map, List.length_take, Nat.min_eq_left (by omega), Nat.sub_self, List.drop_eq_getElem_cons h, List.set_cons_zero, List.take_succ_eq_append_getElem h, List.map_append, List.append_assoc]
 rfl
end
theorem ZcA {l : List LB} {k x : Nat} {t : LB} {r : List SV} (hk : k = x) (hr : r = [SV.str t]) : (l.map Z6).set k r = (l.set x t).map Z6 := by
 subst hk hr
 rw [List.map_set]; rfl
theorem Z8u {out : List (List LB)} {i k n : Nat} {sv : SV} {rows : List (List SV)} {l : List LB} (hk : k = i) (hr : rows.take n = l.map Z6) : setC (setC (lbD out) k 0 (.v sv)) i 0 (.kid 1 (rows.take n)) = lbD (out.set i l) := by
 subst hk
 rw [setC_setC]
 exact Z2J (es := 1) (f := Z6) rfl hr
def vD (R : List LB) : List (List DC) := R.map fun t => [.v (.str t)]
theorem ZcB (R : List LB) : (vD R).length = R.length := by simp [vD]
theorem UM (R : List LB) : Zo (vD R) = R.map Z6 := by unfold Zo vD; rw [List.map_map]; rfl
theorem Z3Y (R : List LB) : Um (R.map Z6) (vD R) := by
 refine ⟨by simp [vD], fun a row' h => ?_⟩
 unfold vD at h
 rw [List.getElem?_map] at h
 obtain ⟨t, h1, rfl⟩ := Option.map_eq_some_iff.1 h
 exact ⟨Z6 t, by rw [List.getElem?_map, h1]; rfl, .inl rfl, trivial⟩
theorem Z8v : ∀ R : List LB, Zw (vD R) = true
 | [] => rfl
 | t :: R => by simp only [vD, List.map_cons, Zw, Yu, JT, plain, Bool.and_self, Bool.true_and]; exact Z8v R
instance {R : List LB} : PlD (vD R) := ⟨Z8v R⟩
theorem Z8w (R : List LB) (t : LB) {n : Nat} {r : List SV} (hn : n = R.length) (hr : r = [SV.str t]) : List.take n (R.map Z6) ++ List.take 1 (List.drop 0 [r]) = (R ++ [t]).map Z6 := by
 subst hn hr
 rw [List.take_of_length_le (by simp)]
 simp [Z6]
theorem ZcC {V : List (List LB)} {i es : Nat} (h : es = 1) : setC (lbD V) i 0 (.kid es []) = lbD (V.set i []) := by
 subst h
 exact Z2J (es := 1) (f := Z6) (n := 0) (rows := []) (l := []) rfl rfl
theorem Zbj {M : Mx} {O : Hps} {nx : Nat} (es : Nat) : GHO M O nx ((nx, .rows es []) :: O) (nx + 1) :=
 ⟨fun η w H => ⟨η ++ [none], List.prefix_append _ _, H.name none (Or.inl ⟨Zz H.len _, rfl⟩) (fun e h => by cases h) (fun e h => by cases h)⟩⟩
theorem Z5E {ss : List (List DC)} {i k : Nat} {d : DC} (hk : k = i) : ss.modify k (fun row => row.set 0 d) = setC ss i 0 d := by subst hk; rfl
theorem Z1V {j : Nat} : ∀ (l : List (Int × LB)) (out : List (List LB)) (h : j < out.length), (0 < (out[j]'h).length ∨ ∃ p ∈ l, p.1.toNat = j) → 0 < ((l.foldl putC out)[j]'(by rw [XR]; exact h)).length
 | [], out, h, hp => by
   rcases hp with h1 | ⟨p, h1, _⟩
   · exact h1
   · cases h1
 | p :: l, out, h, hp => by
   refine Z1V l (putC out p) (by rw [WM]; exact h) ?_
   unfold putC
   rw [List.getElem_modify]
   rcases hp with h1 | ⟨q, h1, h2⟩
   · left; split
     · rw [List.length_append]; omega
     · exact h1
   · rcases List.mem_cons.1 h1 with rfl | h1
     · left; rw [if_pos h2]; simp
     · exact .inr ⟨q, h1, h2⟩
theorem Z16 (l : List LB) : ∀ i, i ≤ l.length → ∀ j, j < (Zm (l.take i)).length → (j : Int) ∈ Yj l
 | 0, _, j, h => by simp [Zm] at h
 | i + 1, hi, j, h => by
   have hil : i < l.length := by omega
   rw [Ya l hil] at h
   by_cases hm : l[i] ∈ Zm (l.take i)
   · rw [if_pos hm] at h
     exact Z16 l i (by omega) j h
   · rw [if_neg hm, List.length_append, List.length_singleton] at h
     rcases Nat.lt_or_ge j (Zm (l.take i)).length with h1 | h1
     · exact Z16 l i (by omega) j h1
     · have h2 := WH l hil hm
       have : j = (Zm (l.take i)).length := by omega
       subst this
       exact List.mem_of_getElem? h2
theorem Settles.onto {ins : List (List Sd)} {cl : List Int} {ct : Int} {F : List Int} {c : Int} (h : Settles ins cl ct F c) : ∀ j : Nat, (j : Int) < c → (j : Int) ∈ F := by
 induction h with
 | @stop cl ct _ => exact fun j hj => Z16 (Yt cl ins) _ (Nat.le_refl _) j (by rw [List.take_length]; omega)
 | go _ _ ih => exact ih
theorem Z4N {F : List Int} {A : List LB} {n : Nat} (hl : F.length = A.length) (h : ∀ j : Nat, j < n → (j : Int) ∈ F) : ∀ x ∈ Ys F A n, 0 < x.length := by
 intro x hx
 obtain ⟨j, hj, rfl⟩ := List.getElem_of_mem hx
 have hjn : j < n := by unfold Ys at hj; rw [XR, List.length_replicate] at hj; exact hj
 obtain ⟨i, hi, he⟩ := List.getElem_of_mem (h j hjn)
 refine Z1V _ _ (by rw [List.length_replicate]; exact hjn) (.inr ⟨((F.zip A)[i]'(by rw [List.length_zip]; omega)), List.getElem_mem _, ?_⟩)
 rw [List.getElem_zip]; dsimp only; rw [he]; omega
def spT : LB := [115, 112, 111, 105, 108, 116]
def Z3Z : LB := [109, 111, 114, 101]
def spL (l : List LB) : List LB := l.map fun _ => spT
set_option maxHeartbeats 8000000 in
theorem Z17 (l : List Qd) (hl : ClsOK l) : Does Tryz.prog tab 3 1 [.sl (.loc 0) 0 16 l.length none] [] [(0, .rows 16 (l.map Zc))] (ValK 1 (.bool true)) := by
 have hfew := hl.few
 have hL := Z7F l [] none (by unfold JI; omega)
 have hC := Z3R l [Un] none hl
 have hR := Z2P l none hl
 have hK := Z7G l [] none (by unfold JI; omega) (by rw [List.append_nil]; omega)
 have hSp := Z6a (l ++ [Un]) l.length (by simp) (by simp; omega)
 rw [List.append_nil] at hL hK
 refine Does.enter Z2 (g := 3) (fn := Tryz.f3) Tryz.call3 Tryz.func3 rfl 107 rfl rfl [.tmp 2] rfl ?_
 intro w0 F η0 h0
 conv => whnf
 repeat' ((first | refine AU ?_ | (refine IW (fun h => ?_) (fun h => ?_) <;> try (exfalso; omega))) <;> conv => whnf)
 refine CALL.aA [0] (hL) ?_
 rintro r O nx ⟨rfl, rfl, rfl⟩
 conv => whnf
 repeat' ((first | refine AU ?_ | (refine IW (fun h => ?_) (fun h => ?_) <;> try (exfalso; omega))) <;> conv => whnf)
 refine CALL.aA [1] (hC) ?_
 rintro r O nx ⟨F, c, hSt, rfl, rfl, rfl⟩
 conv => whnf
 repeat' ((first | refine AU ?_ | (refine IW (fun h => ?_) (fun h => ?_) <;> try (exfalso; omega))) <;> conv => whnf)
 refine CALL.aA [1] (hC) ?_
 rintro r O nx ⟨F', c', hSt', rfl, rfl, rfl⟩
 obtain ⟨rfl, rfl⟩ := hSt.det hSt'
 conv => whnf
 repeat' ((first | refine AU ?_ | (refine IW (fun h => ?_) (fun h => ?_) <;> try (exfalso; omega))) <;> conv => whnf)
 refine CALL.aA [0] (hR) ?_
 rintro r O nx ⟨F', c', hSt', rfl, rfl, rfl⟩
 obtain ⟨rfl, rfl⟩ := hSt.det hSt'
 have hAl : (ZD (setL Zx l)).length ≤ (setL Zx l).length * 4 := Nat.le_trans (Xe _) (Xz _ Yx _)
 have hSl : (setL Zx l).length ≤ l.length := Xe _
 obtain ⟨hWF, hFl, hFr, hc0, hc1⟩ := hSt.ok (Z4C (Z4D hl))
 rw [List.length_replicate] at hFl hc1
 have hon := hSt.onto
 have hpos := Z4N (F := F') (A := ZD (setL Zx l)) (n := c'.toNat) hFl (fun j hj => hon j (by omega))
 have hbd : ∀ x ∈ Ys F' (ZD (setL Zx l)) c'.toNat, x.length ≤ 67108864 := fun x hx => by
   have := JR (l := F'.zip (ZD (setL Zx l))) (N := 0) (out := List.replicate c'.toNat []) (fun x hx => by rw [List.eq_of_mem_replicate hx]; exact Nat.le_refl _) x hx
   rw [List.length_zip] at this; omega
 have hol : (Ys F' (ZD (setL Zx l)) c'.toNat).length = c'.toNat := by unfold Ys; rw [XR, List.length_replicate]
 have hnl : (Ys F' (ZD (setL Zx l)) c'.toNat).length ≤ 67108864 := by omega
 clear hC hR hSt hon hWF hFr
 generalize Ys F' (ZD (setL Zx l)) c'.toNat = out at hpos hbd hnl hol ⊢
 generalize c'.toNat = n at hol ⊢
 subst hol
 have hSC := Wn out hnl hbd
 conv => whnf
 repeat' ((first | refine AU ?_ | (refine IW (fun h => ?_) (fun h => ?_) <;> try (exfalso; omega))) <;> conv => whnf)
 refine CALL.aA [2, 4] (hSC) ?_
 rintro r O nx ⟨rfl, rfl, rfl⟩
 conv => whnf
 repeat' ((first | refine AU ?_ | (refine IW (fun h => ?_) (fun h => ?_) <;> try (exfalso; omega))) <;> conv => whnf)
 refine CALL.aA [3, 4] (hSC) ?_
 rintro r O nx ⟨rfl, rfl, rfl⟩
 conv => whnf
 repeat' ((first | refine AU ?_ | (refine IW (fun h => ?_) (fun h => ?_) <;> try (exfalso; omega))) <;> conv => whnf)
 refine CALL.aA [0, 1] (hK) ?_
 rintro r O nx ⟨rfl, rfl, rfl⟩
 conv => whnf
 repeat' ((first | refine AU ?_ | (refine IW (fun h => ?_) (fun h => ?_) <;> try (exfalso; omega))) <;> conv => whnf)
 refine CALL.aA [1] (hSp) ?_
 rintro r O nx ⟨rfl, rfl, rfl⟩
 conv => whnf
 repeat' ((first | refine AU ?_ | (refine IW (fun h => ?_) (fun h => ?_) <;> try (exfalso; omega))) <;> conv => whnf)
 refine LOOP.gok Z2 [4, 5, 6] [] (X := Nat) (fun i => i ≤ out.length) (fun i => [(7, .int .i64 (i : Int))]) (fun i => [(2, .deep false 1 (lbD (upF spL out i))), (3, .deep false 1 (lbD out)), (4, .deep false 1 (lbD out))]) 5 (fun i => out.length - i) 0 (by omega) ?_
 conv => whnf
 refine ⟨by rw [Z4M]; exact GOES.cA h0, ?_⟩
 intro i hi
 have hul := Zas (f := spL) (l := out) i
 conv => whnf
 repeat' ((first | refine AU ?_ | (refine IW (fun h => ?_) (fun h => ?_) <;> try (exfalso; omega))) <;> conv => whnf)
 · have hil : i < out.length := by omega
   have hlt : i < (upF spL out i).length := by omega
   have hat := Zcz (f := spL) hil hlt
   have hset := Z8t (f := spL) hil
   have hbi := hbd _ (List.getElem_mem hil)
   refine GHO.loop (GHO.take 2 i 0 rfl (Ju hlt) rfl) ?_
   rw [hat]
   generalize upF spL out i = U at hset hlt hat hul ⊢
   generalize out[i] = x at hat hset hbi ⊢
   rw [List.length_map]
   refine LOOP.gok Z2 [4, 5, 6, 7] [2, 3, 4] (X := Nat) (fun k => k ≤ x.length) (fun k => [(8, .int .i64 (k : Int))]) (fun k => [(5, .rows 1 ((upF (fun _ => spT) x k).map Z6))]) 6 (fun k => x.length - k) 0 (by omega) ?_
   conv => whnf
   refine ⟨by rw [Z4M]; exact GOES.cA h0, ?_⟩
   intro k hk
   conv => whnf
   repeat' ((first | (refine FINDD.at (by rw [Int.toNat_natCast, Nat.zero_add]; exact YJ (Ju hlt)) ?_; conv => whnf) | refine AU ?_ | (refine IW (fun h => ?_) (fun h => ?_) <;> try (exfalso; omega))) <;> conv => whnf)
   · have hkl : k < x.length := by omega
     refine GET.at (row := Z6 x[k]) (by rw [Int.toNat_natCast, Nat.zero_add, List.getElem?_map, Zat hkl]; rfl) ?_
     conv => whnf
     repeat' ((first | refine AU ?_ | (refine IW (fun h => ?_) (fun h => ?_) <;> try (exfalso; omega))) <;> conv => whnf)
     rw [ZcA (t := spT) (x := k) (r := [ZX (Value.string { data := #[115, 112, 111, 105, 108, 116] })]) (by omega) rfl, show (upF (fun _ => spT) x k).set k spT = upF (fun _ => spT) x (k + 1) from Z8t hkl]
     refine ⟨k + 1, by omega, by omega, ?_⟩
     conv => whnf
     exact GOES.cA h0
   · have hke : k = x.length := by omega
     subst hke
     rw [Zar]
     refine ⟨i + 1, by omega, by omega, ?_⟩
     conv => whnf
     refine GOES.trans (GHO.goes (GHO.putk 2 i 0 5 rfl (UL hlt rfl) rfl rfl (by simp) (by decide))) ?_
     rw [Z8u (l := spL x) rfl (by rw [List.take_of_length_le (by simp)]; rfl), hset]
     exact GOES.cA h0
 · have hie : i = out.length := by omega
   subst hie
   rw [Zar]
   have hpos2 : ∀ x ∈ out.map spL, 0 < x.length := fun x hx => by
     obtain ⟨y, hy, rfl⟩ := List.mem_map.1 hx
     have := hpos y hy
     unfold spL; rw [List.length_map]; exact this
   have hbd2 : ∀ x ∈ out.map spL, x.length ≤ 67108864 := fun x hx => by
     obtain ⟨y, hy, rfl⟩ := List.mem_map.1 hx
     have := hbd y hy
     unfold spL; rw [List.length_map]; exact this
   have hall : ∀ x ∈ out.map spL, ∀ t ∈ x, t = spT := fun x hx t ht => by
     obtain ⟨y, hy, rfl⟩ := List.mem_map.1 hx
     unfold spL at ht
     obtain ⟨_, _, rfl⟩ := List.mem_map.1 ht; rfl
   have hUl : (out.map spL).length = out.length := List.length_map ..
   generalize out.map spL = U at hpos2 hbd2 hall hUl ⊢
   refine LOOP.gok Z2 [4, 5, 6] [2, 3, 4] (X := Nat) (fun i => i ≤ U.length) (fun i => [(9, .int .i64 (i : Int))]) (fun i => []) 5 (fun i => U.length - i) 0 (by omega) ?_
   conv => whnf
   refine ⟨by exact GOES.cA h0, ?_⟩
   intro i hi
   conv => whnf
   repeat' ((first | refine AU ?_ | (refine IW (fun h => ?_) (fun h => ?_) <;> try (exfalso; omega))) <;> conv => whnf)
   · have hil : i < U.length := by omega
     refine FINDD.at (by rw [Int.toNat_natCast, Nat.zero_add]; exact Z8i hil rfl) ?_
     conv => whnf
     repeat' ((first | refine AU ?_ | (refine IW (fun h => ?_) (fun h => ?_) <;> try (exfalso; omega))) <;> conv => whnf)
     rw [List.length_map, Z5E (i := i) (by omega)]
     have hbi := hbd2 _ (List.getElem_mem hil)
     have hpi := hpos2 _ (List.getElem_mem hil)
     obtain ⟨x, hx⟩ : ∃ x, x = U[i] := ⟨_, rfl⟩
     rw [← hx] at hbi hpi ⊢
     refine LOOP.reach 10 rfl hpi (by decide) fun L hL => ?_
     refine GHO.loop (GHO.trans (GHO.deepen 5 (vD x) rfl (Z3Y x)) (Zbj 1)) ?_
     refine LOOP.gok Z2 [4, 5, 6, 9] [2, 3, 4] (X := Nat × Bool × List LB × List LB) (fun y => y.1 ≤ 20 ∧ y.2.2.1.take x.length = x ∧ (y.2.1 = false → y.2.2.1.length = x.length + y.1 ∧ y.2.2.1.length ≤ L) ∧ (y.2.1 = true → y.2.2.2.length = x.length + y.1)) (fun y => [(10, bif y.2.1 then .sl (.loc 6) 0 1 (x.length + y.1) none else .sl (.loc 5) 0 1 (x.length + y.1) (some L)), (11, .int .i64 (y.1 : Int))]) (fun y => [(5, .deep false 1 (vD y.2.2.1)), (6, .rows 1 (y.2.2.2.map Z6))]) 7 (fun y => 20 - y.1) (0, false, x, []) ⟨by simp, by simp, fun _ => ⟨by simp, hL⟩, fun h => by cases h⟩ ?_
     conv => whnf
     refine ⟨by exact GOES.cA h0, ?_⟩
     rintro ⟨k, b, R, T⟩ ⟨hk, hR, hA, hB⟩
     dsimp only at hk hR hA hB ⊢
     cases b
     · obtain ⟨hRl, hRL⟩ := hA rfl
       clear hA hB
       dsimp only [cond]
       have hRx : (R ++ [Z3Z]).take x.length = x := by rw [List.take_append_of_le_length (by omega)]; exact hR
       conv => whnf
       repeat' ((first | refine AU ?_ | (refine IW (fun h => ?_) (fun h => ?_) <;> try (exfalso; omega))) <;> conv => whnf)
       · refine NEED.mk ⟨rfl, by omega, by omega, by rw [ZcB]; omega, by omega, Nat.le_trans (Nat.mul_le_mul (Nat.min_le_left _ _) (Nat.le_of_eq (show _ = 16 from rfl))) (by omega)⟩ ?_
         conv => whnf
         repeat' ((first | refine AU ?_ | (refine IW (fun h => ?_) (fun h => ?_) <;> try (exfalso; omega))) <;> conv => whnf)
         · rw [UM, Z8w R Z3Z (r := [ZX (Value.string { data := #[109, 111, 114, 101] })]) hRl.symm rfl]
           refine ⟨(k + 1, true, R, R ++ [Z3Z]), ⟨by dsimp only; omega, hR, (fun h => by cases h), fun _ => by dsimp only; rw [List.length_append, List.length_singleton]; omega⟩, by dsimp only; omega, ?_⟩
           dsimp only [cond]
           conv => whnf
           exact GOES.kA h0 [1, 2, 3, 4, 5, 8]
         · rw [UM, Z8w R Z3Z (r := [ZX (Value.string { data := #[109, 111, 114, 101] })]) hRl.symm rfl]
           refine ⟨(k + 1, false, R ++ [Z3Z], T), ⟨by dsimp only; omega, hRx, (fun _ => by dsimp only; rw [List.length_append, List.length_singleton]; omega), fun h => by cases h⟩, by dsimp only; omega, ?_⟩
           dsimp only [cond]
           conv => whnf
           refine GOES.trans (GHO.goes (GHO.deepen 5 (vD (R ++ [Z3Z])) rfl (Z3Y _))) ?_
           exact GOES.cA h0
       · refine ⟨i + 1, by omega, by omega, ?_⟩
         conv => whnf
         have hRn : x.length ≤ R.length := by have := congrArg List.length hR; rw [List.length_take] at this; omega
         refine GOES.trans (GHO.goes (GHO.trans (GHO.undeep 5 rfl) (GHO.putk 2 i 0 5 rfl (UL hil rfl) rfl rfl (by rw [UM, List.length_map]; exact hRn) (by decide)))) ?_
         rw [UM, Z8u (l := x) rfl (by rw [← List.map_take, hR]), show U.set i x = U by rw [hx]; exact List.set_getElem_self hil]
         exact GOES.cA h0
     · have hTl := hB rfl
       clear hA hB
       dsimp only [cond]
       conv => whnf
       repeat' ((first | (refine NEED.mk (Zu 16 rfl rfl rfl (by rw [List.length_map]; omega) (by omega)) ?_; conv => whnf) | refine AU ?_ | (refine IW (fun h => ?_) (fun h => ?_) <;> try (exfalso; omega))) <;> conv => whnf)
       · rw [Z8w T Z3Z (r := [ZX (Value.string { data := #[109, 111, 114, 101] })]) hTl.symm rfl]
         refine ⟨(k + 1, true, R, T ++ [Z3Z]), ⟨by dsimp only; omega, hR, (fun h => by cases h), fun _ => by dsimp only; rw [List.length_append, List.length_singleton]; omega⟩, by dsimp only; omega, ?_⟩
         dsimp only [cond]
         conv => whnf
         exact GOES.kA h0 [1, 2, 3, 4, 5, 8]
       · refine ⟨i + 1, by omega, by omega, ?_⟩
         conv => whnf
         have hRn : x.length ≤ R.length := by have := congrArg List.length hR; rw [List.length_take] at this; omega
         refine GOES.trans (GHO.goes (GHO.trans (GHO.undeep 5 rfl) (GHO.putk 2 i 0 5 rfl (UL hil rfl) rfl rfl (by rw [UM, List.length_map]; exact hRn) (by decide)))) ?_
         rw [UM, Z8u (l := x) rfl (by rw [← List.map_take, hR]), show U.set i x = U by rw [hx]; exact List.set_getElem_self hil]
         exact GOES.cA h0
   · clear hi h
     refine LOOP.gok Z2 [4, 5, 6] [3, 4] (X := Nat) (fun i => i ≤ U.length) (fun i => [(12, .int .i64 (i : Int))]) (fun i => [(2, .deep false 1 (lbD (upF (fun _ => []) U i)))]) 5 (fun i => U.length - i) 0 (by omega) ?_
     conv => whnf
     refine ⟨by rw [Z4M]; exact GOES.cA h0, ?_⟩
     intro i hi
     have hul := Zas (f := fun _ => []) (l := U) i
     conv => whnf
     repeat' ((first | refine AU ?_ | (refine IW (fun h => ?_) (fun h => ?_) <;> try (exfalso; omega))) <;> conv => whnf)
     · have hil : i < U.length := by omega
       have hlt : i < (upF (fun _ => []) U i).length := by omega
       have hat := Zcz (f := fun _ => []) hil hlt
       have hset := Z8t (f := fun _ => []) hil
       have hbi := hbd2 _ (List.getElem_mem hil)
       have hsp := hall _ (List.getElem_mem hil)
       refine GHO.loop (GHO.take 2 i 0 rfl (Ju hlt) rfl) ?_
       rw [hat]
       generalize upF (fun _ => []) U i = V at hset hlt hat hul ⊢
       generalize U[i] = x at hat hset hbi hsp ⊢
       rw [List.length_map]
       refine LOOP.gok Z2 [4, 5, 6, 12] [2, 3, 4, 5] (X := Nat) (fun k => k ≤ x.length) (fun k => [(13, .int .i64 (k : Int))]) (fun k => []) 6 (fun k => x.length - k) 0 (by omega) ?_
       conv => whnf
       refine ⟨by exact GOES.cA h0, ?_⟩
       intro k hk
       conv => whnf
       repeat' ((first | (refine FINDD.at (by rw [Int.toNat_natCast, Nat.zero_add]; exact YJ (Ju hlt)) ?_; conv => whnf) | refine AU ?_ | (refine IW (fun h => ?_) (fun h => ?_) <;> try (exfalso; omega))) <;> conv => whnf)
       · have hkl : k < x.length := by omega
         refine GET.at (row := Z6 spT) (by rw [Int.toNat_natCast, Nat.zero_add, List.getElem?_map, List.getElem?_eq_getElem hkl, hsp _ (List.getElem_mem hkl)]; rfl) ?_
         conv => whnf
         repeat' ((first | refine AU ?_ | (refine IW (fun h => ?_) (fun h => ?_) <;> try (exfalso; omega))) <;> conv => whnf)
         · exact absurd rfl h
         refine ⟨k + 1, by omega, by omega, ?_⟩
         conv => whnf
         exact GOES.cA h0
       · rw [Z5E (i := i) (by omega), setC_setC, ZcC (by rfl), hset]
         refine ⟨i + 1, by omega, by omega, ?_⟩
         conv => whnf
         exact GOES.cA h0
     · refine CALL.aA [3, 4] (hSC) ?_
       rintro r O nx ⟨rfl, rfl, rfl⟩
       conv => whnf
       repeat' ((first | refine AU ?_ | (refine IW (fun h => ?_) (fun h => ?_) <;> try (exfalso; omega))) <;> conv => whnf)
       exact FIN.valueK h0 rfl rfl
end Go.Proofs.YtbfbokdccdagkaaGreatDoor
