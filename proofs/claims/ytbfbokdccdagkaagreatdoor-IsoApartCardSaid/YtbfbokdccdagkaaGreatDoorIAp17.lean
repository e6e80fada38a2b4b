/- Part 17: Apart1, Apart2. Conditions: as each part says. -/
import Derived.Test.YtbfbokdccdagkaaGreatDoorIAp12
import Derived.Test.YtbfbokdccdagkaaGreatDoorIAp16
set_option linter.unusedVariables false
set_option linter.unusedSimpArgs false
set_option maxRecDepth 20000
set_option maxHeartbeats 8000000
namespace Go.Proofs.YtbfbokdccdagkaaGreatDoor
open Go.Sx Go.Our
def JU (a b : List Qd) : Int := if (J9 a).2 ≠ 0 then (J9 a).2 else (J9 b).2
theorem Z3k (a za b zb : List Qd) (limA limB : Option Nat) (ha : a.length ≤ 1152921504606846976) (hb : b.length ≤ 1152921504606846976) (qa : Wn a) (qb : Wn b) : Does Tryz.prog tab 43 2 [.sl (.loc 0) 0 16 a.length limA, .sl (.loc 1) 0 16 b.length limB] [] [(0, .rows 16 ((a ++ za).map ZA)), (1, .rows 16 ((b ++ zb).map ZA))] (ValK 2 (.int .i64 (JU a b))) := by
 have h1 := Z1I a za limA ha qa
 have h2 := Z1I b zb limB hb qb
 refine Does.enter Z5 (g := 43) (fn := Tryz.f43) Tryz.call43 Tryz.func43 rfl 23 rfl rfl [.tmp 4] rfl ?_
 intro w0 F η0 h0
 conv => whnf
 refine CALL.aA [0] (h1) ?_
 rintro r O nx ⟨rfl, rfl, rfl⟩
 conv => whnf
 repeat' ((first | refine AU ?_ | (refine IW (fun h => ?_) (fun h => ?_) <;> try (exfalso; omega))) <;> conv => whnf)
 · exact FIN.valueK h0 rfl (congrArg (SV.int _) (if_pos h).symm)
 refine CALL.aA [1] (h2) ?_
 rintro r O nx ⟨rfl, rfl, rfl⟩
 conv => whnf
 repeat' ((first | refine AU ?_ | (refine IW (fun h => ?_) (fun h => ?_) <;> try (exfalso; omega))) <;> conv => whnf)
 exact FIN.valueK h0 rfl (congrArg (SV.int _) (if_neg (by simpa using h)).symm)
theorem Z20 (a za b zb : List Qd) (limA limB : Option Nat) (ha : a.length ≤ 1152921504606846976) (hb : b.length ≤ 1152921504606846976) (qa : Wn a) (qb : Wn b) : Does Tryz.prog tab 44 2 [.sl (.loc 0) 0 16 a.length limA, .sl (.loc 1) 0 16 b.length limB] [] [(0, .rows 16 ((a ++ za).map ZA)), (1, .rows 16 ((b ++ zb).map ZA))] (ValK 2 (.int .i64 (JU a b))) := by
 have h1 := WO a za limA ha qa
 have h2 := WO b zb limB hb qb
 refine Does.enter Z5 (g := 44) (fn := Tryz.f44) Tryz.call44 Tryz.func44 rfl 21 rfl rfl [.tmp 4] rfl ?_
 intro w0 F η0 h0
 conv => whnf
 refine CALL.aA [0] (h1) ?_
 rintro r O nx ⟨rfl, rfl, rfl⟩
 conv => whnf
 repeat' ((first | refine AU ?_ | (refine IW (fun h => ?_) (fun h => ?_) <;> try (exfalso; omega))) <;> conv => whnf)
 · exact FIN.valueK h0 rfl (congrArg (SV.int _) (if_pos h).symm)
 refine CALL.aA [1] (h2) ?_
 rintro r O nx ⟨rfl, rfl, rfl⟩
 conv => whnf
 repeat' ((first | refine AU ?_ | (refine IW (fun h => ?_) (fun h => ?_) <;> try (exfalso; omega))) <;> conv => whnf)
 exact FIN.valueK h0 rfl (congrArg (SV.int _) (if_neg (by simpa using h)).symm)
abbrev Xh (l : List Qd) : List LB := setL cmpL (ZF l)
def ApQ (a b : List Qd) (r : SV) (O : Hps) (nx : Nat) : Prop :=
 (JU a b ≠ 0 ∧ r = .tup [.val (.slice none 0 0), .int .i64 (JU a b)] ∧ O = [] ∧ nx = 2) ∨
 (JU a b = 0 ∧ ((Vx (Xh a) (Xh b) = none ∧ r = .tup [.val (.slice none 0 0), .int .i64 2] ∧ O = [] ∧ nx = 2) ∨
   ∃ ps, Vx (Xh a) (Xh b) = some ps ∧ r = .tup [.sl (.loc 2) 0 2 ps.length none, .int .i64 0] ∧ O = [(2, .rows 2 (ps.map Vj))] ∧ nx = 3))
theorem Z8C {l : List Qd} (hq : Wn l) : ∀ x ∈ Xh l, x.length ≤ 1152921504606846976 := by
 intro x hx
 obtain ⟨q, hq', hx⟩ := List.mem_flatMap.1 ((Z1j _ _).1 hx)
 obtain ⟨h1, h2, h3, h4⟩ := hq q hq'
 have key : ∀ t : Tm, TmSm t → x ∈ YN t → x.length ≤ 1152921504606846976 := fun t ht h => by
   unfold YN at h
   split at h
   · rw [List.mem_singleton.1 h]; have := ht.1; unfold Sm at this; omega
   · cases h
 unfold Yp at hx
 simp only [List.mem_append] at hx
 rcases hx with ((hx | hx) | hx) | hx
 · exact key _ h1 hx
 · exact key _ h2 hx
 · exact key _ h3 hx
 · exact key _ h4 hx
abbrev numT (m : List (LB × Int)) : List (List SV) := Z01 KT intV m
theorem Z8D (m : List (LB × Int)) : Zo (numT m) = true := Z80 KT _ (fun _ => rfl) m
instance {m : List (LB × Int)} : Pl (numT m) := ⟨Z8D m⟩
theorem Za4 {x : LB} {v : Int} {m : List (LB × Int)} : setM (false, [CK.str]) (SV.str x) (SV.int .i64 v) (numT m) = numT (setA x v m) := Z9W KT intV x v m
theorem Z8E {x : LB} {v : Int} {m : List (LB × Int)} : setM (false, [CK.str]) (SV.str x) (Zp (.int .i64 v)) (numT m) = numT (setA x v m) := Z9W KT intV x v m
def Y6 (v : Int) (l : List LB) (m : List (LB × Int)) : List (LB × Int) := l.foldl (fun m x => setA x v m) m
theorem Wo (v : Int) (z : LB) : ∀ (l : List LB) (m : List (LB × Int)), getA z (Y6 v l m) = if z ∈ l then some v else getA z m
 | [], m => by simp [Y6]
 | x :: l, m => by
   unfold Y6
   rw [List.foldl_cons]
   have := Wo v z l (setA x v m)
   unfold Y6 at this
   rw [this, Va]
   by_cases h : z ∈ l
   · simp [h]
   · by_cases e : z = x
     · simp [e]
     · simp [h, e]
theorem Z5o {v : Int} {l : List LB} {m : List (LB × Int)} {i : Nat} (h : i < l.length) : Y6 v (l.take (i + 1)) m = setA l[i] v (Y6 v (l.take i) m) := by
 unfold Y6; rw [List.take_succ_eq_append_getElem h, List.foldl_append]; rfl
def Wp (A : List LB) (l : List LB) (m : List (LB × Int)) : List (LB × Int) := l.foldl (fun m x => if x ∈ A then m else setA x 1 m) m
theorem Z3l (A : List LB) (z : LB) : ∀ (l : List LB) (m : List (LB × Int)), getA z (Wp A l m) = if z ∈ l ∧ z ∉ A then some 1 else getA z m
 | [], m => by simp [Wp]
 | x :: l, m => by
   unfold Wp
   rw [List.foldl_cons]
   have := Z3l A z l (if x ∈ A then m else setA x 1 m)
   unfold Wp at this
   rw [this]
   by_cases h : z ∈ l ∧ z ∉ A
   · simp [h]
   · rw [if_neg h]
     by_cases e : z = x
     · subst e
       by_cases hA : z ∈ A
       · simp [hA]
       · simp [hA, Va]
     · have e2 : ¬ ((z ∈ x :: l) ∧ z ∉ A) := fun h2 => h ⟨(List.mem_cons.1 h2.1).resolve_left e, h2.2⟩
       rw [if_neg e2]
       split
       · rfl
       · rw [Va, if_neg e]
theorem Z8F {A l : List LB} {m : List (LB × Int)} {i : Nat} (h : i < l.length) : Wp A (l.take (i + 1)) m = if l[i] ∈ A then Wp A (l.take i) m else setA l[i] 1 (Wp A (l.take i) m) := by
 unfold Wp; rw [List.take_succ_eq_append_getElem h, List.foldl_append]; rfl
theorem Z9x {l z : List LB} {i k : Nat} (h : i < l.length) (e : k = i) : ((l ++ z).map Zh)[k]? = some (Zh l[i]) := by
 subst e; rw [List.getElem?_map, List.getElem?_append_left h, List.getElem?_eq_getElem h]; rfl
set_option maxHeartbeats 16000000 in
theorem Z71 (a za b zb : List Qd) (limA limB : Option Nat) (ha : Xg a) (hb : Xg b) (qa : Wn a) (qb : Wn b) (hza : (a ++ za).length ≤ 1152921504606846976) (hzb : (b ++ zb).length ≤ 1152921504606846976) : Does Tryz.prog tab 17 2 [.sl (.loc 0) 0 16 a.length limA, .sl (.loc 1) 0 16 b.length limB] [] [(0, .rows 16 ((a ++ za).map ZA)), (1, .rows 16 ((b ++ zb).map ZA))] (ApQ a b) := by
 have hv := Z3k a za b zb limA limB (by unfold Xg at ha; omega) (by unfold Xg at hb; omega) qa qb
 have hA := Z1n a za limA ha hza
 have hB := Z1n b zb limB hb hzb
 refine Does.enter Z5 (g := 17) (fn := Tryz.f17) Tryz.call17 Tryz.func17 rfl 79 rfl rfl [.tmp 4, .tmp 5] rfl ?_
 intro w0 F η0 h0
 conv => whnf
 repeat' ((first | refine AU ?_ | (refine IW (fun h => ?_) (fun h => ?_) <;> try (exfalso; omega))) <;> conv => whnf)
 refine CALL.aA [0, 1] (hv) ?_
 rintro r O nx ⟨rfl, rfl, rfl⟩
 conv => whnf
 repeat' ((first | refine AU ?_ | (refine IW (fun h => ?_) (fun h => ?_) <;> try (exfalso; omega))) <;> conv => whnf)
 · refine FIN.aA h0 [] (.tup [.val (.slice none 0 0), .int .i64 (JU a b)]) [] ?_
   exact .inl ⟨h, rfl, rfl, rfl⟩
 have hv0 := h
 refine CALL.aA [0] (hA) ?_
 rintro r O nx ⟨j, hj, rfl, rfl, rfl⟩
 conv => whnf
 have hAl := Us (c := cmpL) (ZF a)
 have hBl := Us (c := cmpL) (ZF b)
 have hAl2 : (ZF a).length ≤ a.length * 4 := Jp _ YT _
 have hBl2 : (ZF b).length ≤ b.length * 4 := Jp _ YT _
 unfold Xg at ha hb
 obtain ⟨A, hAd⟩ : ∃ A, A = Xh a := ⟨_, rfl⟩
 obtain ⟨B, hBd⟩ : ∃ B, B = Xh b := ⟨_, rfl⟩
 unfold Xh at hAd hBd
 rw [← hAd] at hAl
 rw [← hBd] at hB hBl
 rw [← hAd]
 repeat' ((first | refine AU ?_ | (refine IW (fun h => ?_) (fun h => ?_) <;> try (exfalso; omega))) <;> conv => whnf)
 refine LOOP.gok Z5 [1, 7, 8, 25, 26] [] (X := Nat) (fun i => i ≤ A.length) (fun i => [(27, .int .i64 (i : Int))]) (fun i => [(2, .mp (numT (Y6 2 (A.take i) []))), (3, .rows 1 ((A ++ List.replicate j []).map Zh))]) 4 (fun i => A.length - i) 0 (by omega) ?_
 conv => whnf
 refine ⟨by exact GOES.kA h0 [2, 3], ?_⟩
 intro i hi
 conv => whnf
 by_cases hil : i < A.length
 · have hs := Z5o (v := 2) (m := []) hil
   repeat' ((first | (refine GET.at (row := Zh A[i]) (Z9x hil (by omega)) ?_; conv => whnf) | (refine NEED.mk ⟨KT.ok _, Z33 KT _ _⟩ ?_; conv => whnf) | refine AU ?_ | (refine IW (fun h => ?_) (fun h => ?_) <;> try (exfalso; omega))) <;> conv => whnf)
   first | rw [Za4, ← hs] | rw [Z8E, ← hs]
   refine ⟨i + 1, by omega, by omega, ?_⟩
   conv => whnf
   exact GOES.kA h0 [2, 3]
 have hie : i = A.length := by omega
 subst hie
 rw [List.take_length]
 repeat' ((first | refine AU ?_ | (refine IW (fun h => ?_) (fun h => ?_) <;> try (exfalso; omega))) <;> conv => whnf)
 refine CALL.aA [1] (hB) ?_
 rintro r O nx ⟨j2, hj2, rfl, rfl, rfl⟩
 conv => whnf
 repeat' ((first | refine AU ?_ | (refine IW (fun h => ?_) (fun h => ?_) <;> try (exfalso; omega))) <;> conv => whnf)
 refine LOOP.nil 8 1 rfl ?_
 have hol : ∀ i, (ownB A (B.take i)).length ≤ (B.take i).length := fun i => List.length_filter_le _ _
 refine LOOP.gok Z5 [7, 35, 36] [] (X := Nat) (fun i => i ≤ B.length) (fun i => [(37, .int .i64 (i : Int)), (8, .sl (.loc 5) 0 1 (ownB A (B.take i)).length none)]) (fun i => [(2, .mp (numT (Wp A (B.take i) (Y6 2 A [])))), (4, .rows 1 ((B ++ List.replicate j2 []).map Zh)), (5, .rows 1 ((ownB A (B.take i)).map Zh))]) 6 (fun i => B.length - i) 0 (by omega) ?_
 conv => whnf
 refine ⟨by rw [List.take_zero, show ownB A [] = [] from rfl, show Wp A [] (Y6 2 A []) = Y6 2 A [] from rfl]; exact GOES.kA h0 [2, 3, 4, 5], ?_⟩
 intro i hi
 have hoi := hol i
 rw [List.length_take] at hoi
 conv => whnf
 by_cases hil : i < B.length
 · have hs := Z8F (A := A) (m := Y6 2 A []) hil
   have ho := Z84 (A := A) hil
   have hg : getA B[i] (Wp A (B.take i) (Y6 2 A [])) = if B[i] ∈ B.take i ∧ B[i] ∉ A then some 1 else if B[i] ∈ A then some 2 else none := by rw [Z3l, Wo]; rfl
   repeat' ((first | (refine GET.at (row := Zh B[i]) (Z9x hil (by omega)) ?_; conv => whnf) | (refine NEED.mk ⟨KT.ok _, Z33 KT _ _⟩ ?_; conv => whnf) | (refine FIND.A KT intV B[i] _ (fun _ _ hf => ?_) (fun hf => ?_); conv => whnf) | (refine NEED.mk (ZM 16 rfl rfl (by simp) (by simp) (by omega)) ?_; conv => whnf) | refine AU ?_ | (refine IW (fun h => ?_) (fun h => ?_) <;> try (exfalso; omega))) <;> conv => whnf)
   · have hm : B[i] ∈ A := by
       have := (UR hf).symm.trans hg
       by_cases e : B[i] ∈ A
       · exact e
       · (repeat' split at this) <;> simp_all
     rw [if_pos hm] at hs ho
     refine ⟨i + 1, by omega, by omega, ?_⟩
     rw [hs, ho]
     conv => whnf
     exact GOES.kA h0 [2, 3, 4, 7]
   all_goals
     have hm : B[i] ∉ A := fun e => by
       first
         | (have := (UR hf).symm.trans hg; simp [e] at this; exact h this)
         | (have := (Z5U hf).symm.trans hg; simp [e] at this)
     rw [if_neg hm] at hs ho
     first | rw [Za4, ← hs] | rw [Z8E, ← hs]
     refine ⟨i + 1, by omega, by omega, ?_⟩
     rw [ho]
     conv => whnf
     exact GOES.kA h0 [2, 3, 4, 5]
 have hie : i = B.length := by omega
 subst hie
 rw [List.take_length] at hoi ⊢
 repeat' ((first | refine AU ?_ | (refine IW (fun h => ?_) (fun h => ?_) <;> try (exfalso; omega))) <;> conv => whnf)
 refine LOOP.nil 13 2 rfl ?_
 have hgA : ∀ z, getA z (Wp A B (Y6 2 A [])) = if z ∈ B ∧ z ∉ A then some 1 else if z ∈ A then some 2 else none := fun z => by rw [Z3l, Wo]; rfl
 have hap : Vx A B = JR (ownB A B) (A ++ B) [] := rfl
 have hsm : ∀ x ∈ ownB A B, x.length ≤ 1152921504606846976 := fun x hx => Z8C qb x (by unfold Xh; rw [← hBd]; exact (List.mem_filter.1 hx).1)
 generalize Wp A B (Y6 2 A []) = M0 at *
 generalize ownB A B = own at *
 refine LOOP.gok Z5 [7, 52, 53] [] (X := Nat × (List LB × (List Pr × List (LB × Int)))) (fun x => x.1 ≤ own.length ∧ JR (own.drop x.1) x.2.1 x.2.2.1 = Vx A B ∧ (∀ z, z ∈ x.2.1 ↔ ∃ v, getA z x.2.2.2 = some v) ∧ (∀ z v, getA z x.2.2.2 = some v → 0 < v) ∧ x.2.1.length = A.length + B.length + x.1 ∧ x.2.2.1.length = x.1) (fun x => [(54, .int .i64 (x.1 : Int)), (13, .sl (.loc 6) 0 2 x.2.2.1.length none)]) (fun x => [(2, .mp (numT x.2.2.2)), (5, .rows 1 (own.map Zh)), (6, .rows 2 (x.2.2.1.map Vj))]) 7 (fun x => own.length - x.1) (0, (A ++ B, ([], M0))) ⟨by simp, hap.symm, fun z => ?_, fun z v hz => ?_, by simp, rfl⟩ ?_
 · dsimp only
   rw [hgA, List.mem_append]
   by_cases e : z ∈ A <;> by_cases e2 : z ∈ B <;> simp [e, e2]
 · dsimp only at hz
   rw [hgA] at hz
   (repeat' split at hz) <;> first | (injection hz with hz; omega) | cases hz
 conv => whnf
 refine ⟨by exact GOES.kA h0 [2, 3, 4, 5, 6], ?_⟩
 rintro ⟨i, U, ps, m⟩ ⟨hi, hp, hU, hpos, hUl, hpl⟩
 dsimp only at hi hp hU hpos hUl hpl ⊢
 conv => whnf
 by_cases hil : i < own.length
 · have gi : (own.map Zh)[0 + (i : Int).toNat]? = some (Zh own[i]) := by
     rw [show 0 + (i : Int).toNat = i by omega, List.getElem?_map, List.getElem?_eq_getElem hil]; rfl
   have hst := Z6y (U := U) (ps := ps) hil
   rw [hp] at hst
   have hsl := hsm own[i] (List.getElem_mem _)
   repeat' ((first | (refine GET.at gi ?_; conv => whnf) | (refine NEED.mk (by show _ + 1 ≤ _; omega) ?_; conv => whnf) | refine AU ?_ | (refine IW (fun h => ?_) (fun h => ?_) <;> try (exfalso; omega))) <;> conv => whnf)
   refine LOOP.gok Z5 [7, 13, 15, 52, 53, 54] [2, 5, 6] (X := Nat) (fun j => ∀ k, k < j → xsL (own[i] ++ [120]) k ∈ U) (fun j => [(16, .str (xsL (own[i] ++ [120]) j))]) (fun j => []) 7 (fun j => U.length - j) 0 (fun k hk => by omega) ?_
   conv => whnf
   refine ⟨by rw [Z51]; exact GOES.kA h0 [2, 3, 4, 5, 6], ?_⟩
   intro j hj
   have hjl := Z1l hj
   have hxl := Z5W (own[i] ++ [120]) j
   rw [List.length_append] at hxl
   simp only [List.length_cons, List.length_nil] at hxl
   conv => whnf
   repeat' ((first | (refine NEED.mk ⟨KT.ok _, Z33 KT _ _⟩ ?_; conv => whnf) | (refine NEED.mk (by show _ + 1 ≤ _; omega) ?_; conv => whnf) | (refine FIND.A KT intV (xsL (own[i] ++ [120]) j) _ (fun _ _ hf => ?_) (fun hf => ?_); conv => whnf) | (refine NEED.mk (ZM 32 rfl rfl (by simp) (by simp) (by omega)) ?_; conv => whnf) | refine AU ?_ | (refine IW (fun h => ?_) (fun h => ?_) <;> try (exfalso; omega))) <;> conv => whnf)
   · have hj2 : ∀ k, k < j + 1 → xsL (own[i] ++ [120]) k ∈ U := fun k hk => by
       rcases Nat.lt_or_eq_of_le (Nat.le_of_lt_succ hk) with h1 | rfl
       · exact hj k h1
       · exact (hU _).2 ⟨_, UR hf⟩
     have := Z1l hj2
     refine ⟨j + 1, hj2, by omega, ?_⟩
     rw [Z52]
     conv => whnf
     exact GOES.kA h0 [2, 3, 4, 5, 6]
   · have := hpos _ _ (UR hf); omega
   · have := hpos _ _ (UR hf); omega
   all_goals
     have hnU : xsL (own[i] ++ [120]) j ∉ U := fun hm => by
       obtain ⟨v, hv⟩ := (hU _).1 hm
       rw [Z5U hf] at hv; cases hv
     rw [Z82 hj hnU] at hst
   · rw [if_pos (by omega)] at hst
     refine FIN.aA h0 [] (.tup [.val (.slice none 0 0), .int .i64 2]) [] ?_
     exact .inr ⟨hv0, .inl ⟨by unfold Xh; rw [← hAd, ← hBd]; exact hst, rfl, rfl, rfl⟩⟩
   · rw [if_neg (by omega)] at hst
     rw [Z8E]
     refine ⟨(i + 1, (U ++ [xsL (own[i] ++ [120]) j], (ps ++ [(own[i], xsL (own[i] ++ [120]) j)], setA (xsL (own[i] ++ [120]) j) 1 m))), ⟨by dsimp only; omega, hst.symm, fun z => ?_, fun z v hz => ?_, by simp; omega, by simp; omega⟩, by dsimp only; omega, ?_⟩
     · dsimp only
       rw [List.mem_append, List.mem_singleton, hU, Va]
       by_cases e : z = xsL (own[i] ++ [120]) j
       · rw [if_pos e]; simp [e]
       · rw [if_neg e]; simp [e]
     · dsimp only at hz
       rw [Va] at hz
       split at hz
       · injection hz with hz; omega
       · exact hpos z v hz
     · dsimp only
       conv => whnf
       exact GOES.kA h0 [2, 3, 4, 5, 8]
 · have hie : i = own.length := by omega
   subst hie
   rw [Z83] at hp
   repeat' ((first | refine AU ?_ | (refine IW (fun h => ?_) (fun h => ?_) <;> try (exfalso; omega))) <;> conv => whnf)
   refine FIN.aA h0 [6] (.tup [.sl (.loc 2) 0 2 ps.length none, .int .i64 0]) [(2, .rows 2 (ps.map Vj))] ?_
   exact .inr ⟨hv0, .inr ⟨ps, by unfold Xh; rw [← hAd, ← hBd]; exact hp.symm, rfl, rfl, rfl⟩⟩
end Go.Proofs.YtbfbokdccdagkaaGreatDoor
namespace Go.Proofs.YtbfbokdccdagkaaGreatDoor
open Go.Sx Go.Our
theorem Z6b (l z : List LB) (s : LB) (lim : Option Nat) (hz : (l ++ z).length ≤ 1152921504606846976) : Does Tryz.prog tab 46 1 [.sl (.loc 0) 0 1 l.length lim, .str s] [] [(0, .rows 1 ((l ++ z).map Zh))] (ValK 1 (.bool (decide (s ∈ l)))) := by
 have hzl : (l ++ z).length = l.length + z.length := List.length_append
 refine Does.enter Z5 (g := 46) (fn := Tryz.f46) Tryz.call46 Tryz.func46 rfl 18 rfl rfl [.tmp 4] rfl ?_
 intro w0 F η0 h0
 conv => whnf
 repeat' ((first | refine AU ?_ | (refine IW (fun h => ?_) (fun h => ?_) <;> try (exfalso; omega))) <;> conv => whnf)
 refine LOOP.gok Z5 [0, 1] [] (X := Nat) (fun i => i ≤ l.length ∧ s ∉ l.take i) (fun i => [(5, .int .i64 (i : Int))]) (fun i => []) 1 (fun i => l.length - i) 0 ⟨by omega, by simp⟩ ?_
 conv => whnf
 refine ⟨by exact GOES.kA h0 [], ?_⟩
 rintro i ⟨hi, hn⟩
 conv => whnf
 by_cases hil : i < l.length
 · repeat' ((first | (refine GET.at (row := Zh l[i]) (Z9x hil (by omega)) ?_; conv => whnf) | refine AU ?_ | (refine IW (fun h => ?_) (fun h => ?_) <;> try (exfalso; omega))) <;> conv => whnf)
   · refine FIN.valueK h0 rfl (congrArg SV.bool (decide_eq_true ?_).symm)
     rw [← h]; exact List.getElem_mem _
   · refine ⟨i + 1, ⟨by omega, ?_⟩, by omega, ?_⟩
     · rw [List.take_succ_eq_append_getElem hil, List.mem_append, List.mem_singleton]
       exact fun hm => hm.elim hn fun e => h e.symm
     · conv => whnf
       exact GOES.kA h0 []
 · have hie : i = l.length := by omega
   subst hie
   rw [List.take_length] at hn
   repeat' ((first | refine AU ?_ | (refine IW (fun h => ?_) (fun h => ?_) <;> try (exfalso; omega))) <;> conv => whnf)
   exact FIN.valueK h0 rfl (congrArg SV.bool (decide_eq_false hn).symm)
theorem Z9z {A B : List LB} {i : Nat} (h : i < B.length) : ownB A (B.drop i) = if B[i] ∈ A then B[i] :: ownB A (B.drop (i + 1)) else ownB A (B.drop (i + 1)) := by
 unfold ownB
 rw [List.drop_eq_getElem_cons h, List.filter_cons]
 by_cases e : B[i] ∈ A <;> simp [e]
set_option maxHeartbeats 16000000 in
theorem Z5q (a za b zb : List Qd) (limA limB : Option Nat) (ha : Xg a) (hb : Xg b) (qa : Wn a) (qb : Wn b) (hza : (a ++ za).length ≤ 1152921504606846976) (hzb : (b ++ zb).length ≤ 1152921504606846976) : Does Tryz.prog tab 18 2 [.sl (.loc 0) 0 16 a.length limA, .sl (.loc 1) 0 16 b.length limB] [] [(0, .rows 16 ((a ++ za).map ZA)), (1, .rows 16 ((b ++ zb).map ZA))] (ApQ a b) := by
 have hv := Z20 a za b zb limA limB (by unfold Xg at ha; omega) (by unfold Xg at hb; omega) qa qb
 have hA := WQ a za limA ha hza
 have hB := WQ b zb limB hb hzb
 have hAl := Us (c := cmpL) (ZF a)
 have hBl := Us (c := cmpL) (ZF b)
 have hAl2 : (ZF a).length ≤ a.length * 4 := Jp _ YT _
 have hBl2 : (ZF b).length ≤ b.length * 4 := Jp _ YT _
 have hsm := Z8C qb
 unfold Xg at ha hb
 unfold Xh at hsm
 refine Does.enter Z5 (g := 18) (fn := Tryz.f18) Tryz.call18 Tryz.func18 rfl 68 rfl rfl [.tmp 4, .tmp 5] rfl ?_
 intro w0 F η0 h0
 conv => whnf
 repeat' ((first | refine AU ?_ | (refine IW (fun h => ?_) (fun h => ?_) <;> try (exfalso; omega))) <;> conv => whnf)
 refine CALL.aA [0, 1] (hv) ?_
 rintro r O nx ⟨rfl, rfl, rfl⟩
 conv => whnf
 repeat' ((first | refine AU ?_ | (refine IW (fun h => ?_) (fun h => ?_) <;> try (exfalso; omega))) <;> conv => whnf)
 · refine FIN.aA h0 [] (.tup [.val (.slice none 0 0), .int .i64 (JU a b)]) [] ?_
   exact .inl ⟨h, rfl, rfl, rfl⟩
 have hv0 := h
 refine CALL.aA [0] (hA) ?_
 rintro r O nx ⟨rfl, rfl, rfl⟩
 conv => whnf
 repeat' ((first | refine AU ?_ | (refine IW (fun h => ?_) (fun h => ?_) <;> try (exfalso; omega))) <;> conv => whnf)
 refine CALL.aA [1] (hB) ?_
 rintro r O nx ⟨rfl, rfl, rfl⟩
 conv => whnf
 obtain ⟨A, hAd⟩ : ∃ A, A = setL cmpL (ZF a) := ⟨_, rfl⟩
 obtain ⟨B, hBd⟩ : ∃ B, B = setL cmpL (ZF b) := ⟨_, rfl⟩
 rw [← hAd] at hAl
 rw [← hBd] at hBl hsm
 rw [← hAd, ← hBd]
 repeat' ((first | (rw [Z2 _ (Zj _)]; conv => whnf) | (refine NEED.mk (ZM 16 rfl rfl (by simp) (by simp) (by omega)) ?_; conv => whnf) | refine AU ?_ | (refine IW (fun h => ?_) (fun h => ?_) <;> try (exfalso; omega))) <;> conv => whnf)
 refine LOOP.nil 10 2 rfl ?_
 have hap : JR (ownB A B) (A ++ B) [] = Vx A B := rfl
 refine LOOP.gok Z5 [7, 8] [] (X := Nat × (List LB × List Pr)) (fun x => x.1 ≤ B.length ∧ JR (ownB A (B.drop x.1)) x.2.1 x.2.2 = Vx A B ∧ x.2.1.length ≤ A.length + B.length + x.1 ∧ x.2.2.length ≤ x.1) (fun x => [(11, .int .i64 (x.1 : Int)), (9, .sl (.loc 4) 0 1 x.2.1.length none), (10, .sl (.loc 5) 0 2 x.2.2.length none)]) (fun x => [(2, .rows 1 (A.map Zh)), (3, .rows 1 (B.map Zh)), (4, .rows 1 (x.2.1.map Zh)), (5, .rows 2 (x.2.2.map Vj))]) 6 (fun x => B.length - x.1) (0, (A ++ B, [])) ⟨by simp, hap, by simp, by simp⟩ ?_
 conv => whnf
 refine ⟨by exact GOES.kA h0 [2, 3, 6, 7], ?_⟩
 rintro ⟨i, U, ps⟩ ⟨hi, hp, hUl, hpl⟩
 dsimp only at hi hp hUl hpl ⊢
 by_cases hil : i < B.length
 · have gi := Z9x (z := []) hil (k := 0 + (i : Int).toNat) (by omega)
   rw [List.append_nil] at gi
   have hHA := Z6b A [] B[i] none (by simp; omega)
   rw [List.append_nil] at hHA
   have hsl := hsm B[i] (List.getElem_mem _)
   have hd := Z9z (A := A) hil
   conv => whnf
   repeat' ((first | (refine GET.at gi ?_; conv => whnf) | refine AU ?_ | (refine IW (fun h => ?_) (fun h => ?_) <;> try (exfalso; omega))) <;> conv => whnf)
   refine CALL.aA [2] (hHA) ?_
   rintro r O nx ⟨rfl, rfl, rfl⟩
   conv => whnf
   repeat' ((first | (refine GET.at gi ?_; conv => whnf) | (refine NEED.mk (by show _ + 1 ≤ _; omega) ?_; conv => whnf) | refine AU ?_ | (refine IW (fun h => ?_) (fun h => ?_) <;> try (exfalso; omega))) <;> conv => whnf)
   · rw [if_neg (by simpa using h)] at hd
     refine ⟨(i + 1, (U, ps)), ⟨by dsimp only; omega, by rw [← hd]; exact hp, by dsimp only; omega, by dsimp only; omega⟩, by dsimp only; omega, ?_⟩
     dsimp only
     conv => whnf
     exact GOES.kA h0 [2, 3, 4, 5]
   rw [if_pos (by simpa using h)] at hd
   rw [hd] at hp
   refine LOOP.gok Z5 [7, 8, 9, 10, 11] [2, 3, 4, 5] (X := Nat) (fun j => ∀ k, k < j → xsL (B[i] ++ [120]) k ∈ U) (fun j => [(12, .str (xsL (B[i] ++ [120]) j))]) (fun j => []) 6 (fun j => U.length - j) 0 (fun k hk => by omega) ?_
   conv => whnf
   refine ⟨by rw [Z51]; exact GOES.kA h0 [2, 3, 4, 5], ?_⟩
   intro j hj
   have hjl := Z1l hj
   have hxl := Z5W (B[i] ++ [120]) j
   rw [List.length_append] at hxl
   simp only [List.length_cons, List.length_nil] at hxl
   have hHU := Z6b U [] (xsL (B[i] ++ [120]) j) none (by simp; omega)
   rw [List.append_nil] at hHU
   conv => whnf
   refine CALL.aA [4] (hHU) ?_
   rintro r O nx ⟨rfl, rfl, rfl⟩
   conv => whnf
   repeat' ((first | (refine GET.at gi ?_; conv => whnf) | (refine NEED.mk (by show _ + 1 ≤ _; omega) ?_; conv => whnf) | (refine NEED.mk (ZM 16 rfl rfl (by simp) (by simp) (by omega)) ?_; conv => whnf) | (refine NEED.mk (ZM 32 rfl rfl (by simp) (by simp) (by omega)) ?_; conv => whnf) | refine AU ?_ | (refine IW (fun h => ?_) (fun h => ?_) <;> try (exfalso; omega))) <;> conv => whnf)
   · have hj2 : ∀ k, k < j + 1 → xsL (B[i] ++ [120]) k ∈ U := fun k hk => by
       rcases Nat.lt_or_eq_of_le (Nat.le_of_lt_succ hk) with h1 | rfl
       · exact hj k h1
       · exact h
     have := Z1l hj2
     refine ⟨j + 1, hj2, by omega, ?_⟩
     rw [Z52]
     conv => whnf
     exact GOES.kA h0 [2, 3, 4, 5]
   all_goals
     have hnU := ‹xsL (B[i] ++ [120]) j ∉ U›
     unfold JR at hp
     rw [Z82 hj hnU] at hp
   · rw [if_pos (by omega)] at hp
     refine FIN.aA h0 [] (.tup [.val (.slice none 0 0), .int .i64 2]) [] ?_
     exact .inr ⟨hv0, .inl ⟨by unfold Xh; rw [← hAd, ← hBd]; exact hp.symm, rfl, rfl, rfl⟩⟩
   · rw [if_neg (by omega)] at hp
     refine ⟨(i + 1, (U ++ [xsL (B[i] ++ [120]) j], ps ++ [(B[i], xsL (B[i] ++ [120]) j)])), ⟨by dsimp only; omega, hp, by simp; omega, by simp; omega⟩, by dsimp only; omega, ?_⟩
     dsimp only
     conv => whnf
     exact GOES.kA h0 [2, 3, 7, 9]
 · have hie : i = B.length := by omega
   subst hie
   conv => whnf
   repeat' ((first | refine AU ?_ | (refine IW (fun h => ?_) (fun h => ?_) <;> try (exfalso; omega))) <;> conv => whnf)
   rw [List.drop_length] at hp
   refine FIN.aA h0 [5] (.tup [.sl (.loc 2) 0 2 ps.length none, .int .i64 0]) [(2, .rows 2 (ps.map Vj))] ?_
   exact .inr ⟨hv0, .inr ⟨ps, by unfold Xh; rw [← hAd, ← hBd]; exact hp.symm, rfl, rfl, rfl⟩⟩
end Go.Proofs.YtbfbokdccdagkaaGreatDoor
