/- Part 15: Tag8. Conditions: as each part says. -/
import Derived.Test.YtbfbokdccdagkaaGreatDoorIAp14
set_option linter.unusedVariables false
set_option linter.unusedSimpArgs false
set_option maxRecDepth 20000
set_option maxHeartbeats 8000000
namespace Go.Proofs.YtbfbokdccdagkaaGreatDoor
open Go.Sx Go.Our
theorem Zbo (s : List UInt8) : (Za s != [120]) = !ZH s := by rw [Yr]; rfl
def rd6' (i m : Nat) : Hp := .box [.sl (.loc 2) i 1 m none]
def tz6 : Hp := .box [.str [], .str [], .str [], .str [], .val (.slice none 0 0), .val (.slice none 0 0), .str []]
def frT : Fr := [(2, .ptr (.loc 0) 0 0 0), (4, .ptr (.loc 1) 0 0 0), (5, .ptr (.loc 3) 0 0 0)]
def OT (ps : List (List UInt8)) (a : Nat) (L E S R : List UInt8) : Hps := [(0, tz6), (1, tg6 L E S R 4 0 5 0 []), (2, .rows 1 (ps.map Z8)), (3, rd6' a (ps.length - a)), (4, .rows 1 []), (5, .rows 1 [])]
def UZ (l : List (List UInt8)) : Bool := match Yf [] l with
 | none => false
 | some (l, seen) => match ZI seen l with
   | none => false
   | some l => JD l
theorem Zbp : Wh 4 4 false = fun s => Zv s 4 4 true := funext (Xd 4 4)
theorem Z1G {s : List UInt8} (h : Xx s = true) : 4 ≤ s.length := by
 unfold Xx at h
 simp only [Bool.or_eq_true, Bool.and_eq_true] at h
 rcases h with h | h
 · have := Xy h; omega
 · have := Xy h.1; omega
set_option maxHeartbeats 8000000 in
theorem Z8z (s : List UInt8) (hs : s.length ≤ 8589934592) : Does Tryz.prog tab 191 0 [.str s] [] [] (Val (.tup [.agg (anyN 7), .int .i64 (if tagP (Zl s) = true then 0 else 61)])) := by
 have hbulk := Wg s
 have hlen := UV s
 have hne := Z0i s
 generalize hps : Zl s = ps at *
 have hb : XH ps + ps.length ≤ 34359738368 := by unfold XH; omega
 have hsm := Uw (ps := ps) (by omega)
 obtain ⟨p0, hp0⟩ : ∃ p0, ps[0]? = some p0 := by
   cases ps with
   | nil => exact (hne rfl).elim
   | cons a t => exact ⟨a, rfl⟩
 have hp0l := hsm p0 (List.mem_of_getElem? hp0)
 have hhead : Z2w ZH ps = ZH p0 := by
   cases ps with
   | nil => cases hp0
   | cons a t => have : a = p0 := by simpa using hp0
                 subst this; rfl
 refine Does.enter Z5 (g := 191) (fn := Tryz.f191) Tryz.call191 Tryz.func191 rfl 152 rfl rfl [.cell 2 194, .tmp 3] rfl ?_
 intro w0 F η0 h0
 conv => whnf
 apply Z9d (X := Nat × List UInt8 × List UInt8 × List UInt8 × List UInt8) (n := 6) (fun x => tagP ps = UZ (ps.drop x.1) ∧ x.1 ≤ ps.length) (fun _ => frT) (fun x => OT ps x.1 x.2.1 x.2.2.1 x.2.2.2.1 x.2.2.2.2)
 intro K
 refine CALL.newS (Z4w s (by omega)) rfl (Z1 _) ?_
 rw [hps, List.length_map]
 have hpos : 0 < ps.length := (List.getElem?_eq_some_iff.1 hp0).1
 conv => whnf
 repeat' ((first | (refine GET.at (row := Z8 p0) (by rw [List.getElem?_map, show 0 + (0 : Int).toNat = 0 by simp, hp0]; rfl) ?_; conv => whnf) | refine AU ?_ | (refine IW (fun h => ?_) (fun h => ?_) <;> try (exfalso; omega))) <;> conv => whnf)
 refine CALL.nilCell 1 4 1 rfl rfl ?_
 refine CALL.nilCell 1 5 1 rfl rfl ?_
 refine CALL.value (Ya _ hp0l) rfl rfl ?_
 conv => whnf
 refine IF.mk (fun h => ?_) (fun h => ?_)
 · rw [Zbo] at h
   have hpr : Z2w ZH ps = false := by rw [hhead]; simpa using h
   have hcont : ∀ l, XM (ps.drop 0) = some l → tagP ps = UZ (Xi YD (Xi (fun s => Zv s 4 4 true) l)) := by
     intro l hl
     have hl : XM ps = some l := hl
     unfold tagP UZ
     rw [if_neg (by simp [hpr]), hl]
     simp only [YK]
     cases Yf [] (Xi YD (Xi (fun s => Zv s 4 4 true) l)) with
     | none => rfl
     | some x => obtain ⟨l', seen⟩ := x; rfl
   conv => whnf
   refine CALL.aA [3, 2, 1, 4, 5] (Z1Y ps (by omega) 0 ps.length (by omega)) ?_
   rintro r O' nx' ⟨i1, m1, L, E, him1, rfl, hL, rfl, rfl⟩
   cases h2 : XM (ps.drop 0) with
   | none =>
     have htag : tagP ps = false := by
       have h2 : XM ps = none := h2
       unfold tagP; rw [if_neg (by simp [hpr]), h2]
     rw [Option.isSome_none]
     conv => whnf
     repeat' ((first | refine AU ?_ | (refine IW (fun h => ?_) (fun h => ?_) <;> try (exfalso; omega))) <;> conv => whnf)
     refine FIN.anyA 7 h0 rfl rfl rfl ⟨?_, rfl, rfl⟩
     rw [htag]; rfl
   | some l1 =>
     obtain ⟨hl1, hLne⟩ := hL l1 h2
     subst hl1
     have hc1 := hcont _ h2
     rw [Option.isSome_some]
     conv => whnf
     repeat' ((first | (refine IF.yes (b := L != []) (by simpa using hLne) ?_; conv => whnf) | refine AU ?_ | (refine IW (fun h => ?_) (fun h => ?_) <;> try (exfalso; omega))) <;> conv => whnf)
     refine CALL.aA [3, 2] (XI 4 4 false ps hsm i1 m1 him1) ?_
     rintro r O' nx' ⟨rfl, rfl, rfl⟩
     rw [Zbp]
     conv => whnf
     (repeat (first | ((with_reducible refine IF.tt ?_); conv => whnf) | ((with_reducible refine IF.ff ?_); conv => whnf)))
     refine IF.mk (fun h4 => ?_) (fun h4 => ?_)
     · obtain ⟨w1, hw1, hwm1⟩ := Zz h4
       have hlt1 := (List.getElem?_eq_some_iff.1 hw1).1
       obtain ⟨k1, rfl⟩ : ∃ k1, m1 = k1 + 1 := ⟨m1 - 1, by omega⟩
       rw [Ju hw1 hwm1] at hc1
       conv => whnf
       refine CALL.aA [3, 2] (Yh ps i1 k1 him1 w1 hw1) ?_
       rintro r O' nx' ⟨rfl, rfl, rfl⟩
       conv => whnf
       repeat' ((first | (refine IF.yes (b := L != []) (by simpa using hLne) ?_; conv => whnf) | refine AU ?_ | (refine IW (fun h => ?_) (fun h => ?_) <;> try (exfalso; omega))) <;> conv => whnf)
       refine CALL.aA [3, 2] (XI 2 2 false ps hsm (i1 + 1) (k1) (by omega)) ?_
       rintro r O' nx' ⟨rfl, rfl, rfl⟩
       conv => whnf
       (repeat (first | ((with_reducible refine IF.tt ?_); conv => whnf) | ((with_reducible refine IF.ff ?_); conv => whnf)))
       refine IF.mk (fun h5 => ?_) (fun h5 => ?_)
       · have hsee : ∃ q, ps[i1 + 1]? = some q ∧ YD q = true := by
           obtain ⟨q, hq, hqm⟩ := Zz h5
           exact ⟨q, hq, by rw [Xv, hqm]; rfl⟩
         conv => whnf
         repeat' ((first | refine AU ?_ | (refine IW (fun h => ?_) (fun h => ?_) <;> try (exfalso; omega))) <;> conv => whnf)
         obtain ⟨q, hq, hqm⟩ := hsee
         have hlt2 := (List.getElem?_eq_some_iff.1 hq).1
         obtain ⟨k2, hk2⟩ : ∃ k2, k1 = k2 + 1 := ⟨k1 - 1, by omega⟩
         have htag : tagP ps = UZ (ps.drop (i1 + 1 + 1)) := by rw [hc1, Ju hq hqm]
         rw [hk2]
         conv => whnf
         refine CALL.aA [3, 2] (Yh ps (i1 + 1) k2 (by omega) q hq) ?_
         rintro r O' nx' ⟨rfl, rfl, rfl⟩
         conv => whnf
         refine LOOP.goes (fr' := frT) (O' := OT ps (i1 + 1 + 1) L E w1 q) (n1 := 6) ?_ (K (i1 + 1 + 1, L, E, w1, q) ⟨htag, by simp only; omega⟩)
         unfold frT OT
         rw [show ps.length - (i1 + 1 + 1) = k2 by omega]
         (refine GOES.keeping h0 [0, 1, 2, 3, 4, 5] rfl rfl rfl (by first | rfl | (simp only [Z4, Z3, Z0 _ (Z1 _), Bool.and_self, Bool.and_true] <;> rfl)) ?_ ?_ <;> (repeat' (first | (with_reducible rfl) | (exact Z6 (Z1 _) (Z2 _ (Z1 _))) | (exact Z6 (Z1 _) (by simp [Z8, Zp, List.take_of_length_le])) | (exact Zm rfl (by first | (simp; done) | omega | (simp; omega))) | (exact congrArg (SV.int _) (by first | omega | (simp (disch := omega) only [lnB, Z9, Zd] <;> omega) | (simp; done) | (simp <;> omega))) | ((conv => whnf); refine ⟨?_, ?_⟩) | exact trivial | (simp only [ren, renB]; done) | rfl)))
       · conv => whnf
         repeat' ((first | refine AU ?_ | (refine IW (fun h => ?_) (fun h => ?_) <;> try (exfalso; omega))) <;> conv => whnf)
         refine CALL.aA [3, 2] (XI 3 3 true ps hsm (i1 + 1) (k1) (by omega)) ?_
         rintro r O' nx' ⟨rfl, rfl, rfl⟩
         conv => whnf
         (repeat (first | ((with_reducible refine IF.tt ?_); conv => whnf) | ((with_reducible refine IF.ff ?_); conv => whnf)))
         refine IF.mk (fun h6 => ?_) (fun h6 => ?_)
         · have hsee : ∃ q, ps[i1 + 1]? = some q ∧ YD q = true := by
             obtain ⟨q, hq, hqm⟩ := Zz h6
             exact ⟨q, hq, by rw [Xv, hqm, Bool.or_true]⟩
           conv => whnf
           repeat' ((first | refine AU ?_ | (refine IW (fun h => ?_) (fun h => ?_) <;> try (exfalso; omega))) <;> conv => whnf)
           obtain ⟨q, hq, hqm⟩ := hsee
           have hlt2 := (List.getElem?_eq_some_iff.1 hq).1
           obtain ⟨k2, hk2⟩ : ∃ k2, k1 = k2 + 1 := ⟨k1 - 1, by omega⟩
           have htag : tagP ps = UZ (ps.drop (i1 + 1 + 1)) := by rw [hc1, Ju hq hqm]
           rw [hk2]
           conv => whnf
           refine CALL.aA [3, 2] (Yh ps (i1 + 1) k2 (by omega) q hq) ?_
           rintro r O' nx' ⟨rfl, rfl, rfl⟩
           conv => whnf
           refine LOOP.goes (fr' := frT) (O' := OT ps (i1 + 1 + 1) L E w1 q) (n1 := 6) ?_ (K (i1 + 1 + 1, L, E, w1, q) ⟨htag, by simp only; omega⟩)
           unfold frT OT
           rw [show ps.length - (i1 + 1 + 1) = k2 by omega]
           (refine GOES.keeping h0 [0, 1, 2, 3, 4, 5] rfl rfl rfl (by first | rfl | (simp only [Z4, Z3, Z0 _ (Z1 _), Bool.and_self, Bool.and_true] <;> rfl)) ?_ ?_ <;> (repeat' (first | (with_reducible rfl) | (exact Z6 (Z1 _) (Z2 _ (Z1 _))) | (exact Z6 (Z1 _) (by simp [Z8, Zp, List.take_of_length_le])) | (exact Zm rfl (by first | (simp; done) | omega | (simp; omega))) | (exact congrArg (SV.int _) (by first | omega | (simp (disch := omega) only [lnB, Z9, Zd] <;> omega) | (simp; done) | (simp <;> omega))) | ((conv => whnf); refine ⟨?_, ?_⟩) | exact trivial | (simp only [ren, renB]; done) | rfl)))
         · have hsee : Y7 YD ps (i1 + 1) = false := by
             unfold Y7 at *
             cases hq : ps[i1 + 1]? with
             | none => rfl
             | some q => rw [hq] at h5 h6; simp only at h5 h6 ⊢; rw [Xv, h5]; exact h6
           have htag : tagP ps = UZ (ps.drop (i1 + 1)) := by rw [hc1, Wk hsee]
           conv => whnf
           repeat' ((first | refine AU ?_ | (refine IW (fun h => ?_) (fun h => ?_) <;> try (exfalso; omega))) <;> conv => whnf)
           refine LOOP.goes (fr' := frT) (O' := OT ps (i1 + 1) L E w1 []) (n1 := 6) ?_ (K (i1 + 1, L, E, w1, []) ⟨htag, by simp only; omega⟩)
           unfold frT OT
           rw [show ps.length - (i1 + 1) = k1 by omega]
           (refine GOES.keeping h0 [0, 1, 2, 3, 4, 5] rfl rfl rfl (by first | rfl | (simp only [Z4, Z3, Z0 _ (Z1 _), Bool.and_self, Bool.and_true] <;> rfl)) ?_ ?_ <;> (repeat' (first | (with_reducible rfl) | (exact Z6 (Z1 _) (Z2 _ (Z1 _))) | (exact Z6 (Z1 _) (by simp [Z8, Zp, List.take_of_length_le])) | (exact Zm rfl (by first | (simp; done) | omega | (simp; omega))) | (exact congrArg (SV.int _) (by first | omega | (simp (disch := omega) only [lnB, Z9, Zd] <;> omega) | (simp; done) | (simp <;> omega))) | ((conv => whnf); refine ⟨?_, ?_⟩) | exact trivial | (simp only [ren, renB]; done) | rfl)))
     · rw [Wk h4] at hc1
       conv => whnf
       repeat' ((first | (refine IF.yes (b := L != []) (by simpa using hLne) ?_; conv => whnf) | refine AU ?_ | (refine IW (fun h => ?_) (fun h => ?_) <;> try (exfalso; omega))) <;> conv => whnf)
       refine CALL.aA [3, 2] (XI 2 2 false ps hsm (i1) (m1) (by omega)) ?_
       rintro r O' nx' ⟨rfl, rfl, rfl⟩
       conv => whnf
       (repeat (first | ((with_reducible refine IF.tt ?_); conv => whnf) | ((with_reducible refine IF.ff ?_); conv => whnf)))
       refine IF.mk (fun h5 => ?_) (fun h5 => ?_)
       · have hsee : ∃ q, ps[i1]? = some q ∧ YD q = true := by
           obtain ⟨q, hq, hqm⟩ := Zz h5
           exact ⟨q, hq, by rw [Xv, hqm]; rfl⟩
         conv => whnf
         repeat' ((first | refine AU ?_ | (refine IW (fun h => ?_) (fun h => ?_) <;> try (exfalso; omega))) <;> conv => whnf)
         obtain ⟨q, hq, hqm⟩ := hsee
         have hlt2 := (List.getElem?_eq_some_iff.1 hq).1
         obtain ⟨k2, hk2⟩ : ∃ k2, m1 = k2 + 1 := ⟨m1 - 1, by omega⟩
         have htag : tagP ps = UZ (ps.drop (i1 + 1)) := by rw [hc1, Ju hq hqm]
         rw [hk2]
         conv => whnf
         refine CALL.aA [3, 2] (Yh ps (i1) k2 (by omega) q hq) ?_
         rintro r O' nx' ⟨rfl, rfl, rfl⟩
         conv => whnf
         refine LOOP.goes (fr' := frT) (O' := OT ps (i1 + 1) L E [] q) (n1 := 6) ?_ (K (i1 + 1, L, E, [], q) ⟨htag, by simp only; omega⟩)
         unfold frT OT
         rw [show ps.length - (i1 + 1) = k2 by omega]
         (refine GOES.keeping h0 [0, 1, 2, 3, 4, 5] rfl rfl rfl (by first | rfl | (simp only [Z4, Z3, Z0 _ (Z1 _), Bool.and_self, Bool.and_true] <;> rfl)) ?_ ?_ <;> (repeat' (first | (with_reducible rfl) | (exact Z6 (Z1 _) (Z2 _ (Z1 _))) | (exact Z6 (Z1 _) (by simp [Z8, Zp, List.take_of_length_le])) | (exact Zm rfl (by first | (simp; done) | omega | (simp; omega))) | (exact congrArg (SV.int _) (by first | omega | (simp (disch := omega) only [lnB, Z9, Zd] <;> omega) | (simp; done) | (simp <;> omega))) | ((conv => whnf); refine ⟨?_, ?_⟩) | exact trivial | (simp only [ren, renB]; done) | rfl)))
       · conv => whnf
         repeat' ((first | refine AU ?_ | (refine IW (fun h => ?_) (fun h => ?_) <;> try (exfalso; omega))) <;> conv => whnf)
         refine CALL.aA [3, 2] (XI 3 3 true ps hsm (i1) (m1) (by omega)) ?_
         rintro r O' nx' ⟨rfl, rfl, rfl⟩
         conv => whnf
         (repeat (first | ((with_reducible refine IF.tt ?_); conv => whnf) | ((with_reducible refine IF.ff ?_); conv => whnf)))
         refine IF.mk (fun h6 => ?_) (fun h6 => ?_)
         · have hsee : ∃ q, ps[i1]? = some q ∧ YD q = true := by
             obtain ⟨q, hq, hqm⟩ := Zz h6
             exact ⟨q, hq, by rw [Xv, hqm, Bool.or_true]⟩
           conv => whnf
           repeat' ((first | refine AU ?_ | (refine IW (fun h => ?_) (fun h => ?_) <;> try (exfalso; omega))) <;> conv => whnf)
           obtain ⟨q, hq, hqm⟩ := hsee
           have hlt2 := (List.getElem?_eq_some_iff.1 hq).1
           obtain ⟨k2, hk2⟩ : ∃ k2, m1 = k2 + 1 := ⟨m1 - 1, by omega⟩
           have htag : tagP ps = UZ (ps.drop (i1 + 1)) := by rw [hc1, Ju hq hqm]
           rw [hk2]
           conv => whnf
           refine CALL.aA [3, 2] (Yh ps (i1) k2 (by omega) q hq) ?_
           rintro r O' nx' ⟨rfl, rfl, rfl⟩
           conv => whnf
           refine LOOP.goes (fr' := frT) (O' := OT ps (i1 + 1) L E [] q) (n1 := 6) ?_ (K (i1 + 1, L, E, [], q) ⟨htag, by simp only; omega⟩)
           unfold frT OT
           rw [show ps.length - (i1 + 1) = k2 by omega]
           (refine GOES.keeping h0 [0, 1, 2, 3, 4, 5] rfl rfl rfl (by first | rfl | (simp only [Z4, Z3, Z0 _ (Z1 _), Bool.and_self, Bool.and_true] <;> rfl)) ?_ ?_ <;> (repeat' (first | (with_reducible rfl) | (exact Z6 (Z1 _) (Z2 _ (Z1 _))) | (exact Z6 (Z1 _) (by simp [Z8, Zp, List.take_of_length_le])) | (exact Zm rfl (by first | (simp; done) | omega | (simp; omega))) | (exact congrArg (SV.int _) (by first | omega | (simp (disch := omega) only [lnB, Z9, Zd] <;> omega) | (simp; done) | (simp <;> omega))) | ((conv => whnf); refine ⟨?_, ?_⟩) | exact trivial | (simp only [ren, renB]; done) | rfl)))
         · have hsee : Y7 YD ps (i1) = false := by
             unfold Y7 at *
             cases hq : ps[i1]? with
             | none => rfl
             | some q => rw [hq] at h5 h6; simp only at h5 h6 ⊢; rw [Xv, h5]; exact h6
           have htag : tagP ps = UZ (ps.drop (i1)) := by rw [hc1, Wk hsee]
           conv => whnf
           repeat' ((first | refine AU ?_ | (refine IW (fun h => ?_) (fun h => ?_) <;> try (exfalso; omega))) <;> conv => whnf)
           refine LOOP.goes (fr' := frT) (O' := OT ps (i1) L E [] []) (n1 := 6) ?_ (K (i1, L, E, [], []) ⟨htag, by simp only; omega⟩)
           unfold frT OT
           rw [show ps.length - (i1) = m1 by omega]
           (refine GOES.keeping h0 [0, 1, 2, 3, 4, 5] rfl rfl rfl (by first | rfl | (simp only [Z4, Z3, Z0 _ (Z1 _), Bool.and_self, Bool.and_true] <;> rfl)) ?_ ?_ <;> (repeat' (first | (with_reducible rfl) | (exact Z6 (Z1 _) (Z2 _ (Z1 _))) | (exact Z6 (Z1 _) (by simp [Z8, Zp, List.take_of_length_le])) | (exact Zm rfl (by first | (simp; done) | omega | (simp; omega))) | (exact congrArg (SV.int _) (by first | omega | (simp (disch := omega) only [lnB, Z9, Zd] <;> omega) | (simp; done) | (simp <;> omega))) | ((conv => whnf); refine ⟨?_, ?_⟩) | exact trivial | (simp only [ren, renB]; done) | rfl)))
 · rw [Zbo] at h
   have hpr : ZH p0 = true := by simpa using h
   have htag : tagP ps = UZ (ps.drop 0) := by
     unfold tagP UZ
     rw [if_pos (by rw [hhead, hpr]), ZD hp0]
     have h4 : ¬ 4 ≤ p0.length := by
       have := hpr; unfold ZH at this; simp at this
       rcases this with rfl | rfl <;> simp
     have hv : Xx p0 ≠ true := fun h => h4 (Z1G h)
     simp only [Yf]
     rw [if_neg hv]
     simp only
     rw [ZI, if_neg (by unfold YJ; simp [hpr])]
     simp only
     rw [← ZD hp0]; rfl
   conv => whnf
   repeat' ((first | refine AU ?_ | (refine IW (fun h => ?_) (fun h => ?_) <;> try (exfalso; omega))) <;> conv => whnf)
   refine LOOP.goes (fr' := frT) (O' := OT ps (0) [] [] [] []) (n1 := 6) ?_ (K (0, [], [], [], []) ⟨htag, by simp only; omega⟩)
   unfold frT OT
   rw [show ps.length - (0) = ps.length by omega]
   (refine GOES.keeping h0 [0, 1, 2, 3, 4, 5] rfl rfl rfl (by first | rfl | (simp only [Z4, Z3, Z0 _ (Z1 _), Bool.and_self, Bool.and_true] <;> rfl)) ?_ ?_ <;> (repeat' (first | (with_reducible rfl) | (exact Z6 (Z1 _) (Z2 _ (Z1 _))) | (exact Z6 (Z1 _) (by simp [Z8, Zp, List.take_of_length_le])) | (exact Zm rfl (by first | (simp; done) | omega | (simp; omega))) | (exact congrArg (SV.int _) (by first | omega | (simp (disch := omega) only [lnB, Z9, Zd] <;> omega) | (simp; done) | (simp <;> omega))) | ((conv => whnf); refine ⟨?_, ?_⟩) | exact trivial | (simp only [ren, renB]; done) | rfl)))
 rintro ⟨a0, L, E, S, R⟩ ⟨htag, ha0⟩
 dsimp only at htag ha0 ⊢
 unfold frT OT
 refine LOOP.go Z5 [2, 4, 5] (X := Nat × List (List UInt8)) (fun y => y.1 ≤ ps.length ∧ y.2.length ≤ y.1 ∧ (∀ s ∈ y.2, 4 ≤ s.length ∧ Sm s) ∧ Yf [] (ps.drop a0) = Yf (y.2.map Za) (ps.drop y.1)) (fun y => []) (fun y => [(0, tz6), (1, tg6 L E S R 4 y.2.length 5 0 []), (2, .rows 1 (ps.map Z8)), (3, rd6' y.1 (ps.length - y.1)), (4, .rows 1 (y.2.map Z8)), (5, .rows 1 [])]) 6 (fun y => ps.length - y.1) (a0, []) ⟨by simp only; omega, by simp, by simp, rfl⟩ ?_
 conv => whnf
 refine ⟨by (refine GOES.keeping h0 [0, 1, 2, 3, 4, 5] rfl rfl rfl (by first | rfl | (simp only [Z4, Z3, Z0 _ (Z1 _), Bool.and_self, Bool.and_true] <;> rfl)) ?_ ?_ <;> (repeat' (first | (with_reducible rfl) | (exact Z6 (Z1 _) (Z2 _ (Z1 _))) | (exact Z6 (Z1 _) (by simp [Z8, Zp, List.take_of_length_le])) | (exact Zm rfl (by first | (simp; done) | omega | (simp; omega))) | (exact congrArg (SV.int _) (by first | omega | (simp (disch := omega) only [lnB, Z9, Zd] <;> omega) | (simp; done) | (simp <;> omega))) | ((conv => whnf); refine ⟨?_, ?_⟩) | exact trivial | (simp only [ren, renB]; done) | rfl))), ?_⟩
 rintro ⟨a, vs⟩ ⟨ha, hvl, hvs, hx⟩
 dsimp only at ha hvl hvs hx ⊢
 conv => whnf
 rcases Nat.lt_or_ge a ps.length with hap | hap
 · obtain ⟨w, hw⟩ : ∃ w, ps[a]? = some w := ⟨_, List.getElem?_eq_getElem hap⟩
   have hwl := hsm w (List.mem_of_getElem? hw)
   obtain ⟨k', hk'⟩ : ∃ k', ps.length - a = k' + 1 := ⟨ps.length - a - 1, by omega⟩
   repeat' ((first | (refine GET.at (row := Z8 w) (by rw [List.getElem?_map, show a + (0 : Int).toNat = a by simp, hw]; rfl) ?_; conv => whnf) | refine CALL.value (Z1X _ hwl) rfl rfl ?_ | refine AU ?_ | (refine IW (fun h => ?_) (fun h => ?_) <;> try (exfalso; omega))) <;> conv => whnf)
   · have hvm : Xx w = true := by assumption
     have hv4 := Z1G hvm
     rw [hk']
     refine CALL.aA [3, 2] (Yh ps a k' (by omega) w hw) ?_
     rintro r O' nx' ⟨rfl, rfl, rfl⟩
     have hxa : Yf (vs.map Za) (ps.drop a) = if Za w ∈ vs.map Za then none else Yf (vs.map Za ++ [Za w]) (ps.drop (a + 1)) := by
       rw [ZD hw]; simp only [Yf]; rw [if_pos hvm]
     conv => whnf
     refine LOOP.go Z5 [2, 4, 5, 7] (X := Nat) (fun i => i ≤ vs.length ∧ Za w ∉ (vs.take i).map Za) (fun i => [(8, .int .i64 (i : Int))]) (fun i => [(0, tz6), (1, tg6 L E S R 4 vs.length 5 0 []), (2, .rows 1 (ps.map Z8)), (3, rd6' (a + 1) k'), (4, .rows 1 (vs.map Z8)), (5, .rows 1 [])]) 6 (fun i => vs.length - i) 0 ⟨by omega, by simp⟩ ?_
     conv => whnf
     refine ⟨by (refine GOES.keeping h0 [0, 1, 2, 3, 4, 5] rfl rfl rfl (by first | rfl | (simp only [Z4, Z3, Z0 _ (Z1 _), Bool.and_self, Bool.and_true] <;> rfl)) ?_ ?_ <;> (repeat' (first | (with_reducible rfl) | (exact Z6 (Z1 _) (Z2 _ (Z1 _))) | (exact Z6 (Z1 _) (by simp [Z8, Zp, List.take_of_length_le])) | (exact Zm rfl (by first | (simp; done) | omega | (simp; omega))) | (exact congrArg (SV.int _) (by first | omega | (simp (disch := omega) only [lnB, Z9, Zd] <;> omega) | (simp; done) | (simp <;> omega))) | ((conv => whnf); refine ⟨?_, ?_⟩) | exact trivial | (simp only [ren, renB]; done) | rfl))), ?_⟩
     rintro i ⟨hi, hn⟩
     dsimp only at hi hn ⊢
     conv => whnf
     rcases Nat.lt_or_ge i vs.length with hiv | hiv
     · have hvi := (hvs _ (List.getElem_mem hiv)).2
       repeat' ((first | (refine GET.at (row := Z8 (vs[i]'(by omega))) (by rw [List.getElem?_map, show 0 + (i : Int).toNat = i by simp, List.getElem?_eq_getElem (by omega)]; rfl) ?_; conv => whnf) | refine CALL.value (Ya _ hvi) rfl rfl ?_ | refine CALL.value (Ya _ hwl) rfl rfl ?_ | refine AU ?_ | (refine IW (fun h => ?_) (fun h => ?_) <;> try (exfalso; omega))) <;> conv => whnf)
       · have hin : Za w ∈ vs.map Za := by rw [← (by assumption : Za vs[i] = Za w)]; exact List.mem_map_of_mem (List.getElem_mem hiv)
         refine FIN.anyA 7 h0 rfl rfl rfl ⟨?_, rfl, rfl⟩
         rw [htag]; unfold UZ; rw [hx, hxa, if_pos hin]; rfl
       · refine ⟨i + 1, ⟨by omega, ?_⟩, by omega, ?_⟩
         · rw [List.take_succ_eq_append_getElem hiv, List.map_append, List.mem_append]
           rintro (h1 | h1)
           · exact hn h1
           · have : Za w = Za vs[i] := by simpa using h1
             exact (by assumption : ¬ Za vs[i] = Za w) this.symm
         · conv => whnf
           (refine GOES.keeping h0 [0, 1, 2, 3, 4, 5] rfl rfl rfl (by first | rfl | (simp only [Z4, Z3, Z0 _ (Z1 _), Bool.and_self, Bool.and_true] <;> rfl)) ?_ ?_ <;> (repeat' (first | (with_reducible rfl) | (exact Z6 (Z1 _) (Z2 _ (Z1 _))) | (exact Z6 (Z1 _) (by simp [Z8, Zp, List.take_of_length_le])) | (exact Zm rfl (by first | (simp; done) | omega | (simp; omega))) | (exact congrArg (SV.int _) (by first | omega | (simp (disch := omega) only [lnB, Z9, Zd] <;> omega) | (simp; done) | (simp <;> omega))) | ((conv => whnf); refine ⟨?_, ?_⟩) | exact trivial | (simp only [ren, renB]; done) | rfl)))
     · rw [List.take_of_length_le (by omega)] at hn
       repeat' ((first | refine AU ?_ | (refine IW (fun h => ?_) (fun h => ?_) <;> try (exfalso; omega))) <;> conv => whnf)
       have e : (vs ++ [w]).length = vs.length + 1 := by simp
       refine ⟨(a + 1, vs ++ [w]), ⟨by simp only; omega, by simp; omega, ?_, by simp only; rw [hx, hxa, if_neg hn]; simp⟩, by simp only; omega, ?_⟩
       · intro x hx'
         rcases List.mem_append.1 hx' with h1 | h1
         · exact hvs x h1
         · rw [List.mem_singleton.1 h1]; exact ⟨hv4, hwl⟩
       · dsimp only
         rw [e, show ps.length - (a + 1) = k' by omega]
         conv => whnf
         (refine GOES.keeping h0 [0, 1, 2, 3, 7, 5] rfl rfl rfl (by first | rfl | (simp only [Z4, Z3, Z0 _ (Z1 _), Bool.and_self, Bool.and_true] <;> rfl)) ?_ ?_ <;> (repeat' (first | (with_reducible rfl) | (exact Z6 (Z1 _) (Z2 _ (Z1 _))) | (exact Z6 (Z1 _) (by simp [Z8, Zp, List.take_of_length_le])) | (exact Zm rfl (by first | (simp; done) | omega | (simp; omega))) | (exact congrArg (SV.int _) (by first | omega | (simp (disch := omega) only [lnB, Z9, Zd] <;> omega) | (simp; done) | (simp <;> omega))) | ((conv => whnf); refine ⟨?_, ?_⟩) | exact trivial | (simp only [ren, renB]; done) | rfl)))
   · have hvm : Xx w = false := by assumption
     have hv0 : Yf (vs.map Za) (ps.drop a) = some (ps.drop a, vs.map Za) := by
       rw [ZD hw]; simp only [Yf]; rw [if_neg (by simp [hvm])]
     have hc0 : tagP ps = match ZI (vs.map Za) (ps.drop a) with | none => false | some l => JD l := by rw [htag]; unfold UZ; rw [hx, hv0]
     refine LOOP.go Z5 [2, 4, 5] (X := Nat × List (List UInt8)) (fun y => y.1 ≤ ps.length ∧ y.2.length ≤ y.1 ∧ (∀ x ∈ y.2, 1 ≤ x.length ∧ Sm x) ∧ ZI (vs.map Za) (ps.drop a) = ZI (vs.map Za ++ y.2.map fun x => Za (x.take 1)) (ps.drop y.1)) (fun y => []) (fun y => [(0, tz6), (1, tg6 L E S R 4 vs.length 5 y.2.length []), (2, .rows 1 (ps.map Z8)), (3, rd6' y.1 (ps.length - y.1)), (4, .rows 1 (vs.map Z8)), (5, .rows 1 (y.2.map Z8))]) 6 (fun y => ps.length - y.1) (a, []) ⟨by simp only; omega, by simp, by simp, by simp⟩ ?_
     conv => whnf
     refine ⟨by (refine GOES.keeping h0 [0, 1, 2, 3, 4, 5] rfl rfl rfl (by first | rfl | (simp only [Z4, Z3, Z0 _ (Z1 _), Bool.and_self, Bool.and_true] <;> rfl)) ?_ ?_ <;> (repeat' (first | (with_reducible rfl) | (exact Z6 (Z1 _) (Z2 _ (Z1 _))) | (exact Z6 (Z1 _) (by simp [Z8, Zp, List.take_of_length_le])) | (exact Zm rfl (by first | (simp; done) | omega | (simp; omega))) | (exact congrArg (SV.int _) (by first | omega | (simp (disch := omega) only [lnB, Z9, Zd] <;> omega) | (simp; done) | (simp <;> omega))) | ((conv => whnf); refine ⟨?_, ?_⟩) | exact trivial | (simp only [ren, renB]; done) | rfl))), ?_⟩
     rintro ⟨b, xs⟩ ⟨hb1, hxl, hxs, hy⟩
     dsimp only at hb1 hxl hxs hy ⊢
     conv => whnf
     rcases Nat.lt_or_ge b ps.length with hbp | hbp
     · obtain ⟨u, hu⟩ : ∃ u, ps[b]? = some u := ⟨_, List.getElem?_eq_getElem hbp⟩
       have hul := hsm u (List.mem_of_getElem? hu)
       obtain ⟨k', hk'⟩ : ∃ k', ps.length - b = k' + 1 := ⟨ps.length - b - 1, by omega⟩
       clear hx hv0 hvl
       repeat' ((first | (refine GET.at (row := Z8 u) (by rw [List.getElem?_map, show b + (0 : Int).toNat = b by simp, hu]; rfl) ?_; conv => whnf) | refine CALL.value (Ya _ hul) rfl rfl ?_ | refine CALL.value (Jf _ _ _ hul) rfl rfl ?_ | refine AU ?_ | (refine IW (fun h => ?_) (fun h => ?_) <;> try (exfalso; omega))) <;> conv => whnf)
       all_goals try (exact absurd (by assumption : Za u = [120]) (by assumption))
       · have hnp : ZH u = false := by rw [Yr]; simpa using (by assumption : ¬ Za u = [120])
         have hmm : Zv u 1 1 false = true := by assumption
         have hsg : YJ u = true := by unfold YJ; rw [hmm, hnp]; rfl
         have hu1 : u.length = 1 := by have := Xy hmm; omega
         rw [hk']
         refine CALL.aA [3, 2, 1, 4, 5] (VE ps hb b k' (by omega) u hu hu1 L E S R vs.length [] xs hxs (by omega)) ?_
         rintro r O' nx' ⟨n, xs', hn, rfl, hz, rfl, rfl⟩
         have hnle : n ≤ (ps.drop (b + 1)).length := by rw [hn]; exact JC _ _
         rw [List.length_drop] at hnle
         have hmem : Za u ∈ vs.map Za ++ (xs.map fun x => Za (x.take 1)) ↔ dupM xs u = true := by
           unfold dupM
           rw [List.mem_append, List.any_eq_true]
           constructor
           · rintro (h | h)
             · obtain ⟨v, hv, he⟩ := List.mem_map.1 h
               have h1 := (hvs v hv).1
               have h2 := congrArg List.length he
               unfold Za at h2; simp only [List.length_map] at h2; omega
             · obtain ⟨x, hx, he⟩ := List.mem_map.1 h
               exact ⟨x, hx, by simp [he]⟩
           · rintro ⟨x, hx, he⟩
             exact .inr (List.mem_map.2 ⟨x, hx, by simpa using he⟩)
         have hya : ZI (vs.map Za ++ xs.map fun x => Za (x.take 1)) (ps.drop b) = if n = 0 ∨ dupM xs u = true then none else ZI ((vs.map Za ++ xs.map fun x => Za (x.take 1)) ++ [Za u]) (ps.drop (b + 1 + n)) := by
           rw [ZD hu, ZI, if_pos hsg, ← hn, List.drop_drop]
           simp only [hmem]
         by_cases hgood : dupM xs u = false ∧ n ≠ 0
         · obtain ⟨z, rfl, hz1, hz2⟩ := hz hgood.1
           rw [show (!dupM xs u && decide (n ≠ 0)) = true by simp [hgood]]
           conv => whnf
           repeat' ((first | refine AU ?_ | (refine IW (fun h => ?_) (fun h => ?_) <;> try (exfalso; omega))) <;> conv => whnf)
           have e : (xs ++ [z]).length = xs.length + 1 := by simp
           refine ⟨(b + 1 + n, xs ++ [z]), ⟨by simp only; omega, by simp; omega, ?_, ?_⟩, by simp only; omega, ?_⟩
           · intro x hx'
             rcases List.mem_append.1 hx' with h1 | h1
             · exact hxs x h1
             · rw [List.mem_singleton.1 h1]
               refine ⟨?_, hz2⟩
               rcases z with _ | ⟨c, t⟩
               · simp at hz1; subst hz1; simp at hu1
               · simp
           · simp only
             rw [hy, hya, if_neg (by simp [hgood])]
             simp [hz1]
           · dsimp only
             rw [show ps.length - (b + 1 + n) = k' - n by omega]
             conv => whnf
             (refine GOES.keeping h0 [0, 1, 2, 3, 4, 6] rfl rfl rfl (by first | rfl | (simp only [Z4, Z3, Z0 _ (Z1 _), Bool.and_self, Bool.and_true] <;> rfl)) ?_ ?_ <;> (repeat' (first | (with_reducible rfl) | (exact Z6 (Z1 _) (Z2 _ (Z1 _))) | (exact Z6 (Z1 _) (by simp [Z8, Zp, List.take_of_length_le])) | (exact Zm rfl (by first | (simp; done) | omega | (simp; omega))) | (exact congrArg (SV.int _) (by first | omega | (simp (disch := omega) only [lnB, Z9, Zd] <;> omega) | (simp; done) | (simp <;> omega))) | ((conv => whnf); refine ⟨?_, ?_⟩) | exact trivial | (simp only [ren, renB]; done) | rfl)))
         · have hbad : n = 0 ∨ dupM xs u = true := by
             rcases Nat.eq_zero_or_pos n with h | h
             · exact .inl h
             · right
               cases hd : dupM xs u with
               | true => rfl
               | false => exact absurd ⟨hd, by omega⟩ hgood
           have htf : tagP ps = false := by rw [hc0, hy, hya, if_pos hbad]
           rw [show (!dupM xs u && decide (n ≠ 0)) = false by rcases hbad with h | h <;> simp [h]]
           conv => whnf
           repeat' ((first | refine AU ?_ | (refine IW (fun h => ?_) (fun h => ?_) <;> try (exfalso; omega))) <;> conv => whnf)
           refine FIN.anyA 7 h0 rfl rfl rfl ⟨?_, rfl, rfl⟩
           rw [htf]; rfl
       · have hnp : ZH u = false := by rw [Yr]; simpa using (by assumption : ¬ Za u = [120])
         have hmm : Zv u 1 1 false = false := by assumption
         have hsg : ¬ YJ u = true := by unfold YJ; simp [hmm]
         have hlast : tagP ps = false := by
           rw [hc0, hy, ZD hu, ZI, if_neg hsg]; simp only [JD]; rw [if_neg (by simp [hnp])]
         refine FIN.anyA 7 h0 rfl rfl rfl ⟨?_, rfl, rfl⟩
         rw [hlast]; rfl
       · have hpv : ZH u = true := by rw [Yr]; simpa using (by assumption : Za u = [120])
         have hsg : ¬ YJ u = true := by unfold YJ; simp [hpv]
         have hlast : tagP ps = decide (ZC (Yc 1) (ps.drop (b + 1)) ≠ 0 ∧ ZC (Yc 1) (ps.drop (b + 1)) = (ps.drop (b + 1)).length) := by
           rw [hc0, hy, ZD hu, ZI, if_neg hsg]; simp only [JD]; rw [if_pos hpv]
         refine CALL.aA [3, 2, 1, 4, 5] (UY ps hb b (ps.length - b) (by omega) hbp L E S R vs.length xs.length []) ?_
         rintro r O' nx' ⟨P', rfl, rfl, rfl⟩
         rw [← hlast]
         cases htf : tagP ps with
         | true =>
           conv => whnf
           repeat' ((first | refine AU ?_ | (refine IW (fun h => ?_) (fun h => ?_) <;> try (exfalso; omega))) <;> conv => whnf)
           exact FIN.anyA 7 h0 rfl rfl rfl ⟨rfl, rfl, rfl⟩
         | false =>
           conv => whnf
           repeat' ((first | refine AU ?_ | (refine IW (fun h => ?_) (fun h => ?_) <;> try (exfalso; omega))) <;> conv => whnf)
           exact FIN.anyA 7 h0 rfl rfl rfl ⟨rfl, rfl, rfl⟩
     · repeat' ((first | refine AU ?_ | (refine IW (fun h => ?_) (fun h => ?_) <;> try (exfalso; omega))) <;> conv => whnf)
       have hlast : tagP ps = true := by rw [hc0, hy, List.drop_eq_nil_of_le (by omega), ZI]; rfl
       refine FIN.anyA 7 h0 rfl rfl rfl ⟨?_, rfl, rfl⟩
       rw [hlast]; rfl
 · repeat' ((first | refine AU ?_ | (refine IW (fun h => ?_) (fun h => ?_) <;> try (exfalso; omega))) <;> conv => whnf)
   have hv0 : Yf (vs.map Za) (ps.drop a) = some (ps.drop a, vs.map Za) := by
     rw [List.drop_eq_nil_of_le (by omega)]; rfl
   have hc0 : tagP ps = match ZI (vs.map Za) (ps.drop a) with | none => false | some l => JD l := by rw [htag]; unfold UZ; rw [hx, hv0]
   refine LOOP.go Z5 [2, 4, 5] (X := Nat × List (List UInt8)) (fun y => y.1 ≤ ps.length ∧ y.2.length ≤ y.1 ∧ (∀ x ∈ y.2, 1 ≤ x.length ∧ Sm x) ∧ ZI (vs.map Za) (ps.drop a) = ZI (vs.map Za ++ y.2.map fun x => Za (x.take 1)) (ps.drop y.1)) (fun y => []) (fun y => [(0, tz6), (1, tg6 L E S R 4 vs.length 5 y.2.length []), (2, .rows 1 (ps.map Z8)), (3, rd6' y.1 (ps.length - y.1)), (4, .rows 1 (vs.map Z8)), (5, .rows 1 (y.2.map Z8))]) 6 (fun y => ps.length - y.1) (a, []) ⟨by simp only; omega, by simp, by simp, by simp⟩ ?_
   conv => whnf
   refine ⟨by (refine GOES.keeping h0 [0, 1, 2, 3, 4, 5] rfl rfl rfl (by first | rfl | (simp only [Z4, Z3, Z0 _ (Z1 _), Bool.and_self, Bool.and_true] <;> rfl)) ?_ ?_ <;> (repeat' (first | (with_reducible rfl) | (exact Z6 (Z1 _) (Z2 _ (Z1 _))) | (exact Z6 (Z1 _) (by simp [Z8, Zp, List.take_of_length_le])) | (exact Zm rfl (by first | (simp; done) | omega | (simp; omega))) | (exact congrArg (SV.int _) (by first | omega | (simp (disch := omega) only [lnB, Z9, Zd] <;> omega) | (simp; done) | (simp <;> omega))) | ((conv => whnf); refine ⟨?_, ?_⟩) | exact trivial | (simp only [ren, renB]; done) | rfl))), ?_⟩
   rintro ⟨b, xs⟩ ⟨hb1, hxl, hxs, hy⟩
   dsimp only at hb1 hxl hxs hy ⊢
   conv => whnf
   rcases Nat.lt_or_ge b ps.length with hbp | hbp
   · obtain ⟨u, hu⟩ : ∃ u, ps[b]? = some u := ⟨_, List.getElem?_eq_getElem hbp⟩
     have hul := hsm u (List.mem_of_getElem? hu)
     obtain ⟨k', hk'⟩ : ∃ k', ps.length - b = k' + 1 := ⟨ps.length - b - 1, by omega⟩
     clear hx hv0 hvl
     repeat' ((first | (refine GET.at (row := Z8 u) (by rw [List.getElem?_map, show b + (0 : Int).toNat = b by simp, hu]; rfl) ?_; conv => whnf) | refine CALL.value (Ya _ hul) rfl rfl ?_ | refine CALL.value (Jf _ _ _ hul) rfl rfl ?_ | refine AU ?_ | (refine IW (fun h => ?_) (fun h => ?_) <;> try (exfalso; omega))) <;> conv => whnf)
     all_goals try (exact absurd (by assumption : Za u = [120]) (by assumption))
     · have hnp : ZH u = false := by rw [Yr]; simpa using (by assumption : ¬ Za u = [120])
       have hmm : Zv u 1 1 false = true := by assumption
       have hsg : YJ u = true := by unfold YJ; rw [hmm, hnp]; rfl
       have hu1 : u.length = 1 := by have := Xy hmm; omega
       rw [hk']
       refine CALL.aA [3, 2, 1, 4, 5] (VE ps hb b k' (by omega) u hu hu1 L E S R vs.length [] xs hxs (by omega)) ?_
       rintro r O' nx' ⟨n, xs', hn, rfl, hz, rfl, rfl⟩
       have hnle : n ≤ (ps.drop (b + 1)).length := by rw [hn]; exact JC _ _
       rw [List.length_drop] at hnle
       have hmem : Za u ∈ vs.map Za ++ (xs.map fun x => Za (x.take 1)) ↔ dupM xs u = true := by
         unfold dupM
         rw [List.mem_append, List.any_eq_true]
         constructor
         · rintro (h | h)
           · obtain ⟨v, hv, he⟩ := List.mem_map.1 h
             have h1 := (hvs v hv).1
             have h2 := congrArg List.length he
             unfold Za at h2; simp only [List.length_map] at h2; omega
           · obtain ⟨x, hx, he⟩ := List.mem_map.1 h
             exact ⟨x, hx, by simp [he]⟩
         · rintro ⟨x, hx, he⟩
           exact .inr (List.mem_map.2 ⟨x, hx, by simpa using he⟩)
       have hya : ZI (vs.map Za ++ xs.map fun x => Za (x.take 1)) (ps.drop b) = if n = 0 ∨ dupM xs u = true then none else ZI ((vs.map Za ++ xs.map fun x => Za (x.take 1)) ++ [Za u]) (ps.drop (b + 1 + n)) := by
         rw [ZD hu, ZI, if_pos hsg, ← hn, List.drop_drop]
         simp only [hmem]
       by_cases hgood : dupM xs u = false ∧ n ≠ 0
       · obtain ⟨z, rfl, hz1, hz2⟩ := hz hgood.1
         rw [show (!dupM xs u && decide (n ≠ 0)) = true by simp [hgood]]
         conv => whnf
         repeat' ((first | refine AU ?_ | (refine IW (fun h => ?_) (fun h => ?_) <;> try (exfalso; omega))) <;> conv => whnf)
         have e : (xs ++ [z]).length = xs.length + 1 := by simp
         refine ⟨(b + 1 + n, xs ++ [z]), ⟨by simp only; omega, by simp; omega, ?_, ?_⟩, by simp only; omega, ?_⟩
         · intro x hx'
           rcases List.mem_append.1 hx' with h1 | h1
           · exact hxs x h1
           · rw [List.mem_singleton.1 h1]
             refine ⟨?_, hz2⟩
             rcases z with _ | ⟨c, t⟩
             · simp at hz1; subst hz1; simp at hu1
             · simp
         · simp only
           rw [hy, hya, if_neg (by simp [hgood])]
           simp [hz1]
         · dsimp only
           rw [show ps.length - (b + 1 + n) = k' - n by omega]
           conv => whnf
           (refine GOES.keeping h0 [0, 1, 2, 3, 4, 6] rfl rfl rfl (by first | rfl | (simp only [Z4, Z3, Z0 _ (Z1 _), Bool.and_self, Bool.and_true] <;> rfl)) ?_ ?_ <;> (repeat' (first | (with_reducible rfl) | (exact Z6 (Z1 _) (Z2 _ (Z1 _))) | (exact Z6 (Z1 _) (by simp [Z8, Zp, List.take_of_length_le])) | (exact Zm rfl (by first | (simp; done) | omega | (simp; omega))) | (exact congrArg (SV.int _) (by first | omega | (simp (disch := omega) only [lnB, Z9, Zd] <;> omega) | (simp; done) | (simp <;> omega))) | ((conv => whnf); refine ⟨?_, ?_⟩) | exact trivial | (simp only [ren, renB]; done) | rfl)))
       · have hbad : n = 0 ∨ dupM xs u = true := by
           rcases Nat.eq_zero_or_pos n with h | h
           · exact .inl h
           · right
             cases hd : dupM xs u with
             | true => rfl
             | false => exact absurd ⟨hd, by omega⟩ hgood
         have htf : tagP ps = false := by rw [hc0, hy, hya, if_pos hbad]
         rw [show (!dupM xs u && decide (n ≠ 0)) = false by rcases hbad with h | h <;> simp [h]]
         conv => whnf
         repeat' ((first | refine AU ?_ | (refine IW (fun h => ?_) (fun h => ?_) <;> try (exfalso; omega))) <;> conv => whnf)
         refine FIN.anyA 7 h0 rfl rfl rfl ⟨?_, rfl, rfl⟩
         rw [htf]; rfl
     · have hnp : ZH u = false := by rw [Yr]; simpa using (by assumption : ¬ Za u = [120])
       have hmm : Zv u 1 1 false = false := by assumption
       have hsg : ¬ YJ u = true := by unfold YJ; simp [hmm]
       have hlast : tagP ps = false := by
         rw [hc0, hy, ZD hu, ZI, if_neg hsg]; simp only [JD]; rw [if_neg (by simp [hnp])]
       refine FIN.anyA 7 h0 rfl rfl rfl ⟨?_, rfl, rfl⟩
       rw [hlast]; rfl
     · have hpv : ZH u = true := by rw [Yr]; simpa using (by assumption : Za u = [120])
       have hsg : ¬ YJ u = true := by unfold YJ; simp [hpv]
       have hlast : tagP ps = decide (ZC (Yc 1) (ps.drop (b + 1)) ≠ 0 ∧ ZC (Yc 1) (ps.drop (b + 1)) = (ps.drop (b + 1)).length) := by
         rw [hc0, hy, ZD hu, ZI, if_neg hsg]; simp only [JD]; rw [if_pos hpv]
       refine CALL.aA [3, 2, 1, 4, 5] (UY ps hb b (ps.length - b) (by omega) hbp L E S R vs.length xs.length []) ?_
       rintro r O' nx' ⟨P', rfl, rfl, rfl⟩
       rw [← hlast]
       cases htf : tagP ps with
       | true =>
         conv => whnf
         repeat' ((first | refine AU ?_ | (refine IW (fun h => ?_) (fun h => ?_) <;> try (exfalso; omega))) <;> conv => whnf)
         exact FIN.anyA 7 h0 rfl rfl rfl ⟨rfl, rfl, rfl⟩
       | false =>
         conv => whnf
         repeat' ((first | refine AU ?_ | (refine IW (fun h => ?_) (fun h => ?_) <;> try (exfalso; omega))) <;> conv => whnf)
         exact FIN.anyA 7 h0 rfl rfl rfl ⟨rfl, rfl, rfl⟩
   · repeat' ((first | refine AU ?_ | (refine IW (fun h => ?_) (fun h => ?_) <;> try (exfalso; omega))) <;> conv => whnf)
     have hlast : tagP ps = true := by rw [hc0, hy, List.drop_eq_nil_of_le (by omega), ZI]; rfl
     refine FIN.anyA 7 h0 rfl rfl rfl ⟨?_, rfl, rfl⟩
     rw [hlast]; rfl
end Go.Proofs.YtbfbokdccdagkaaGreatDoor
