/- Part 18: IsoSight, IsoJoin, IsoSplit, IsoCls, LawCls1, RIso1, RIso3, RIso4, RIso5, RIso6. Conditions: as each part says. -/
import Derived.Lib.ItoaLen
import Derived.Test.YtbfbokdccdagkaaGreatDoorCls16
import Derived.Test.YtbfbokdccdagkaaGreatDoorCls17
set_option linter.unusedVariables false
set_option linter.unusedSimpArgs false
set_option maxRecDepth 20000
set_option maxHeartbeats 8000000
namespace Go.Proofs.YtbfbokdccdagkaaGreatDoor
open Go.Sx Go.Our Go.Lib
def Yy : Plan := (ZB [(0, 1), (1, 1), (2, 1), (4, 1), (5, 1), (6, 1), (3, 2), (7, 2), (8, 1), (9, 2), (10, 3), (11, 1), (12, 0)])
def Z85 : Go.Shelf.Ren := ⟨fun | 243 => 128 | 246 => 156 | 283 => 179 | 284 => 180 | 285 => 181 | 286 => 182 | 129 => 123 | 317 => 211 | 318 => 212 | 319 => 213 | 320 => 214 | 337 => 237 | 338 => 238 | n => n, fun | 3 => 3 | 9 => 9 | 2 => 2 | 4 => 4 | 171 => 229 | 0 => 0 | 53 => 104 | 37 => 174 | 5 => 5 | 173 => 231 | 212 => 249 | 51 => 169 | 20 => 20 | 213 => 250 | 46 => 135 | 232 => 272 | 233 => 273 | n => n, fun | 17 => 1 | 18 => 3 | 19 => 4 | n => n⟩
theorem ZcZ : Go.Proofs.LaysM.n243 Tryz.prog Z85 where
 mixed := by kernel_rfl
 f129 := Tryz.func123.trans (congrArg some (by kernel_rfl))
 f243 := Tryz.func128.trans (congrArg some (by kernel_rfl))
 f246 := Tryz.func156.trans (congrArg some (by kernel_rfl))
 f283 := Tryz.func179.trans (congrArg some (by kernel_rfl))
 f284 := Tryz.func180.trans (congrArg some (by kernel_rfl))
 f285 := Tryz.func181.trans (congrArg some (by kernel_rfl))
 f286 := Tryz.func182.trans (congrArg some (by kernel_rfl))
 f317 := Tryz.func211.trans (congrArg some (by kernel_rfl))
 f318 := Tryz.func212.trans (congrArg some (by kernel_rfl))
 f319 := Tryz.func213.trans (congrArg some (by kernel_rfl))
 f320 := Tryz.func214.trans (congrArg some (by kernel_rfl))
 f337 := Tryz.func237.trans (congrArg some (by kernel_rfl))
 f338 := Tryz.func238.trans (congrArg some (by kernel_rfl))
 t0 := Tryz.underlying0
 a0 := Tryz.isAgg0
 z0 := Tryz.sizeOf0
 v0 := Tryz.zeroValue0
 t2 := Tryz.underlying2
 a2 := Tryz.isAgg2
 z2 := Tryz.sizeOf2
 v2 := Tryz.zeroValue2
 t3 := Tryz.underlying3
 a3 := Tryz.isAgg3
 z3 := Tryz.sizeOf3
 v3 := Tryz.zeroValue3
 t4 := Tryz.underlying4
 a4 := Tryz.isAgg4
 z4 := Tryz.sizeOf4
 v4 := Tryz.zeroValue4
 t5 := Tryz.underlying5
 a5 := Tryz.isAgg5
 z5 := Tryz.sizeOf5
 v5 := Tryz.zeroValue5
 t9 := Tryz.underlying9
 a9 := Tryz.isAgg9
 z9 := Tryz.sizeOf9
 v9 := Tryz.zeroValue9
 t20 := Tryz.underlying20
 a20 := Tryz.isAgg20
 z20 := Tryz.sizeOf20
 v20 := Tryz.zeroValue20
 t37 := Tryz.underlying174
 a37 := Tryz.isAgg174
 z37 := Tryz.sizeOf174
 v37 := Tryz.zeroValue174
 t46 := Tryz.underlying135
 a46 := Tryz.isAgg135
 z46 := Tryz.sizeOf135
 v46 := Tryz.zeroValue135
 t51 := Tryz.underlying169
 a51 := Tryz.isAgg169
 z51 := Tryz.sizeOf169
 v51 := Tryz.zeroValue169
 t53 := Tryz.underlying104
 a53 := Tryz.isAgg104
 z53 := Tryz.sizeOf104
 v53 := Tryz.zeroValue104
 t171 := Tryz.underlying229
 a171 := Tryz.isAgg229
 z171 := Tryz.sizeOf229
 v171 := Tryz.zeroValue229
 t173 := Tryz.underlying231
 a173 := Tryz.isAgg231
 z173 := Tryz.sizeOf231
 v173 := Tryz.zeroValue231
 t212 := Tryz.underlying249
 a212 := Tryz.isAgg249
 z212 := Tryz.sizeOf249
 v212 := Tryz.zeroValue249
 t213 := Tryz.underlying250
 a213 := Tryz.isAgg250
 z213 := Tryz.sizeOf250
 t232 := Tryz.underlying272
 a232 := Tryz.isAgg272
 z232 := Tryz.sizeOf272
 v232 := Tryz.zeroValue272
 t233 := Tryz.underlying273
 a233 := Tryz.isAgg273
 z233 := Tryz.sizeOf273
 v233 := Tryz.zeroValue273
 g17 := by kernel_rfl
 g18 := by kernel_rfl
 g19 := by kernel_rfl
 i0 := by kernel_rfl
 i2 := by kernel_rfl
 i3 := by kernel_rfl
 i4 := by kernel_rfl
 i5 := by kernel_rfl
 i9 := by kernel_rfl
 i20 := by kernel_rfl
 i37 := by kernel_rfl
 i46 := by kernel_rfl
 i51 := by kernel_rfl
 i53 := by kernel_rfl
 i171 := by kernel_rfl
 i173 := by kernel_rfl
 i212 := by kernel_rfl
 i232 := by kernel_rfl
 i233 := by kernel_rfl
 m17 := by kernel_rfl
 m18 := by kernel_rfl
 m19 := by kernel_rfl
def I64 (n : Int) : Prop := -9223372036854775808 ≤ n ∧ n ≤ 9223372036854775807
theorem Z6l (n : Int) (h : I64 n) : Does Tryz.prog tab 128 0 [.int .i64 n] [] [] (Val (.str (itoa n))) :=
 Z84 ZcZ Tryz.call128 (g := 1) (by kernel_rfl) (by kernel_rfl) n h.1 h.2
theorem Zn (n : Int) (h : I64 n) : Does Tryz.prog tab 98 0 [.int .i64 n] [] [] (Val (.str (itoa n))) := by
 refine Does.enter Z2 (g := 98) (fn := Tryz.f98) Tryz.call98 Tryz.func98 rfl 5 rfl rfl [.tmp 2] rfl ?_
 intro w0 F η0 h0
 conv => whnf
 repeat' ((first | with_reducible refine IF.tt ?_ | with_reducible refine IF.ff ?_ | refine CALL.value (Z6l n h) rfl rfl ?_ | refine AU ?_ | (refine IW (fun h => ?_) (fun h => ?_) <;> try (exfalso; omega))) <;> conv => whnf)
 exact FIN.value h0 rfl rfl
theorem Zy {n : Int} (h : I64 n) : (itoa n).length ≤ 21 := itoa_length_le n h.1 h.2
def wBx (c nl nc ni ng : Nat) (count : Int) : Hp := .box [.sl (.loc 1) 0 1 nl none, .sl (.loc c) 0 1 nc none, .sl (.loc 3) 0 1 ni none, .sl (.loc 4) 0 1 ng none, .int .i64 count]
def TmOK (N : Nat) (t : Tm) : Prop := t.t.length + t.y.length + t.l.length ≤ N ∧ I64 t.k
structure SdOK (N nc : Nat) (s : Sd) : Prop where
 ts : TmOK N s.q.s
 tp : TmOK N s.q.p
 to : TmOK N s.q.o
 tg : TmOK N s.q.g
 a : -1 ≤ s.a ∧ s.a < (nc : Int)
 b : -1 ≤ s.b ∧ s.b < (nc : Int)
 c : -1 ≤ s.c ∧ s.c < (nc : Int)
 d : -1 ≤ s.d ∧ s.d < (nc : Int)
def Z10 (cl : List Int) (x : Nat) (s : Sd) : List Seen := [seeM cl x s.a s.q.s, seeM cl x s.b s.q.p, seeM cl x s.c s.q.o, seeM cl x s.d s.q.g]
def preS (cl : List Int) (x : Nat) (s : Sd) (k : Nat) : LB := (((Z10 cl x s).take k).map Jr).flatten
theorem Z86 (cl : List Int) (x : Nat) (s : Sd) : preS cl x s 4 = YK (sgM cl x s) := by
 unfold preS Z10 YK sgM; simp
theorem Z2F {s : LB} {N : Nat} (h : s.length ≤ N) (hN : N ≤ 1099511627776) : (Wm s).length ≤ N + 23 := by
 unfold Wm
 have := Zy (n := (s.length : Int)) ⟨by omega, by omega⟩
 simp only [List.length_cons, List.length_append]; omega
theorem WI {cl : List Int} {x : Nat} {n : Int} {t : Tm} {N : Nat} (ht : TmOK N t) (hN : N ≤ 1099511627776) (hc : ∀ c ∈ cl, 0 ≤ c ∧ c < 4611686018427387904) : (Jr (seeM cl x n t)).length ≤ N + 91 := by
 obtain ⟨h1, h2⟩ := ht
 have a := Z2F (s := t.t) (N := t.t.length) (Nat.le_refl _) (by omega)
 have b := Z2F (s := t.y) (N := t.y.length) (Nat.le_refl _) (by omega)
 have c := Z2F (s := t.l) (N := t.l.length) (Nat.le_refl _) (by omega)
 have d := Zy h2
 unfold seeM Jr
 split
 · simp only [Bool.false_eq_true, if_false, Int.lt_irrefl]
   unfold Z6j
   simp only [List.length_append, List.length_singleton]; omega
 · split
   · simp
   · have hg : 0 ≤ cl.getD n.toNat 0 ∧ cl.getD n.toNat 0 < 4611686018427387904 := by
       rw [List.getD_eq_getElem?_getD]
       cases e : cl[n.toNat]? with
       | none => simp
       | some c => exact hc c (List.mem_of_getElem? e)
     have := Zy (n := 1 + cl.getD n.toNat 0 - 1) ⟨by omega, by omega⟩
     simp only [Bool.false_eq_true, if_false]
     rw [if_pos (show 0 < 1 + cl.getD n.toNat 0 by omega)]
     simp only [List.length_append, List.length_cons, List.length_nil]; omega
theorem Z11 {cl : List Int} {x : Nat} {s : Sd} {N : Nat} (hs : SdOK N cl.length s) (hN : N ≤ 1099511627776) (hc : ∀ c ∈ cl, 0 ≤ c ∧ c < 4611686018427387904) {k : Nat} (hk : k ≤ 4) : (preS cl x s k).length ≤ 4 * (N + 91) := by
 have h1 := WI (x := x) (n := s.a) hs.ts hN hc
 have h2 := WI (x := x) (n := s.b) hs.tp hN hc
 have h3 := WI (x := x) (n := s.c) hs.to hN hc
 have h4 := WI (x := x) (n := s.d) hs.tg hN hc
 have hk : k = 0 ∨ k = 1 ∨ k = 2 ∨ k = 3 ∨ k = 4 := by omega
 rcases hk with rfl | rfl | rfl | rfl | rfl <;> simp [preS, Z10] <;> omega
theorem Us {cl : List Int} {x : Nat} {n : Int} {t : Tm} (h : n = (x : Int)) : Jr (seeM cl x n t) = [64] ++ [32] := by
 unfold seeM; rw [if_neg (by omega), if_pos h]; rfl
theorem WJ {cl : List Int} {x : Nat} {n : Int} {t : Tm} (hc : ∀ c ∈ cl, 0 ≤ c ∧ c < 4611686018427387904) (h : ¬ n = (x : Int)) (h2 : 0 ≤ n) (hn : n.toNat < cl.length) : Jr (seeM cl x n t) = ([35] ++ itoa cl[n.toNat]) ++ [32] := by
 have h3 := (hc _ (List.getElem_mem hn)).1
 unfold seeM; rw [if_neg (by omega), if_neg h]
 unfold Jr
 simp only [Bool.false_eq_true, if_false]
 rw [List.getD_eq_getElem?_getD, List.getElem?_eq_getElem hn, Option.getD_some, if_pos (by omega), show 1 + cl[n.toNat] - 1 = cl[n.toNat] by omega]
 rfl
def Zh (s : LB) : LB := (([61] ++ itoa (s.length : Int)) ++ [58]) ++ s
theorem Ut {cl : List Int} {x : Nat} {n : Int} {t : Tm} {out : LB} (h : n < 0) : out ++ Jr (seeM cl x n t) = ((((out ++ Zh t.t) ++ Zh t.y) ++ Zh t.l) ++ itoa t.k) ++ [32] := by
 unfold seeM; rw [if_pos h]
 unfold Jr Z6j Wm Zh
 simp
theorem Yn {s : LB} {N : Nat} (h : s.length ≤ N) (hN : N ≤ 1099511627776) : (Zh s).length ≤ s.length + 23 := by
 unfold Zh
 have := Zy (n := (s.length : Int)) ⟨by omega, by omega⟩
 simp only [List.length_cons, List.length_append, List.length_nil]; omega
set_option maxHeartbeats 4000000 in
theorem Z6m (cl : List Int) (x : Nat) (s : Sd) (N : Nat) (hs : SdOK N cl.length s) (hN : N ≤ 1099511627776) (hc : ∀ c ∈ cl, 0 ≤ c ∧ c < 4611686018427387904) (hcl : cl.length ≤ 4611686018427387904) (nl ni ng : Nat) (ct : Int) :
   Does Tryz.prog tab 97 5 [.ptr (.loc 0) 0 0 0, .int .i64 (x : Int), .agg (Jc s)] [] [(0, wBx 2 nl cl.length ni ng ct), (2, .rows 1 (cl.map ZK))] (ValK 5 (.str (YK (sgM cl x s)))) := by
 refine Does.enter Z2 (g := 97) (fn := Tryz.f97) Tryz.call97 Tryz.func97 rfl 71 rfl rfl [.tmp 6] rfl ?_
 intro w0 F η0 h0
 conv => whnf
 repeat' ((first | with_reducible refine IF.tt ?_ | with_reducible refine IF.ff ?_ | refine AU ?_ | (refine IW (fun h => ?_) (fun h => ?_) <;> try (exfalso; omega))) <;> conv => whnf)
 refine LOOP.gok Z2 [0, 1, 5, 7, 13] [5] (X := Nat) (fun k => k ≤ 4) (fun k => [(14, .int .i64 (k : Int))]) (fun k => [(6, .bld TB TU (preS cl x s k))]) 7 (fun k => 4 - k) 0 (by omega) ?_
 conv => whnf
 refine ⟨by exact GOES.cA h0, ?_⟩
 rintro k hk4
 conv => whnf
 refine IF.mk (fun h => ?_) (fun h => ?_)
 · have hlt : k < 4 := by simp at h; omega
   have hkk : k = 0 ∨ k = 1 ∨ k = 2 ∨ k = 3 := by omega
   rcases hkk with rfl | rfl | rfl | rfl
   · have hst : preS cl x s 1 = preS cl x s 0 ++ Jr (seeM cl x s.a s.q.s) := by simp [preS, Z10]
     have hol := Z11 (x := x) hs hN hc (k := 0) (by omega)
     obtain ⟨hn0, hn1⟩ := hs.a
     obtain ⟨ht0, ht1⟩ := hs.ts
     generalize preS cl x s 0 = out at hst hol ⊢
     generalize s.a = n at hst hn0 hn1 ⊢
     generalize s.q.s = t at hst ht0 ht1 ⊢
     conv => whnf
     repeat' ((first | with_reducible refine IF.tt ?_ | with_reducible refine IF.ff ?_ | refine AU ?_ | (refine IW (fun h => ?_) (fun h => ?_) <;> try (exfalso; omega))) <;> conv => whnf)
     · have hw : out.length + ([64] : LB).length ≤ 140737488355328 := by simp only [List.length_cons, List.length_nil]; omega
       refine CALL.aA [6] (Z1 out [64] hw) ?_
       rintro r O' nx' ⟨rfl, rfl, rfl⟩
       clear hw
       have hw : (out ++ [64]).length + ([32] : LB).length ≤ 140737488355328 := by simp only [List.length_append, List.length_cons, List.length_nil]; omega
       conv => whnf
       repeat' ((first | with_reducible refine IF.tt ?_ | with_reducible refine IF.ff ?_ | refine AU ?_ | (refine IW (fun h => ?_) (fun h => ?_) <;> try (exfalso; omega))) <;> conv => whnf)
       refine CALL.aA [6] (Z1 (out ++ [64]) [32] hw) ?_
       rintro r O' nx' ⟨rfl, rfl, rfl⟩
       clear hw
       conv => whnf
       repeat' ((first | with_reducible refine IF.tt ?_ | with_reducible refine IF.ff ?_ | refine AU ?_ | (refine IW (fun h => ?_) (fun h => ?_) <;> try (exfalso; omega))) <;> conv => whnf)
       refine ⟨1, by omega, by omega, ?_⟩
       dsimp only
       rw [hst, Us h, ← List.append_assoc]
       conv => whnf
       exact GOES.cA h0
     · have hnl : n.toNat < cl.length := by omega
       have hci := hc _ (List.getElem_mem hnl)
       have hI : I64 cl[n.toNat] := ⟨by omega, by omega⟩
       have hil := Zy hI
       have hg := JP hnl
       rw [WJ hc (by assumption) h hnl, ← List.append_assoc] at hst
       generalize cl[n.toNat] = c at hci hI hil hg hst ⊢
       repeat' ((first | with_reducible refine IF.tt ?_ | with_reducible refine IF.ff ?_ | (show DRAWN _ _ _ _ _ _ _; first | refine DRAWN.of (id := 14) Z2 mixed Yy (by kernel_rfl) ?_) | refine ADD.mk (fun _ _ => ?_) | refine AD ?_ | refine FORK.mk ?_ ?_ | refine CALL.value (Zn c hI) rfl rfl ?_ | (refine GET.at (row := ZK c) (by rw [Nat.zero_add]; exact hg) ?_; conv => whnf) | refine AU ?_ | (refine IW (fun h => ?_) (fun h => ?_) <;> try (exfalso; omega))) <;> conv => whnf)
       have hw : out.length + ([35] ++ itoa c).length ≤ 140737488355328 := by simp only [List.length_append, List.length_cons, List.length_nil]; omega
       refine CALL.aA [6] (Z1 out ([35] ++ itoa c) hw) ?_
       rintro r O' nx' ⟨rfl, rfl, rfl⟩
       clear hw
       repeat' ((first | with_reducible refine IF.tt ?_ | with_reducible refine IF.ff ?_ | (show DRAWN _ _ _ _ _ _ _; first | refine DRAWN.of (id := 14) Z2 mixed Yy (by kernel_rfl) ?_) | refine ADD.mk (fun _ _ => ?_) | refine AD ?_ | refine FORK.mk ?_ ?_ | refine AU ?_ | (refine IW (fun h => ?_) (fun h => ?_) <;> try (exfalso; omega))) <;> conv => whnf)
       have hw : (out ++ ([35] ++ itoa c)).length + ([32] : LB).length ≤ 140737488355328 := by simp only [List.length_append, List.length_cons, List.length_nil]; omega
       conv => whnf
       repeat' ((first | with_reducible refine IF.tt ?_ | with_reducible refine IF.ff ?_ | refine AU ?_ | (refine IW (fun h => ?_) (fun h => ?_) <;> try (exfalso; omega))) <;> conv => whnf)
       refine CALL.aA [6] (Z1 (out ++ ([35] ++ itoa c)) [32] hw) ?_
       rintro r O' nx' ⟨rfl, rfl, rfl⟩
       clear hw
       conv => whnf
       repeat' ((first | with_reducible refine IF.tt ?_ | with_reducible refine IF.ff ?_ | refine AU ?_ | (refine IW (fun h => ?_) (fun h => ?_) <;> try (exfalso; omega))) <;> conv => whnf)
       refine ⟨1, by omega, by omega, ?_⟩
       dsimp only
       rw [hst]
       conv => whnf
       exact GOES.cA h0
     · rw [Ut h] at hst
       have h1 := Yn (s := t.t) (N := N) (by omega) hN
       have h2 := Yn (s := t.y) (N := N) (by omega) hN
       have h3 := Yn (s := t.l) (N := N) (by omega) hN
       have hil := Zy ht1
       have hw1 : out.length + (Zh t.t).length ≤ 140737488355328 := by omega
       have hw2 : (out ++ Zh t.t).length + (Zh t.y).length ≤ 140737488355328 := by rw [List.length_append]; omega
       have hw3 : ((out ++ Zh t.t) ++ Zh t.y).length + (Zh t.l).length ≤ 140737488355328 := by rw [List.length_append, List.length_append]; omega
       have hI : I64 (t.t.length : Int) := ⟨by omega, by omega⟩
       have hq := Zy hI
       repeat' ((first | with_reducible refine IF.tt ?_ | with_reducible refine IF.ff ?_ | (refine LOOP.once Z2 ?_; conv => whnf) | refine CALL.value (Zn (t.t.length : Int) hI) rfl rfl ?_ | (refine NEED.mk (by simp; omega) ?_; conv => whnf) | refine AU ?_ | (refine IW (fun h => ?_) (fun h => ?_) <;> try (exfalso; omega))) <;> conv => whnf)
       clear hI hq
       refine CALL.aA [6] (Z1 (out) (Zh t.t) hw1) ?_
       rintro r O' nx' ⟨rfl, rfl, rfl⟩
       conv => whnf
       have hI : I64 (t.y.length : Int) := ⟨by omega, by omega⟩
       have hq := Zy hI
       repeat' ((first | with_reducible refine IF.tt ?_ | with_reducible refine IF.ff ?_ | (refine LOOP.once Z2 ?_; conv => whnf) | refine CALL.value (Zn (t.y.length : Int) hI) rfl rfl ?_ | (refine NEED.mk (by simp; omega) ?_; conv => whnf) | refine AU ?_ | (refine IW (fun h => ?_) (fun h => ?_) <;> try (exfalso; omega))) <;> conv => whnf)
       clear hI hq
       refine CALL.aA [6] (Z1 (out ++ Zh t.t) (Zh t.y) hw2) ?_
       rintro r O' nx' ⟨rfl, rfl, rfl⟩
       conv => whnf
       have hI : I64 (t.l.length : Int) := ⟨by omega, by omega⟩
       have hq := Zy hI
       repeat' ((first | with_reducible refine IF.tt ?_ | with_reducible refine IF.ff ?_ | (refine LOOP.once Z2 ?_; conv => whnf) | refine CALL.value (Zn (t.l.length : Int) hI) rfl rfl ?_ | (refine NEED.mk (by simp; omega) ?_; conv => whnf) | refine AU ?_ | (refine IW (fun h => ?_) (fun h => ?_) <;> try (exfalso; omega))) <;> conv => whnf)
       clear hI hq
       refine CALL.aA [6] (Z1 ((out ++ Zh t.t) ++ Zh t.y) (Zh t.l) hw3) ?_
       rintro r O' nx' ⟨rfl, rfl, rfl⟩
       conv => whnf
       repeat' ((first | with_reducible refine IF.tt ?_ | with_reducible refine IF.ff ?_ | (refine LOOP.once Z2 ?_; conv => whnf) | refine CALL.value (Zn t.k ht1) rfl rfl ?_ | refine AU ?_ | (refine IW (fun h => ?_) (fun h => ?_) <;> try (exfalso; omega))) <;> conv => whnf)
       have hw : (((out ++ Zh t.t) ++ Zh t.y) ++ Zh t.l).length + (itoa t.k).length ≤ 140737488355328 := by simp only [List.length_append]; omega
       refine CALL.aA [6] (Z1 (((out ++ Zh t.t) ++ Zh t.y) ++ Zh t.l) (itoa t.k) hw) ?_
       rintro r O' nx' ⟨rfl, rfl, rfl⟩
       clear hw
       have hw : ((((out ++ Zh t.t) ++ Zh t.y) ++ Zh t.l) ++ itoa t.k).length + ([32] : LB).length ≤ 140737488355328 := by simp only [List.length_append, List.length_cons, List.length_nil]; omega
       conv => whnf
       repeat' ((first | with_reducible refine IF.tt ?_ | with_reducible refine IF.ff ?_ | refine AU ?_ | (refine IW (fun h => ?_) (fun h => ?_) <;> try (exfalso; omega))) <;> conv => whnf)
       refine CALL.aA [6] (Z1 ((((out ++ Zh t.t) ++ Zh t.y) ++ Zh t.l) ++ itoa t.k) [32] hw) ?_
       rintro r O' nx' ⟨rfl, rfl, rfl⟩
       clear hw
       conv => whnf
       repeat' ((first | with_reducible refine IF.tt ?_ | with_reducible refine IF.ff ?_ | refine AU ?_ | (refine IW (fun h => ?_) (fun h => ?_) <;> try (exfalso; omega))) <;> conv => whnf)
       refine ⟨1, by omega, by omega, ?_⟩
       dsimp only
       rw [hst]
       conv => whnf
       exact GOES.cA h0
   · have hst : preS cl x s 2 = preS cl x s 1 ++ Jr (seeM cl x s.b s.q.p) := by simp [preS, Z10]
     have hol := Z11 (x := x) hs hN hc (k := 1) (by omega)
     obtain ⟨hn0, hn1⟩ := hs.b
     obtain ⟨ht0, ht1⟩ := hs.tp
     generalize preS cl x s 1 = out at hst hol ⊢
     generalize s.b = n at hst hn0 hn1 ⊢
     generalize s.q.p = t at hst ht0 ht1 ⊢
     conv => whnf
     repeat' ((first | with_reducible refine IF.tt ?_ | with_reducible refine IF.ff ?_ | refine AU ?_ | (refine IW (fun h => ?_) (fun h => ?_) <;> try (exfalso; omega))) <;> conv => whnf)
     · have hw : out.length + ([64] : LB).length ≤ 140737488355328 := by simp only [List.length_cons, List.length_nil]; omega
       refine CALL.aA [6] (Z1 out [64] hw) ?_
       rintro r O' nx' ⟨rfl, rfl, rfl⟩
       clear hw
       have hw : (out ++ [64]).length + ([32] : LB).length ≤ 140737488355328 := by simp only [List.length_append, List.length_cons, List.length_nil]; omega
       conv => whnf
       repeat' ((first | with_reducible refine IF.tt ?_ | with_reducible refine IF.ff ?_ | refine AU ?_ | (refine IW (fun h => ?_) (fun h => ?_) <;> try (exfalso; omega))) <;> conv => whnf)
       refine CALL.aA [6] (Z1 (out ++ [64]) [32] hw) ?_
       rintro r O' nx' ⟨rfl, rfl, rfl⟩
       clear hw
       conv => whnf
       repeat' ((first | with_reducible refine IF.tt ?_ | with_reducible refine IF.ff ?_ | refine AU ?_ | (refine IW (fun h => ?_) (fun h => ?_) <;> try (exfalso; omega))) <;> conv => whnf)
       refine ⟨2, by omega, by omega, ?_⟩
       dsimp only
       rw [hst, Us h, ← List.append_assoc]
       conv => whnf
       exact GOES.cA h0
     · have hnl : n.toNat < cl.length := by omega
       have hci := hc _ (List.getElem_mem hnl)
       have hI : I64 cl[n.toNat] := ⟨by omega, by omega⟩
       have hil := Zy hI
       have hg := JP hnl
       rw [WJ hc (by assumption) h hnl, ← List.append_assoc] at hst
       generalize cl[n.toNat] = c at hci hI hil hg hst ⊢
       repeat' ((first | with_reducible refine IF.tt ?_ | with_reducible refine IF.ff ?_ | (show DRAWN _ _ _ _ _ _ _; first | refine DRAWN.of (id := 14) Z2 mixed Yy (by kernel_rfl) ?_) | refine ADD.mk (fun _ _ => ?_) | refine AD ?_ | refine FORK.mk ?_ ?_ | refine CALL.value (Zn c hI) rfl rfl ?_ | (refine GET.at (row := ZK c) (by rw [Nat.zero_add]; exact hg) ?_; conv => whnf) | refine AU ?_ | (refine IW (fun h => ?_) (fun h => ?_) <;> try (exfalso; omega))) <;> conv => whnf)
       have hw : out.length + ([35] ++ itoa c).length ≤ 140737488355328 := by simp only [List.length_append, List.length_cons, List.length_nil]; omega
       refine CALL.aA [6] (Z1 out ([35] ++ itoa c) hw) ?_
       rintro r O' nx' ⟨rfl, rfl, rfl⟩
       clear hw
       repeat' ((first | with_reducible refine IF.tt ?_ | with_reducible refine IF.ff ?_ | (show DRAWN _ _ _ _ _ _ _; first | refine DRAWN.of (id := 14) Z2 mixed Yy (by kernel_rfl) ?_) | refine ADD.mk (fun _ _ => ?_) | refine AD ?_ | refine FORK.mk ?_ ?_ | refine AU ?_ | (refine IW (fun h => ?_) (fun h => ?_) <;> try (exfalso; omega))) <;> conv => whnf)
       have hw : (out ++ ([35] ++ itoa c)).length + ([32] : LB).length ≤ 140737488355328 := by simp only [List.length_append, List.length_cons, List.length_nil]; omega
       conv => whnf
       repeat' ((first | with_reducible refine IF.tt ?_ | with_reducible refine IF.ff ?_ | refine AU ?_ | (refine IW (fun h => ?_) (fun h => ?_) <;> try (exfalso; omega))) <;> conv => whnf)
       refine CALL.aA [6] (Z1 (out ++ ([35] ++ itoa c)) [32] hw) ?_
       rintro r O' nx' ⟨rfl, rfl, rfl⟩
       clear hw
       conv => whnf
       repeat' ((first | with_reducible refine IF.tt ?_ | with_reducible refine IF.ff ?_ | refine AU ?_ | (refine IW (fun h => ?_) (fun h => ?_) <;> try (exfalso; omega))) <;> conv => whnf)
       refine ⟨2, by omega, by omega, ?_⟩
       dsimp only
       rw [hst]
       conv => whnf
       exact GOES.cA h0
     · rw [Ut h] at hst
       have h1 := Yn (s := t.t) (N := N) (by omega) hN
       have h2 := Yn (s := t.y) (N := N) (by omega) hN
       have h3 := Yn (s := t.l) (N := N) (by omega) hN
       have hil := Zy ht1
       have hw1 : out.length + (Zh t.t).length ≤ 140737488355328 := by omega
       have hw2 : (out ++ Zh t.t).length + (Zh t.y).length ≤ 140737488355328 := by rw [List.length_append]; omega
       have hw3 : ((out ++ Zh t.t) ++ Zh t.y).length + (Zh t.l).length ≤ 140737488355328 := by rw [List.length_append, List.length_append]; omega
       have hI : I64 (t.t.length : Int) := ⟨by omega, by omega⟩
       have hq := Zy hI
       repeat' ((first | with_reducible refine IF.tt ?_ | with_reducible refine IF.ff ?_ | (refine LOOP.once Z2 ?_; conv => whnf) | refine CALL.value (Zn (t.t.length : Int) hI) rfl rfl ?_ | (refine NEED.mk (by simp; omega) ?_; conv => whnf) | refine AU ?_ | (refine IW (fun h => ?_) (fun h => ?_) <;> try (exfalso; omega))) <;> conv => whnf)
       clear hI hq
       refine CALL.aA [6] (Z1 (out) (Zh t.t) hw1) ?_
       rintro r O' nx' ⟨rfl, rfl, rfl⟩
       conv => whnf
       have hI : I64 (t.y.length : Int) := ⟨by omega, by omega⟩
       have hq := Zy hI
       repeat' ((first | with_reducible refine IF.tt ?_ | with_reducible refine IF.ff ?_ | (refine LOOP.once Z2 ?_; conv => whnf) | refine CALL.value (Zn (t.y.length : Int) hI) rfl rfl ?_ | (refine NEED.mk (by simp; omega) ?_; conv => whnf) | refine AU ?_ | (refine IW (fun h => ?_) (fun h => ?_) <;> try (exfalso; omega))) <;> conv => whnf)
       clear hI hq
       refine CALL.aA [6] (Z1 (out ++ Zh t.t) (Zh t.y) hw2) ?_
       rintro r O' nx' ⟨rfl, rfl, rfl⟩
       conv => whnf
       have hI : I64 (t.l.length : Int) := ⟨by omega, by omega⟩
       have hq := Zy hI
       repeat' ((first | with_reducible refine IF.tt ?_ | with_reducible refine IF.ff ?_ | (refine LOOP.once Z2 ?_; conv => whnf) | refine CALL.value (Zn (t.l.length : Int) hI) rfl rfl ?_ | (refine NEED.mk (by simp; omega) ?_; conv => whnf) | refine AU ?_ | (refine IW (fun h => ?_) (fun h => ?_) <;> try (exfalso; omega))) <;> conv => whnf)
       clear hI hq
       refine CALL.aA [6] (Z1 ((out ++ Zh t.t) ++ Zh t.y) (Zh t.l) hw3) ?_
       rintro r O' nx' ⟨rfl, rfl, rfl⟩
       conv => whnf
       repeat' ((first | with_reducible refine IF.tt ?_ | with_reducible refine IF.ff ?_ | (refine LOOP.once Z2 ?_; conv => whnf) | refine CALL.value (Zn t.k ht1) rfl rfl ?_ | refine AU ?_ | (refine IW (fun h => ?_) (fun h => ?_) <;> try (exfalso; omega))) <;> conv => whnf)
       have hw : (((out ++ Zh t.t) ++ Zh t.y) ++ Zh t.l).length + (itoa t.k).length ≤ 140737488355328 := by simp only [List.length_append]; omega
       refine CALL.aA [6] (Z1 (((out ++ Zh t.t) ++ Zh t.y) ++ Zh t.l) (itoa t.k) hw) ?_
       rintro r O' nx' ⟨rfl, rfl, rfl⟩
       clear hw
       have hw : ((((out ++ Zh t.t) ++ Zh t.y) ++ Zh t.l) ++ itoa t.k).length + ([32] : LB).length ≤ 140737488355328 := by simp only [List.length_append, List.length_cons, List.length_nil]; omega
       conv => whnf
       repeat' ((first | with_reducible refine IF.tt ?_ | with_reducible refine IF.ff ?_ | refine AU ?_ | (refine IW (fun h => ?_) (fun h => ?_) <;> try (exfalso; omega))) <;> conv => whnf)
       refine CALL.aA [6] (Z1 ((((out ++ Zh t.t) ++ Zh t.y) ++ Zh t.l) ++ itoa t.k) [32] hw) ?_
       rintro r O' nx' ⟨rfl, rfl, rfl⟩
       clear hw
       conv => whnf
       repeat' ((first | with_reducible refine IF.tt ?_ | with_reducible refine IF.ff ?_ | refine AU ?_ | (refine IW (fun h => ?_) (fun h => ?_) <;> try (exfalso; omega))) <;> conv => whnf)
       refine ⟨2, by omega, by omega, ?_⟩
       dsimp only
       rw [hst]
       conv => whnf
       exact GOES.cA h0
   · have hst : preS cl x s 3 = preS cl x s 2 ++ Jr (seeM cl x s.c s.q.o) := by simp [preS, Z10]
     have hol := Z11 (x := x) hs hN hc (k := 2) (by omega)
     obtain ⟨hn0, hn1⟩ := hs.c
     obtain ⟨ht0, ht1⟩ := hs.to
     generalize preS cl x s 2 = out at hst hol ⊢
     generalize s.c = n at hst hn0 hn1 ⊢
     generalize s.q.o = t at hst ht0 ht1 ⊢
     conv => whnf
     repeat' ((first | with_reducible refine IF.tt ?_ | with_reducible refine IF.ff ?_ | refine AU ?_ | (refine IW (fun h => ?_) (fun h => ?_) <;> try (exfalso; omega))) <;> conv => whnf)
     · have hw : out.length + ([64] : LB).length ≤ 140737488355328 := by simp only [List.length_cons, List.length_nil]; omega
       refine CALL.aA [6] (Z1 out [64] hw) ?_
       rintro r O' nx' ⟨rfl, rfl, rfl⟩
       clear hw
       have hw : (out ++ [64]).length + ([32] : LB).length ≤ 140737488355328 := by simp only [List.length_append, List.length_cons, List.length_nil]; omega
       conv => whnf
       repeat' ((first | with_reducible refine IF.tt ?_ | with_reducible refine IF.ff ?_ | refine AU ?_ | (refine IW (fun h => ?_) (fun h => ?_) <;> try (exfalso; omega))) <;> conv => whnf)
       refine CALL.aA [6] (Z1 (out ++ [64]) [32] hw) ?_
       rintro r O' nx' ⟨rfl, rfl, rfl⟩
       clear hw
       conv => whnf
       repeat' ((first | with_reducible refine IF.tt ?_ | with_reducible refine IF.ff ?_ | refine AU ?_ | (refine IW (fun h => ?_) (fun h => ?_) <;> try (exfalso; omega))) <;> conv => whnf)
       refine ⟨3, by omega, by omega, ?_⟩
       dsimp only
       rw [hst, Us h, ← List.append_assoc]
       conv => whnf
       exact GOES.cA h0
     · have hnl : n.toNat < cl.length := by omega
       have hci := hc _ (List.getElem_mem hnl)
       have hI : I64 cl[n.toNat] := ⟨by omega, by omega⟩
       have hil := Zy hI
       have hg := JP hnl
       rw [WJ hc (by assumption) h hnl, ← List.append_assoc] at hst
       generalize cl[n.toNat] = c at hci hI hil hg hst ⊢
       repeat' ((first | with_reducible refine IF.tt ?_ | with_reducible refine IF.ff ?_ | (show DRAWN _ _ _ _ _ _ _; first | refine DRAWN.of (id := 14) Z2 mixed Yy (by kernel_rfl) ?_) | refine ADD.mk (fun _ _ => ?_) | refine AD ?_ | refine FORK.mk ?_ ?_ | refine CALL.value (Zn c hI) rfl rfl ?_ | (refine GET.at (row := ZK c) (by rw [Nat.zero_add]; exact hg) ?_; conv => whnf) | refine AU ?_ | (refine IW (fun h => ?_) (fun h => ?_) <;> try (exfalso; omega))) <;> conv => whnf)
       have hw : out.length + ([35] ++ itoa c).length ≤ 140737488355328 := by simp only [List.length_append, List.length_cons, List.length_nil]; omega
       refine CALL.aA [6] (Z1 out ([35] ++ itoa c) hw) ?_
       rintro r O' nx' ⟨rfl, rfl, rfl⟩
       clear hw
       repeat' ((first | with_reducible refine IF.tt ?_ | with_reducible refine IF.ff ?_ | (show DRAWN _ _ _ _ _ _ _; first | refine DRAWN.of (id := 14) Z2 mixed Yy (by kernel_rfl) ?_) | refine ADD.mk (fun _ _ => ?_) | refine AD ?_ | refine FORK.mk ?_ ?_ | refine AU ?_ | (refine IW (fun h => ?_) (fun h => ?_) <;> try (exfalso; omega))) <;> conv => whnf)
       have hw : (out ++ ([35] ++ itoa c)).length + ([32] : LB).length ≤ 140737488355328 := by simp only [List.length_append, List.length_cons, List.length_nil]; omega
       conv => whnf
       repeat' ((first | with_reducible refine IF.tt ?_ | with_reducible refine IF.ff ?_ | refine AU ?_ | (refine IW (fun h => ?_) (fun h => ?_) <;> try (exfalso; omega))) <;> conv => whnf)
       refine CALL.aA [6] (Z1 (out ++ ([35] ++ itoa c)) [32] hw) ?_
       rintro r O' nx' ⟨rfl, rfl, rfl⟩
       clear hw
       conv => whnf
       repeat' ((first | with_reducible refine IF.tt ?_ | with_reducible refine IF.ff ?_ | refine AU ?_ | (refine IW (fun h => ?_) (fun h => ?_) <;> try (exfalso; omega))) <;> conv => whnf)
       refine ⟨3, by omega, by omega, ?_⟩
       dsimp only
       rw [hst]
       conv => whnf
       exact GOES.cA h0
     · rw [Ut h] at hst
       have h1 := Yn (s := t.t) (N := N) (by omega) hN
       have h2 := Yn (s := t.y) (N := N) (by omega) hN
       have h3 := Yn (s := t.l) (N := N) (by omega) hN
       have hil := Zy ht1
       have hw1 : out.length + (Zh t.t).length ≤ 140737488355328 := by omega
       have hw2 : (out ++ Zh t.t).length + (Zh t.y).length ≤ 140737488355328 := by rw [List.length_append]; omega
       have hw3 : ((out ++ Zh t.t) ++ Zh t.y).length + (Zh t.l).length ≤ 140737488355328 := by rw [List.length_append, List.length_append]; omega
       have hI : I64 (t.t.length : Int) := ⟨by omega, by omega⟩
       have hq := Zy hI
       repeat' ((first | with_reducible refine IF.tt ?_ | with_reducible refine IF.ff ?_ | (refine LOOP.once Z2 ?_; conv => whnf) | refine CALL.value (Zn (t.t.length : Int) hI) rfl rfl ?_ | (refine NEED.mk (by simp; omega) ?_; conv => whnf) | refine AU ?_ | (refine IW (fun h => ?_) (fun h => ?_) <;> try (exfalso; omega))) <;> conv => whnf)
       clear hI hq
       refine CALL.aA [6] (Z1 (out) (Zh t.t) hw1) ?_
       rintro r O' nx' ⟨rfl, rfl, rfl⟩
       conv => whnf
       have hI : I64 (t.y.length : Int) := ⟨by omega, by omega⟩
       have hq := Zy hI
       repeat' ((first | with_reducible refine IF.tt ?_ | with_reducible refine IF.ff ?_ | (refine LOOP.once Z2 ?_; conv => whnf) | refine CALL.value (Zn (t.y.length : Int) hI) rfl rfl ?_ | (refine NEED.mk (by simp; omega) ?_; conv => whnf) | refine AU ?_ | (refine IW (fun h => ?_) (fun h => ?_) <;> try (exfalso; omega))) <;> conv => whnf)
       clear hI hq
       refine CALL.aA [6] (Z1 (out ++ Zh t.t) (Zh t.y) hw2) ?_
       rintro r O' nx' ⟨rfl, rfl, rfl⟩
       conv => whnf
       have hI : I64 (t.l.length : Int) := ⟨by omega, by omega⟩
       have hq := Zy hI
       repeat' ((first | with_reducible refine IF.tt ?_ | with_reducible refine IF.ff ?_ | (refine LOOP.once Z2 ?_; conv => whnf) | refine CALL.value (Zn (t.l.length : Int) hI) rfl rfl ?_ | (refine NEED.mk (by simp; omega) ?_; conv => whnf) | refine AU ?_ | (refine IW (fun h => ?_) (fun h => ?_) <;> try (exfalso; omega))) <;> conv => whnf)
       clear hI hq
       refine CALL.aA [6] (Z1 ((out ++ Zh t.t) ++ Zh t.y) (Zh t.l) hw3) ?_
       rintro r O' nx' ⟨rfl, rfl, rfl⟩
       conv => whnf
       repeat' ((first | with_reducible refine IF.tt ?_ | with_reducible refine IF.ff ?_ | (refine LOOP.once Z2 ?_; conv => whnf) | refine CALL.value (Zn t.k ht1) rfl rfl ?_ | refine AU ?_ | (refine IW (fun h => ?_) (fun h => ?_) <;> try (exfalso; omega))) <;> conv => whnf)
       have hw : (((out ++ Zh t.t) ++ Zh t.y) ++ Zh t.l).length + (itoa t.k).length ≤ 140737488355328 := by simp only [List.length_append]; omega
       refine CALL.aA [6] (Z1 (((out ++ Zh t.t) ++ Zh t.y) ++ Zh t.l) (itoa t.k) hw) ?_
       rintro r O' nx' ⟨rfl, rfl, rfl⟩
       clear hw
       have hw : ((((out ++ Zh t.t) ++ Zh t.y) ++ Zh t.l) ++ itoa t.k).length + ([32] : LB).length ≤ 140737488355328 := by simp only [List.length_append, List.length_cons, List.length_nil]; omega
       conv => whnf
       repeat' ((first | with_reducible refine IF.tt ?_ | with_reducible refine IF.ff ?_ | refine AU ?_ | (refine IW (fun h => ?_) (fun h => ?_) <;> try (exfalso; omega))) <;> conv => whnf)
       refine CALL.aA [6] (Z1 ((((out ++ Zh t.t) ++ Zh t.y) ++ Zh t.l) ++ itoa t.k) [32] hw) ?_
       rintro r O' nx' ⟨rfl, rfl, rfl⟩
       clear hw
       conv => whnf
       repeat' ((first | with_reducible refine IF.tt ?_ | with_reducible refine IF.ff ?_ | refine AU ?_ | (refine IW (fun h => ?_) (fun h => ?_) <;> try (exfalso; omega))) <;> conv => whnf)
       refine ⟨3, by omega, by omega, ?_⟩
       dsimp only
       rw [hst]
       conv => whnf
       exact GOES.cA h0
   · have hst : preS cl x s 4 = preS cl x s 3 ++ Jr (seeM cl x s.d s.q.g) := by simp [preS, Z10]
     have hol := Z11 (x := x) hs hN hc (k := 3) (by omega)
     obtain ⟨hn0, hn1⟩ := hs.d
     obtain ⟨ht0, ht1⟩ := hs.tg
     generalize preS cl x s 3 = out at hst hol ⊢
     generalize s.d = n at hst hn0 hn1 ⊢
     generalize s.q.g = t at hst ht0 ht1 ⊢
     conv => whnf
     repeat' ((first | with_reducible refine IF.tt ?_ | with_reducible refine IF.ff ?_ | refine AU ?_ | (refine IW (fun h => ?_) (fun h => ?_) <;> try (exfalso; omega))) <;> conv => whnf)
     · have hw : out.length + ([64] : LB).length ≤ 140737488355328 := by simp only [List.length_cons, List.length_nil]; omega
       refine CALL.aA [6] (Z1 out [64] hw) ?_
       rintro r O' nx' ⟨rfl, rfl, rfl⟩
       clear hw
       have hw : (out ++ [64]).length + ([32] : LB).length ≤ 140737488355328 := by simp only [List.length_append, List.length_cons, List.length_nil]; omega
       conv => whnf
       repeat' ((first | with_reducible refine IF.tt ?_ | with_reducible refine IF.ff ?_ | refine AU ?_ | (refine IW (fun h => ?_) (fun h => ?_) <;> try (exfalso; omega))) <;> conv => whnf)
       refine CALL.aA [6] (Z1 (out ++ [64]) [32] hw) ?_
       rintro r O' nx' ⟨rfl, rfl, rfl⟩
       clear hw
       conv => whnf
       repeat' ((first | with_reducible refine IF.tt ?_ | with_reducible refine IF.ff ?_ | refine AU ?_ | (refine IW (fun h => ?_) (fun h => ?_) <;> try (exfalso; omega))) <;> conv => whnf)
       refine ⟨4, by omega, by omega, ?_⟩
       dsimp only
       rw [hst, Us h, ← List.append_assoc]
       conv => whnf
       exact GOES.cA h0
     · have hnl : n.toNat < cl.length := by omega
       have hci := hc _ (List.getElem_mem hnl)
       have hI : I64 cl[n.toNat] := ⟨by omega, by omega⟩
       have hil := Zy hI
       have hg := JP hnl
       rw [WJ hc (by assumption) h hnl, ← List.append_assoc] at hst
       generalize cl[n.toNat] = c at hci hI hil hg hst ⊢
       repeat' ((first | with_reducible refine IF.tt ?_ | with_reducible refine IF.ff ?_ | (show DRAWN _ _ _ _ _ _ _; first | refine DRAWN.of (id := 14) Z2 mixed Yy (by kernel_rfl) ?_) | refine ADD.mk (fun _ _ => ?_) | refine AD ?_ | refine FORK.mk ?_ ?_ | refine CALL.value (Zn c hI) rfl rfl ?_ | (refine GET.at (row := ZK c) (by rw [Nat.zero_add]; exact hg) ?_; conv => whnf) | refine AU ?_ | (refine IW (fun h => ?_) (fun h => ?_) <;> try (exfalso; omega))) <;> conv => whnf)
       have hw : out.length + ([35] ++ itoa c).length ≤ 140737488355328 := by simp only [List.length_append, List.length_cons, List.length_nil]; omega
       refine CALL.aA [6] (Z1 out ([35] ++ itoa c) hw) ?_
       rintro r O' nx' ⟨rfl, rfl, rfl⟩
       clear hw
       repeat' ((first | with_reducible refine IF.tt ?_ | with_reducible refine IF.ff ?_ | (show DRAWN _ _ _ _ _ _ _; first | refine DRAWN.of (id := 14) Z2 mixed Yy (by kernel_rfl) ?_) | refine ADD.mk (fun _ _ => ?_) | refine AD ?_ | refine FORK.mk ?_ ?_ | refine AU ?_ | (refine IW (fun h => ?_) (fun h => ?_) <;> try (exfalso; omega))) <;> conv => whnf)
       have hw : (out ++ ([35] ++ itoa c)).length + ([32] : LB).length ≤ 140737488355328 := by simp only [List.length_append, List.length_cons, List.length_nil]; omega
       conv => whnf
       repeat' ((first | with_reducible refine IF.tt ?_ | with_reducible refine IF.ff ?_ | refine AU ?_ | (refine IW (fun h => ?_) (fun h => ?_) <;> try (exfalso; omega))) <;> conv => whnf)
       refine CALL.aA [6] (Z1 (out ++ ([35] ++ itoa c)) [32] hw) ?_
       rintro r O' nx' ⟨rfl, rfl, rfl⟩
       clear hw
       conv => whnf
       repeat' ((first | with_reducible refine IF.tt ?_ | with_reducible refine IF.ff ?_ | refine AU ?_ | (refine IW (fun h => ?_) (fun h => ?_) <;> try (exfalso; omega))) <;> conv => whnf)
       refine ⟨4, by omega, by omega, ?_⟩
       dsimp only
       rw [hst]
       conv => whnf
       exact GOES.cA h0
     · rw [Ut h] at hst
       have h1 := Yn (s := t.t) (N := N) (by omega) hN
       have h2 := Yn (s := t.y) (N := N) (by omega) hN
       have h3 := Yn (s := t.l) (N := N) (by omega) hN
       have hil := Zy ht1
       have hw1 : out.length + (Zh t.t).length ≤ 140737488355328 := by omega
       have hw2 : (out ++ Zh t.t).length + (Zh t.y).length ≤ 140737488355328 := by rw [List.length_append]; omega
       have hw3 : ((out ++ Zh t.t) ++ Zh t.y).length + (Zh t.l).length ≤ 140737488355328 := by rw [List.length_append, List.length_append]; omega
       have hI : I64 (t.t.length : Int) := ⟨by omega, by omega⟩
       have hq := Zy hI
       repeat' ((first | with_reducible refine IF.tt ?_ | with_reducible refine IF.ff ?_ | (refine LOOP.once Z2 ?_; conv => whnf) | refine CALL.value (Zn (t.t.length : Int) hI) rfl rfl ?_ | (refine NEED.mk (by simp; omega) ?_; conv => whnf) | refine AU ?_ | (refine IW (fun h => ?_) (fun h => ?_) <;> try (exfalso; omega))) <;> conv => whnf)
       clear hI hq
       refine CALL.aA [6] (Z1 (out) (Zh t.t) hw1) ?_
       rintro r O' nx' ⟨rfl, rfl, rfl⟩
       conv => whnf
       have hI : I64 (t.y.length : Int) := ⟨by omega, by omega⟩
       have hq := Zy hI
       repeat' ((first | with_reducible refine IF.tt ?_ | with_reducible refine IF.ff ?_ | (refine LOOP.once Z2 ?_; conv => whnf) | refine CALL.value (Zn (t.y.length : Int) hI) rfl rfl ?_ | (refine NEED.mk (by simp; omega) ?_; conv => whnf) | refine AU ?_ | (refine IW (fun h => ?_) (fun h => ?_) <;> try (exfalso; omega))) <;> conv => whnf)
       clear hI hq
       refine CALL.aA [6] (Z1 (out ++ Zh t.t) (Zh t.y) hw2) ?_
       rintro r O' nx' ⟨rfl, rfl, rfl⟩
       conv => whnf
       have hI : I64 (t.l.length : Int) := ⟨by omega, by omega⟩
       have hq := Zy hI
       repeat' ((first | with_reducible refine IF.tt ?_ | with_reducible refine IF.ff ?_ | (refine LOOP.once Z2 ?_; conv => whnf) | refine CALL.value (Zn (t.l.length : Int) hI) rfl rfl ?_ | (refine NEED.mk (by simp; omega) ?_; conv => whnf) | refine AU ?_ | (refine IW (fun h => ?_) (fun h => ?_) <;> try (exfalso; omega))) <;> conv => whnf)
       clear hI hq
       refine CALL.aA [6] (Z1 ((out ++ Zh t.t) ++ Zh t.y) (Zh t.l) hw3) ?_
       rintro r O' nx' ⟨rfl, rfl, rfl⟩
       conv => whnf
       repeat' ((first | with_reducible refine IF.tt ?_ | with_reducible refine IF.ff ?_ | (refine LOOP.once Z2 ?_; conv => whnf) | refine CALL.value (Zn t.k ht1) rfl rfl ?_ | refine AU ?_ | (refine IW (fun h => ?_) (fun h => ?_) <;> try (exfalso; omega))) <;> conv => whnf)
       have hw : (((out ++ Zh t.t) ++ Zh t.y) ++ Zh t.l).length + (itoa t.k).length ≤ 140737488355328 := by simp only [List.length_append]; omega
       refine CALL.aA [6] (Z1 (((out ++ Zh t.t) ++ Zh t.y) ++ Zh t.l) (itoa t.k) hw) ?_
       rintro r O' nx' ⟨rfl, rfl, rfl⟩
       clear hw
       have hw : ((((out ++ Zh t.t) ++ Zh t.y) ++ Zh t.l) ++ itoa t.k).length + ([32] : LB).length ≤ 140737488355328 := by simp only [List.length_append, List.length_cons, List.length_nil]; omega
       conv => whnf
       repeat' ((first | with_reducible refine IF.tt ?_ | with_reducible refine IF.ff ?_ | refine AU ?_ | (refine IW (fun h => ?_) (fun h => ?_) <;> try (exfalso; omega))) <;> conv => whnf)
       refine CALL.aA [6] (Z1 ((((out ++ Zh t.t) ++ Zh t.y) ++ Zh t.l) ++ itoa t.k) [32] hw) ?_
       rintro r O' nx' ⟨rfl, rfl, rfl⟩
       clear hw
       conv => whnf
       repeat' ((first | with_reducible refine IF.tt ?_ | with_reducible refine IF.ff ?_ | refine AU ?_ | (refine IW (fun h => ?_) (fun h => ?_) <;> try (exfalso; omega))) <;> conv => whnf)
       refine ⟨4, by omega, by omega, ?_⟩
       dsimp only
       rw [hst]
       conv => whnf
       exact GOES.cA h0
 · have hk : k = 4 := by simp at h; omega
   subst hk
   rw [Z86]
   conv => whnf
   repeat' ((first | with_reducible refine IF.tt ?_ | with_reducible refine IF.ff ?_ | refine AU ?_ | (refine IW (fun h => ?_) (fun h => ?_) <;> try (exfalso; omega))) <;> conv => whnf)
   refine CALL.aA [6] (Z0Z (YK (sgM cl x s))) ?_
   rintro r O' nx' ⟨rfl, rfl, rfl⟩
   conv => whnf
   exact FIN.valueK h0 rfl rfl
end Go.Proofs.YtbfbokdccdagkaaGreatDoor
namespace Go.Proofs.YtbfbokdccdagkaaGreatDoor
open Go.Sx Go.Our Go.Lib
def lenS (l : List LB) : Nat := (l.map List.length).sum
theorem Z12 {l : List LB} {i : Nat} (h : i < l.length) : lenS (l.take (i + 1)) = lenS (l.take i) + l[i].length := by
 unfold lenS; rw [List.take_succ_eq_append_getElem h, List.map_append, List.sum_append_nat]; rfl
theorem Z13 (l : List LB) (i : Nat) : lenS (l.take i) ≤ lenS l := by
 have : lenS l = lenS (l.take i) + lenS (l.drop i) := by unfold lenS; rw [← List.sum_append_nat, ← List.map_append, List.take_append_drop]
 omega
theorem Z2G (l : List LB) : (Jd l).length = l.length + lenS l := by
 induction l with
 | nil => rfl
 | cons a l ih => simp only [Jd, List.length_cons, List.length_append, ih, lenS, List.map_cons, List.sum_cons]; omega
theorem Z88 {l : List LB} {i : Nat} (h : i < l.length) : Jd (l.take (i + 1)) = (Jd (l.take i) ++ [10]) ++ l[i] := by
 rw [List.take_succ_eq_append_getElem h]
 generalize l.take i = m
 induction m with
 | nil => simp [Jd]
 | cons a m ih => simp [Jd, ih]
theorem Z9p {n : Nat} (h1 : 2 ≤ n) (h2 : n ≤ 35184372088832) : 1 < IntKind.i64.wrap (Int.tdiv 9223372036854775807 ((n : Int) - 1)) := by
 have e : ((n : Int) - 1) = ((n - 1 : Nat) : Int) := by omega
 rw [e, show (9223372036854775807 : Int) = ((9223372036854775807 : Nat) : Int) from rfl, ← Int.ofNat_tdiv]
 have h3 : 2 ≤ 9223372036854775807 / (n - 1) := by rw [Nat.le_div_iff_mul_le (by omega)]; omega
 have h4 : 9223372036854775807 / (n - 1) ≤ 9223372036854775807 := Nat.div_le_self _ _
 rw [Z8 (by omega) (by omega)]
 omega
set_option maxHeartbeats 4000000 in
theorem Z89 (l : List LB) (hl : (Jd l).length ≤ 35184372088832) :
   Does Tryz.prog tab 99 1 [.sl (.loc 0) 0 1 l.length none, .str [10]] [] [(0, .rows 1 (l.map Z6))] (ValK 1 (.str (VB l))) := by
 rw [Z2G] at hl
 by_cases h0' : l = []
 · subst h0'
   refine Does.enter Z2 (g := 99) (fn := Tryz.f99) Tryz.call99 Tryz.func99 rfl 75 rfl rfl [.tmp 4] rfl ?_
   intro w0 F η0 h0
   conv => whnf
   repeat' ((first | with_reducible refine IF.tt ?_ | with_reducible refine IF.ff ?_ | refine AU ?_ | (refine IW (fun h => ?_) (fun h => ?_) <;> try (exfalso; omega))) <;> conv => whnf)
   exact FIN.valueK h0 rfl rfl
 by_cases h1' : l.length = 1
 · obtain ⟨a, rfl⟩ := List.length_eq_one_iff.1 h1'
   refine Does.enter Z2 (g := 99) (fn := Tryz.f99) Tryz.call99 Tryz.func99 rfl 75 rfl rfl [.tmp 4] rfl ?_
   intro w0 F η0 h0
   conv => whnf
   repeat' ((first | with_reducible refine IF.tt ?_ | with_reducible refine IF.ff ?_ | (refine GET.at (row := Z6 a) rfl ?_; conv => whnf) | refine AU ?_ | (refine IW (fun h => ?_) (fun h => ?_) <;> try (exfalso; omega))) <;> conv => whnf)
   exact FIN.valueK h0 rfl (congrArg SV.str (by simp [VB, Jd]))
 have h2 : 2 ≤ l.length := by
   have := List.length_pos_iff.2 h0'
   omega
 have hq := Z9p h2 (by omega)
 have hlt0 : 0 < l.length := by omega
 have hg0 := Z13 l 1
 rw [Z12 hlt0, show lenS (l.take 0) = 0 from rfl] at hg0
 refine Does.enter Z2 (g := 99) (fn := Tryz.f99) Tryz.call99 Tryz.func99 rfl 75 rfl rfl [.tmp 4] rfl ?_
 intro w0 F η0 h0
 conv => whnf
 repeat' ((first | with_reducible refine IF.tt ?_ | with_reducible refine IF.ff ?_ | refine AU ?_ | (refine IW (fun h => ?_) (fun h => ?_) <;> try (exfalso; omega))) <;> conv => whnf)
 refine LOOP.go Z2 [0, 1, 39, 40] (X := Nat) (fun i => i ≤ l.length) (fun i => [(41, .int .i64 (i : Int)), (5, .int .i64 ((l.length : Int) - 1 + (lenS (l.take i) : Int)))]) (fun _ => []) 1 (fun i => l.length - i) 0 (by omega) ?_
 conv => whnf
 refine ⟨by rw [show lenS (l.take 0) = 0 from rfl]; exact GOES.cA h0, ?_⟩
 intro i hi
 have hle := Z13 l i
 conv => whnf
 by_cases hil : i < l.length
 · have hst := Z12 hil
   have hle2 := Z13 l (i + 1)
   repeat' ((first | with_reducible refine IF.tt ?_ | with_reducible refine IF.ff ?_ | (refine GET.at (row := Z6 l[i]) (Zq hil (by omega)) ?_; conv => whnf) | refine AU ?_ | (refine IW (fun h => ?_) (fun h => ?_) <;> try (exfalso; omega))) <;> conv => whnf)
   refine ⟨i + 1, by omega, by omega, ?_⟩
   rw [hst]
   conv => whnf
   exact GOES.cA h0
 · have hie : i = l.length := by omega
   subst hie
   rw [List.take_length]
   have hn : ((l.length : Int) - 1 + (lenS l : Int)) = ((l.length - 1 + lenS l : Nat) : Int) := by omega
   rw [hn]
   conv => whnf
   repeat' ((first | with_reducible refine IF.tt ?_ | with_reducible refine IF.ff ?_ | refine AU ?_ | (refine IW (fun h => ?_) (fun h => ?_) <;> try (exfalso; omega))) <;> conv => whnf)
   refine CALL.aA [1] (Z87 (l.length - 1 + lenS l) (by omega)) ?_
   rintro r O' nx' ⟨rfl, rfl, rfl⟩
   conv => whnf
   repeat' ((first | with_reducible refine IF.tt ?_ | with_reducible refine IF.ff ?_ | (refine GET.at (row := Z6 l[0]) (Zq hlt0 rfl) ?_; conv => whnf) | refine AU ?_ | (refine IW (fun h => ?_) (fun h => ?_) <;> try (exfalso; omega))) <;> conv => whnf)
   have hw : ([] : LB).length + l[0].length ≤ 140737488355328 := by simp only [List.length_nil]; omega
   refine CALL.aA [1] (Z1 [] l[0] hw) ?_
   rintro r O' nx' ⟨rfl, rfl, rfl⟩
   clear hw
   conv => whnf
   repeat' ((first | with_reducible refine IF.tt ?_ | with_reducible refine IF.ff ?_ | refine AU ?_ | (refine IW (fun h => ?_) (fun h => ?_) <;> try (exfalso; omega))) <;> conv => whnf)
   have hm : l.tail.length = l.length - 1 := List.length_tail
   have hml : l[0].length + lenS l.tail ≤ lenS l := by
     obtain ⟨a, m, rfl⟩ := List.exists_cons_of_ne_nil h0'
     simp [lenS]
   refine LOOP.gok Z2 [1, 8, 63, 64] [] (X := Nat) (fun i => i ≤ l.tail.length) (fun i => [(65, .int .i64 (i : Int))]) (fun i => [(1, .bld TB TU (l[0] ++ Jd (l.tail.take i)))]) 2 (fun i => l.tail.length - i) 0 (by omega) ?_
   conv => whnf
   refine ⟨by rw [show l[0] ++ Jd (l.tail.take 0) = [] ++ l[0] by simp [Jd]]; exact GOES.cA h0, ?_⟩
   intro i hi
   have hti := Z2G (l.tail.take i)
   have htl := Z13 l.tail i
   rw [List.length_take] at hti
   conv => whnf
   by_cases hil : i < l.tail.length
   · have hst := Z88 hil
     have hile := Z13 l.tail (i + 1)
     rw [Z12 hil] at hile
     have hg : (l.map Z6)[i + 1]? = some (Z6 l.tail[i]) := by
       rw [List.getElem?_map, List.getElem_tail, List.getElem?_eq_getElem (by omega)]; rfl
     generalize Jd (l.tail.take i) = out at hst hti ⊢
     generalize l.tail[i] = s at hst hile hg
     generalize l[0] = a at hml hst ⊢
     repeat' ((first | with_reducible refine IF.tt ?_ | with_reducible refine IF.ff ?_ | (refine GET.at (row := Z6 s) (by rw [← hg]; congr 1; omega) ?_; conv => whnf) | refine AU ?_ | (refine IW (fun h => ?_) (fun h => ?_) <;> try (exfalso; omega))) <;> conv => whnf)
     have hw : (a ++ out).length + ([10] : LB).length ≤ 140737488355328 := by simp only [List.length_append, List.length_cons, List.length_nil]; omega
     refine CALL.aA [1] (Z1 (a ++ out) [10] hw) ?_
     rintro r O' nx' ⟨rfl, rfl, rfl⟩
     clear hw
     conv => whnf
     repeat' ((first | with_reducible refine IF.tt ?_ | with_reducible refine IF.ff ?_ | refine AU ?_ | (refine IW (fun h => ?_) (fun h => ?_) <;> try (exfalso; omega))) <;> conv => whnf)
     have hw : ((a ++ out) ++ [10]).length + s.length ≤ 140737488355328 := by simp only [List.length_append, List.length_cons, List.length_nil]; omega
     refine CALL.aA [1] (Z1 ((a ++ out) ++ [10]) s hw) ?_
     rintro r O' nx' ⟨rfl, rfl, rfl⟩
     clear hw
     conv => whnf
     repeat' ((first | with_reducible refine IF.tt ?_ | with_reducible refine IF.ff ?_ | refine AU ?_ | (refine IW (fun h => ?_) (fun h => ?_) <;> try (exfalso; omega))) <;> conv => whnf)
     refine ⟨i + 1, by omega, by omega, ?_⟩
     rw [hst, show a ++ ((out ++ [10]) ++ s) = ((a ++ out) ++ [10]) ++ s by simp]
     conv => whnf
     exact GOES.cA h0
   · have hie : i = l.tail.length := by omega
     subst hie
     rw [List.take_length]
     repeat' ((first | with_reducible refine IF.tt ?_ | with_reducible refine IF.ff ?_ | refine AU ?_ | (refine IW (fun h => ?_) (fun h => ?_) <;> try (exfalso; omega))) <;> conv => whnf)
     refine CALL.aA [1] (Z0Z (l[0] ++ Jd l.tail)) ?_
     rintro r O' nx' ⟨rfl, rfl, rfl⟩
     conv => whnf
     refine FIN.valueK h0 rfl (congrArg SV.str ?_)
     obtain ⟨a, m, rfl⟩ := List.exists_cons_of_ne_nil h0'
     rfl
def Z4w : Plan := (ZB [(0, 1), (2, 1), (3, 1), (4, 1), (1, 2), (5, 2), (6, 1), (7, 1)])
def Yt (cl : List Int) (ins : List (List Sd)) : List LB := (List.range cl.length).map (keyM cl ins)
theorem WK (cl : List Int) (ins : List (List Sd)) : (Yt cl ins).length = cl.length := by simp [Yt]
theorem Z5s {cl : List Int} {ins : List (List Sd)} {x : Nat} (h : x < (Yt cl ins).length) : (Yt cl ins)[x] = keyM cl ins x := by simp [Yt]
theorem Z8b {b : Int} {A B : List LB} : ∀ {i : Nat}, i ≤ A.length → Js b (A ++ B) i = Js b A i
 | 0, _ => rfl
 | i + 1, h => by
   rw [Vw (show i < (A ++ B).length by rw [List.length_append]; omega), Vw (show i < A.length by omega), Z8b (by omega), List.getElem_append_left]
theorem Z9q {b : Int} {A : List LB} {k : LB} : Js b (A ++ [k]) (A ++ [k]).length = setA k (b + A.length) (Js b A A.length) := by
 rw [show (A ++ [k]).length = A.length + 1 by simp, Vw (by simp), Z8b (Nat.le_refl _)]
 simp
theorem Z4x {b : Int} {A : List LB} (hn : A.Nodup) : ∀ {i : Nat}, i ≤ A.length → (Js b A i).length = i
 | 0, _ => rfl
 | i + 1, h => by
   rw [Vw (by omega), Z0S]
   · rw [List.length_append, Z4x hn (by omega)]; rfl
   · have hg := Z2H (b := b) hn i A[i] (by omega)
     rw [hn.idxOf_getElem i (by omega), dif_neg (by omega)] at hg
     cases hx : ixA A[i] (Js b A i) with
     | none => rfl
     | some p => obtain ⟨j, v⟩ := p; rw [Wz hx] at hg; cases hg
def Je (ks : List LB) (n x : Nat) : List Int := (Yj ks).take x ++ List.replicate (n - x) 0
theorem WL {ks : List LB} {n x : Nat} {v : Int} (hk : ks.length = n) (hx : x < n) (hv : (Yj ks)[x]? = some v) : (Je ks n x).set x v = Je ks n (x + 1) := by
 have hl : ((Yj ks).take x).length = x := by rw [List.length_take, Xi]; omega
 unfold Je
 rw [List.set_append_right _ _ (by omega), hl, Nat.sub_self, show n - x = (n - (x + 1)) + 1 by omega, List.replicate_succ, List.set_cons_zero]
 have hx2 : x < (Yj ks).length := by rw [Xi]; omega
 rw [List.take_succ_eq_append_getElem hx2, List.append_assoc]
 rw [List.getElem?_eq_getElem hx2] at hv
 injection hv with hv
 rw [hv]; rfl
theorem Z5t {ks : List LB} {n x : Nat} (hk : ks.length = n) (hx : x ≤ n) : (Je ks n x).length = n := by
 unfold Je; rw [List.length_append, List.length_take, List.length_replicate, Xi]; omega
theorem Z5u {ks : List LB} {n : Nat} (hk : ks.length = n) : Je ks n n = Yj ks := by
 unfold Je; rw [Nat.sub_self, List.replicate_zero, List.append_nil, List.take_of_length_le (by rw [Xi]; omega)]
theorem Z6o {l : List LB} {B : Nat} (h : ∀ x ∈ l, x.length ≤ B) : lenS l ≤ l.length * B := by
 induction l with
 | nil => simp [lenS]
 | cons a l ih =>
   have h1 := h a (List.mem_cons_self ..)
   have h2 := ih fun x hx => h x (List.mem_cons_of_mem _ hx)
   simp only [lenS, List.map_cons, List.sum_cons, List.length_cons] at h2 ⊢
   rw [Nat.add_mul]; omega
theorem Z8c {cl : List Int} {x : Nat} {s : Sd} {N : Nat} (hs : SdOK N cl.length s) (hN : N ≤ 1099511627776) (hc : ∀ c ∈ cl, 0 ≤ c ∧ c < 4611686018427387904) : (YK (sgM cl x s)).length ≤ 4 * (N + 91) := by
 rw [← Z86]; exact Z11 hs hN hc (Nat.le_refl _)
structure WOK (cl : List Int) (ins : List (List Sd)) : Prop where
 len : ins.length = cl.length
 cs : ∀ c ∈ cl, 0 ≤ c ∧ c < 67108864
 sd : ∀ l ∈ ins, ∀ s ∈ l, SdOK 1048576 cl.length s
 few : ∀ l ∈ ins, l.length ≤ 1048576
 n : cl.length ≤ 67108864
theorem Z8d {cl : List Int} {ins : List (List Sd)} (h : WOK cl ins) {x : Nat} (hx : x < ins.length) : (Xv cl ins x).length = ins[x].length ∧ (Jd (Xv cl ins x)).length ≤ 35184372088832 := by
 have hl : (Xv cl ins x).length = ins[x].length := by
   unfold Xv ZL
   rw [List.length_mergeSort, List.length_map, List.length_map, List.getD_eq_getElem?_getD, List.getElem?_eq_getElem hx, Option.getD_some]
 refine ⟨hl, ?_⟩
 rw [Z2G, hl]
 have hb := Z6o (l := Xv cl ins x) (B := 4194668) (fun t ht => by
   have ht : t ∈ (ZL cl ins x).map YK := (List.mergeSort_perm _ _).mem_iff.1 ht
   obtain ⟨s, hs, rfl⟩ := List.mem_map.1 ht
   unfold ZL at hs
   rw [List.getD_eq_getElem?_getD, List.getElem?_eq_getElem hx, Option.getD_some] at hs
   obtain ⟨d, hd, rfl⟩ := List.mem_map.1 hs
   exact Z8c (N := 1048576) (h.sd _ (List.getElem_mem hx) d hd) (by omega) (fun c hc => ⟨(h.cs c hc).1, by have := (h.cs c hc).2; omega⟩))
 rw [hl] at hb
 have := h.few _ (List.getElem_mem hx)
 omega
theorem Z9r {ins : List (List Sd)} {x k : Nat} (h : x < ins.length) (hk : k = x) : Wf (inD ins) k 0 = some (k, .kid 20 (ins[x].map Jc)) := by
 subst hk; unfold Wf; rw [YS h]; rfl
theorem Z3N {l : List Int} {k x : Nat} {v : Int} (hk : k = x) : (l.map ZK).set k [.int .i64 v] = (l.set x v).map ZK := by
 subst hk; exact Z2k ZK l k v
theorem Z4y {ins : List (List Sd)} {x k : Nat} {sv : SV} (h : x < ins.length) (hk : k = x) : ((inD ins).modify k fun row => row.set 0 (DC.v sv))[x]? = some [.v sv] := by
 subst hk
 show (setC _ _ _ _)[k]? = _
 rw [Zt, if_pos rfl, YS h]; rfl
theorem Z4z {ins : List (List Sd)} {x k : Nat} {sv : SV} (h : x < ins.length) (hk : k = x) : setC ((inD ins).modify k fun row => row.set 0 (DC.v sv)) x 0 (.kid 20 ((ins[x].map Jc).take ins[x].length)) = inD ins := by
 subst hk
 show setC (setC _ _ _ _) _ _ _ = _
 rw [setC_setC, List.take_of_length_le (by rw [List.length_map]; exact Nat.le_refl _)]
 apply List.ext_getElem?
 intro a
 rw [Zt]
 by_cases ha : a = k
 · subst ha; rw [if_pos rfl, YS h]; rfl
 · rw [if_neg ha]
set_option maxHeartbeats 4000000 in
theorem Z4A (cl : List Int) (ins : List (List Sd)) (nl ng : Nat) (ct : Int) (h : WOK cl ins) :
   Does Tryz.prog tab 69 5 [.ptr (.loc 0) 0 0 0] [(0, wBx 2 nl cl.length ins.length ng ct), (2, .rows 1 (cl.map ZK)), (3, .deep false 1 (inD ins))] []
   (fun r O nx => r = .bool (decide (ct < ((Zm (Yt cl ins)).length : Int))) ∧ O = [(0, wBx 5 nl cl.length ins.length ng (Zm (Yt cl ins)).length), (3, .deep false 1 (inD ins)), (5, .rows 1 ((Yj (Yt cl ins)).map ZK))] ∧ nx = 6) := by
 have hln := h.len
 have hn := h.n
 have hkl := WK cl ins
 obtain ⟨ks, hks⟩ : ∃ ks, ks = Yt cl ins := ⟨_, rfl⟩
 rw [← hks] at hkl ⊢
 have hz : (Je ks cl.length 0).map ZK = List.replicate (cl.length : Int).toNat [SV.int .i64 0] := by
   unfold Je; rw [List.take_zero, List.nil_append, List.map_replicate, Nat.sub_zero, Int.toNat_natCast]; rfl
 refine Does.enter Z2 (g := 69) (fn := Tryz.f69) Tryz.call69 Tryz.func69 rfl 97 rfl rfl [.tmp 2] rfl ?_
 intro w0 F η0 h0
 conv => whnf
 repeat' ((first | with_reducible refine IF.tt ?_ | with_reducible refine IF.ff ?_ | (refine NEED.mk (VY 8 rfl (by omega) (by omega) (by omega) (by omega)) ?_; conv => whnf) | refine AU ?_ | (refine IW (fun h => ?_) (fun h => ?_) <;> try (exfalso; omega))) <;> conv => whnf)
 rw [← hz]
 refine LOOP.gok Z2 [0, 3, 4, 24] [0, 2, 3] (X := Nat) (fun x => x ≤ cl.length) (fun x => [(25, .int .i64 (x : Int))]) (fun x => [(5, .mp (numT (Js 0 (Zm (ks.take x)) (Zm (ks.take x)).length))), (6, .rows 1 ((Je ks cl.length x).map ZK))]) 7 (fun x => cl.length - x) 0 (by omega) ?_
 conv => whnf
 refine ⟨by exact GOES.kA h0 [5, 6], ?_⟩
 intro x hx
 conv => whnf
 refine IF.mk (fun h1 => ?_) (fun h1 => ?_)
 · have hlt : x < cl.length := by simp at h1; omega
   have hxi : x < ins.length := by omega
   conv => whnf
   repeat' ((first | with_reducible refine IF.tt ?_ | with_reducible refine IF.ff ?_ | (refine FINDD.at (Z9r hxi (by omega)) ?_; conv => whnf) | refine AU ?_ | (refine IW (fun h => ?_) (fun h => ?_) <;> try (exfalso; omega))) <;> conv => whnf)
   rw [List.length_map]
   have hfew := h.few _ (List.getElem_mem hxi)
   have hsd := h.sd _ (List.getElem_mem hxi)
   have htx := Z8d h hxi
   have hsx : ZL cl ins x = ins[x].map (sgM cl x) := by unfold ZL; rw [List.getD_eq_getElem?_getD, List.getElem?_eq_getElem hxi, Option.getD_some]
   obtain ⟨T, hT⟩ : ∃ T, T = (ZL cl ins x).map YK := ⟨_, rfl⟩
   have hTl : T.length = ins[x].length := by rw [hT, hsx]; simp
   have hTi : ∀ (i : Nat) (hi : i < T.length), T[i] = YK (sgM cl x (ins[x][i]'(by omega))) := fun i hi => by subst hT; simp [hsx]
   refine LOOP.nil 6 1 rfl ?_
   refine LOOP.gok Z2 [0, 3, 4, 5, 24, 25, 34, 35] [0, 2, 3, 5, 6, 7] (X := Nat) (fun i => i ≤ ins[x].length) (fun i => [(36, .int .i64 (i : Int)), (6, .sl (.loc 8) 0 1 i none)]) (fun i => [(8, .rows 1 ((T.take i).map Z6))]) 9 (fun i => ins[x].length - i) 0 (by omega) ?_
   conv => whnf
   refine ⟨by exact GOES.cA h0, ?_⟩
   intro i hi
   have hti : (T.take i).length = i := by rw [List.length_take]; omega
   conv => whnf
   refine IF.mk (fun h2 => ?_) (fun h2 => ?_)
   · have hil : i < ins[x].length := by simp at h2; omega
     have hsi := hsd _ (List.getElem_mem hil)
     have hsg := Z6m cl x ins[x][i] 1048576 hsi (by omega) (fun c hc => ⟨(h.cs c hc).1, by have := (h.cs c hc).2; omega⟩) (by omega) nl ins.length ng ct
     rw [← hTi i (by omega)] at hsg
     conv => whnf
     repeat' ((first | with_reducible refine IF.tt ?_ | with_reducible refine IF.ff ?_ | (refine GET.at (row := Jc ins[x][i]) (Zq hil (by omega)) ?_; conv => whnf) | refine AU ?_ | (refine IW (fun h => ?_) (fun h => ?_) <;> try (exfalso; omega))) <;> conv => whnf)
     refine CALL.aA [0, 1, 2, 3, 4] (hsg) ?_
     rintro r O nx ⟨rfl, rfl, rfl⟩
     conv => whnf
     repeat' ((first | with_reducible refine IF.tt ?_ | with_reducible refine IF.ff ?_ | (refine NEED.mk (Zu 16 rfl rfl rfl (by rw [List.length_map, hti]; exact Nat.le_refl _) (by omega)) ?_; conv => whnf) | refine AU ?_ | (refine IW (fun h => ?_) (fun h => ?_) <;> try (exfalso; omega))) <;> conv => whnf)
     rw [Z8a T (by omega)]
     refine ⟨i + 1, by omega, by omega, ?_⟩
     conv => whnf
     exact GOES.kA h0 [5, 6, 7, 11]
   · have hie : i = T.length := by simp at h2; omega
     subst hie
     rw [List.take_length]
     conv => whnf
     repeat' ((first | with_reducible refine IF.tt ?_ | with_reducible refine IF.ff ?_ | refine AU ?_ | (refine IW (fun h => ?_) (fun h => ?_) <;> try (exfalso; omega))) <;> conv => whnf)
     refine CALL.aA [8] (Z1M T (by omega)) ?_
     rintro r O nx ⟨rfl, rfl, rfl⟩
     have hXe : T.mergeSort (leC Our.cmpL) = Xv cl ins x := by rw [hT]; rfl
     rw [hXe]
     have hXl : (Xv cl ins x).length = T.length := by omega
     rw [← hXl]
     have hci := h.cs _ (List.getElem_mem hlt)
     have hI : I64 cl[x] := ⟨by omega, by omega⟩
     have hil := Zy hI
     have hkx : ks[x]'(by omega) = (itoa cl[x] ++ [10]) ++ VB (Xv cl ins x) := by
       subst hks; rw [Z5s]; unfold keyM
       rw [List.getD_eq_getElem?_getD, List.getElem?_eq_getElem hlt, Option.getD_some]; simp
     have hjn := Z89 (Xv cl ins x) htx.2
     have hjl : (VB (Xv cl ins x)).length ≤ 35184372088832 := by
       have := htx.2
       revert this
       cases Xv cl ins x with
       | nil => simp [VB]
       | cons a l => simp only [VB, Jd, List.length_cons, List.length_append]; omega
     generalize Xv cl ins x = X at hkx hjn hjl hXl ⊢
     conv => whnf
     repeat' ((first | with_reducible refine IF.tt ?_ | with_reducible refine IF.ff ?_ | refine CALL.value (Zn cl[x] hI) rfl rfl ?_ | (refine GET.at (row := ZK cl[x]) (Zq hlt (by omega)) ?_; conv => whnf) | (refine NEED.mk (by simp; omega) ?_; conv => whnf) | refine AU ?_ | (refine IW (fun h => ?_) (fun h => ?_) <;> try (exfalso; omega))) <;> conv => whnf)
     refine CALL.aA [8] (hjn) ?_
     rintro r O nx ⟨rfl, rfl, rfl⟩
     conv => whnf
     repeat' ((first | with_reducible refine IF.tt ?_ | with_reducible refine IF.ff ?_ | (refine NEED.mk (by simp; omega) ?_; conv => whnf) | (refine NEED.mk ⟨KT.ok _, JK KT intV _⟩ ?_; conv => whnf) | refine AU ?_ | (refine IW (fun h => ?_) (fun h => ?_) <;> try (exfalso; omega))) <;> conv => whnf)
     have hkl2 : x < ks.length := by omega
     have hfs := Ya ks hkl2
     have hold := Z2D ks hkl2
     have hnew := WH ks hkl2
     have hFn := Vf ks x
     have hFl := Vv ks x
     rw [hkx] at hfs hold hnew
     generalize Zm (ks.take x) = F at hfs hold hnew hFn hFl ⊢
     have hg := Z2H (b := 0) hFn F.length ((itoa cl[x] ++ [10]) ++ VB X) (Nat.le_refl _)
     have hml : (numT (Js 0 F F.length)).length = F.length := by show (Vz KT intV _).length = _; unfold Vz; rw [List.length_map, Z4x hFn (Nat.le_refl _)]
     have hnx : x < (Je ks cl.length x).length := by rw [Z5t hkl hx]; exact hlt
     refine FIND.A KT intV ((itoa cl[x] ++ [10]) ++ VB X) (Js 0 F F.length) (fun i v hf => ?_) (fun hf => ?_)
     · have hm : (itoa cl[x] ++ [10]) ++ VB X ∈ F := by
         refine Decidable.byContradiction fun hm => ?_
         rw [Wz hf, dif_neg (by rw [List.idxOf_lt_length_iff]; exact hm)] at hg
         cases hg
       have hv := Wz hf
       rw [hg, dif_pos (List.idxOf_lt_length_of_mem hm)] at hv
       injection hv with hv
       rw [Int.zero_add] at hv
       have hset := WL hkl hlt (hold hm)
       rw [if_pos hm] at hfs
       subst hv
       conv => whnf
       repeat' ((first | with_reducible refine IF.tt ?_ | with_reducible refine IF.ff ?_ | (refine GET.at (row := ZK (Je ks cl.length x)[x]) (Zq hnx (by omega)) ?_; conv => whnf) | refine AU ?_ | (refine IW (fun h => ?_) (fun h => ?_) <;> try (exfalso; omega))) <;> conv => whnf)
       rw [Z3N (x := x) (by omega), hset]
       refine ⟨x + 1, by omega, by omega, ?_⟩
       rw [hfs]
       conv => whnf
       refine GOES.trans (GHO.goes (GHO.putk 3 x 0 7 rfl (Z4y hxi (by omega)) rfl rfl (by rw [List.length_map]; exact Nat.le_refl _) (by decide))) ?_
       rw [Z4z hxi (by omega)]
       exact GOES.kA h0 [5, 6]
     · have hm : (itoa cl[x] ++ [10]) ++ VB X ∉ F := fun hm => by
         rw [Z5i hf, dif_pos (List.idxOf_lt_length_of_mem hm)] at hg
         cases hg
       have hset := WL hkl hlt (hnew hm)
       rw [if_neg hm] at hfs
       have hsn := Z9q (b := 0) (A := F) (k := (itoa cl[x] ++ [10]) ++ VB X)
       rw [Int.zero_add] at hsn
       conv => whnf
       repeat' ((first | with_reducible refine IF.tt ?_ | with_reducible refine IF.ff ?_ | (refine NEED.mk ⟨KT.ok _, JK KT intV _⟩ ?_; conv => whnf) | (refine GET.at (row := ZK (Je ks cl.length x)[x]) (Zq hnx (by omega)) ?_; conv => whnf) | refine AU ?_ | (refine IW (fun h => ?_) (fun h => ?_) <;> try (exfalso; omega))) <;> conv => whnf)
       first | rw [Zal] | rw [Zam]
       rw [hml, ← hsn]
       rw [Z3N (x := x) (by omega), hset]
       refine ⟨x + 1, by omega, by omega, ?_⟩
       rw [hfs]
       conv => whnf
       refine GOES.trans (GHO.goes (GHO.putk 3 x 0 7 rfl (Z4y hxi (by omega)) rfl rfl (by rw [List.length_map]; exact Nat.le_refl _) (by decide))) ?_
       rw [Z4z hxi (by omega)]
       exact GOES.kA h0 [5, 6]
 · have hxe : x = cl.length := by simp at h1; omega
   subst hxe
   have hF : ks.take cl.length = ks := List.take_of_length_le (by omega)
   rw [Z5u hkl, hF]
   have hFn := Vf ks cl.length
   rw [hF] at hFn
   have hml : (numT (Js 0 (Zm ks) (Zm ks).length)).length = (Zm ks).length := by show (Vz KT intV _).length = _; unfold Vz; rw [List.length_map, Z4x hFn (Nat.le_refl _)]
   conv => whnf
   repeat' ((first | with_reducible refine IF.tt ?_ | with_reducible refine IF.ff ?_ | (show DRAWN _ _ _ _ _ _ _; first | refine DRAWN.of (id := 20) Z2 mixed Z4w (by kernel_rfl) ?_) | refine ADD.mk (fun _ _ => ?_) | refine AD ?_ | refine FORK.mk ?_ ?_ | refine AU ?_ | (refine IW (fun h => ?_) (fun h => ?_) <;> try (exfalso; omega))) <;> conv => whnf)
   rw [hml]
   refine FIN.aA h0 [6] (.bool (decide (ct < ((Zm ks).length : Int)))) [(0, wBx 5 nl cl.length ins.length ng (Zm ks).length), (3, .deep false 1 (inD ins)), (5, .rows 1 ((Yj ks).map ZK))] ⟨rfl, rfl, rfl⟩
inductive Settles (ins : List (List Sd)) : List Int → Int → List Int → Int → Prop
 | stop {cl : List Int} {ct : Int} (h : ¬ ct < ((Zm (Yt cl ins)).length : Int)) : Settles ins cl ct (Yj (Yt cl ins)) (Zm (Yt cl ins)).length
 | go {cl : List Int} {ct : Int} {F : List Int} {c : Int} (h : ct < ((Zm (Yt cl ins)).length : Int)) (k : Settles ins (Yj (Yt cl ins)) (Zm (Yt cl ins)).length F c) : Settles ins cl ct F c
theorem Settles.det {ins : List (List Sd)} {cl : List Int} {ct : Int} {F F' : List Int} {c c' : Int} (h : Settles ins cl ct F c) (h' : Settles ins cl ct F' c') : F' = F ∧ c' = c := by
 induction h with
 | stop hn => cases h' with
   | stop _ => exact ⟨rfl, rfl⟩
   | go hy _ => exact (hn hy).elim
 | go hy _ ih => cases h' with
   | stop hn => exact (hn hy).elim
   | go _ k => exact ih k
theorem WOK.next {cl : List Int} {ins : List (List Sd)} (h : WOK cl ins) : WOK (Yj (Yt cl ins)) ins ∧ (Yj (Yt cl ins)).length = cl.length ∧ (Zm (Yt cl ins)).length ≤ cl.length := by
 have hl : (Yj (Yt cl ins)).length = cl.length := by rw [Xi, WK]
 have hf := Vv (Yt cl ins) cl.length
 rw [List.take_of_length_le (by rw [WK]; exact Nat.le_refl _)] at hf
 have := h.n
 exact ⟨⟨by rw [hl]; exact h.len, fun c hc => by have := Z1S _ c hc; omega, by rw [hl]; exact h.sd, h.few, by omega⟩, hl, hf⟩
theorem Settles.ok {ins : List (List Sd)} {cl : List Int} {ct : Int} {F : List Int} {c : Int} (h : Settles ins cl ct F c) : WOK cl ins → WOK F ins ∧ F.length = cl.length ∧ (∀ x ∈ F, 0 ≤ x ∧ x < c) ∧ 0 ≤ c ∧ c ≤ (cl.length : Int) := by
 induction h with
 | stop _ => exact fun hw => ⟨hw.next.1, hw.next.2.1, fun x hx => Z1S _ x hx, by omega, by have := hw.next.2.2; omega⟩
 | go _ _ ih => exact fun hw => let ⟨a, b, c, d, e⟩ := ih hw.next.1; ⟨a, b.trans hw.next.2.1, c, d, by rw [hw.next.2.1] at e; exact e⟩
set_option maxHeartbeats 4000000 in
theorem Z4B (cl : List Int) (ins : List (List Sd)) (nl ng : Nat) (ct : Int) (h : WOK cl ins) (h0' : 0 ≤ ct) :
   Does Tryz.prog tab 38 5 [.ptr (.loc 0) 0 0 0] [(0, wBx 2 nl cl.length ins.length ng ct), (2, .rows 1 (cl.map ZK)), (3, .deep false 1 (inD ins))] []
   (fun r O nx => r = .tup [] ∧ ∃ F c, Settles ins cl ct F c ∧ O = [(0, wBx 5 nl cl.length ins.length ng c), (3, .deep false 1 (inD ins)), (5, .rows 1 (F.map ZK))] ∧ nx = 6) := by
 refine Does.enter Z2 (g := 38) (fn := Tryz.f38) Tryz.call38 Tryz.func38 rfl 4 rfl rfl [] rfl ?_
 intro w0 F η0 h0
 conv => whnf
 repeat' ((first | with_reducible refine IF.tt ?_ | with_reducible refine IF.ff ?_ | refine AU ?_ | (refine IW (fun h => ?_) (fun h => ?_) <;> try (exfalso; omega))) <;> conv => whnf)
 refine LOOP.gok Z2 [0] [3] (X := List Int × Int) (fun x => WOK x.1 ins ∧ x.1.length = cl.length ∧ 0 ≤ x.2 ∧ ∀ F c, Settles ins x.1 x.2 F c → Settles ins cl ct F c) (fun x => []) (fun x => [(0, wBx 5 nl cl.length ins.length ng x.2), (5, .rows 1 (x.1.map ZK))]) 6 (fun x => cl.length - x.2.toNat) (cl, ct) ⟨h, rfl, h0', fun F c hs => hs⟩ ?_
 conv => whnf
 refine ⟨by exact GOES.kA h0 [2], ?_⟩
 rintro ⟨C, k⟩ ⟨hW, hl, hk0, hS⟩
 dsimp only at hW hl hk0 hS ⊢
 have hsp := Z4A C ins nl ng k hW
 rw [hl] at hsp
 conv => whnf
 repeat' ((first | with_reducible refine IF.tt ?_ | with_reducible refine IF.ff ?_ | refine AU ?_ | (refine IW (fun h => ?_) (fun h => ?_) <;> try (exfalso; omega))) <;> conv => whnf)
 refine CALL.aA [0, 1, 5, 3, 4] (hsp) ?_
 rintro r O nx ⟨rfl, rfl, rfl⟩
 conv => whnf
 obtain ⟨hW2, hl2, hf2⟩ := hW.next
 refine IF.mk (fun h1 => ?_) (fun h1 => ?_)
 · have h1 : k < ((Zm (Yt C ins)).length : Int) := by simpa using h1
   conv => whnf
   refine ⟨(Yj (Yt C ins), ((Zm (Yt C ins)).length : Int)), ⟨hW2, by dsimp only; omega, by dsimp only; omega, fun F c hs => hS F c (.go h1 hs)⟩, by dsimp only; omega, ?_⟩
   dsimp only
   conv => whnf
   exact GOES.kA h0 [6]
 · have h1 : ¬ k < ((Zm (Yt C ins)).length : Int) := by simpa using h1
   conv => whnf
   refine FIN.aA h0 [6] (.tup []) [(0, wBx 5 nl cl.length ins.length ng (Zm (Yt C ins)).length), (3, .deep false 1 (inD ins)), (5, .rows 1 ((Yj (Yt C ins)).map ZK))] ⟨rfl, _, _, hS _ _ (.stop h1), rfl, rfl⟩
def Z8e : Plan := (ZB [(0, 1), (1, 1), (2, 1), (3, 1), (4, 1), (6, 1), (7, 1), (8, 1), (10, 1), (5, 2), (9, 2), (11, 1), (12, 2), (13, 3), (14, 0), (15, 1), (16, 0)])
def Z3O (l : List LB) : List DC := [.kid 1 (l.map Z6)]
def lbD (out : List (List LB)) : List (List DC) := out.map Z3O
theorem Z5v : ∀ out : List (List LB), Zw (lbD out) = true
 | [] => rfl
 | l :: out => by simp only [lbD, List.map_cons, Z3O, Zw, Yu, JT, Ze, Bool.and_self, Bool.true_and]; exact Z5v out
instance {out : List (List LB)} : PlD (lbD out) := ⟨Z5v out⟩
theorem Ju {out : List (List LB)} {i : Nat} (h : i < out.length) : (lbD out)[i]? = some (Z3O out[i]) := by unfold lbD; rw [List.getElem?_map, List.getElem?_eq_getElem h]; rfl
def putC (out : List (List LB)) (p : Int × LB) : List (List LB) := out.modify p.1.toNat (· ++ [p.2])
theorem WM (out : List (List LB)) (p : Int × LB) : (putC out p).length = out.length := by unfold putC; rw [List.length_modify]
theorem XR : ∀ (l : List (Int × LB)) (out : List (List LB)), (l.foldl putC out).length = out.length
 | [], _ => rfl
 | p :: l, out => by rw [List.foldl_cons, XR l, WM]
theorem Z6p {out : List (List LB)} {p : Int × LB} {N : Nat} (h : ∀ l ∈ out, l.length ≤ N) : ∀ l ∈ putC out p, l.length ≤ N + 1 := by
 intro l hl
 unfold putC at hl
 obtain ⟨i, hi, rfl⟩ := List.mem_iff_getElem.1 hl
 rw [List.getElem_modify]
 have := h _ (List.getElem_mem (by simpa using hi))
 split
 · simp only [List.length_append, List.length_singleton]; omega
 · omega
theorem JR : ∀ {l : List (Int × LB)} {N : Nat} {out : List (List LB)}, (∀ x ∈ out, x.length ≤ N) → ∀ x ∈ l.foldl putC out, x.length ≤ N + l.length
 | [], N, out, h => h
 | p :: l, N, out, h => fun x hx => by
   have := JR (l := l) (Z6p (p := p) h) x hx
   simp only [List.length_cons]; omega
def Ys (F : List Int) (A : List LB) (n : Nat) : List (List LB) := (F.zip A).foldl putC (List.replicate n [])
theorem Z3P {I : List (List LB)} {n : Int} {s : LB} {sv : SV} {rows : List (List SV)} {k i : Nat} (hn : n.toNat < I.length) (hi : i = n.toNat) (hr : rows.take k = (I[n.toNat] ++ [s]).map Z6) :
   ((setC (lbD I) n.toNat 0 (.v sv)).modify i fun row => row.set 0 (.kid 1 (rows.take k))) = lbD (putC I (n, s)) := by
 subst hi
 show setC _ _ _ _ = _
 rw [setC_setC, hr]
 apply List.ext_getElem?
 intro a
 rw [Zt]
 unfold lbD putC
 simp only [List.getElem?_map, List.getElem?_modify]
 by_cases ha : a = n.toNat
 · subst ha
   rw [if_pos rfl, List.getElem?_eq_getElem hn]
   simp [Z3O]
 · rw [if_neg ha]
   cases I[a]? <;> simp [Ne.symm ha]
theorem Z3Q (n : Nat) : Um (List.replicate n [SV.val (.slice none 0 0)]) (lbD (List.replicate n [])) := by
 refine ⟨by simp [lbD], fun a row' h => ?_⟩
 unfold lbD at h
 rw [List.map_replicate] at h
 obtain ⟨ha, hr⟩ := List.getElem?_eq_some_iff.1 h
 rw [List.length_replicate] at ha
 rw [List.getElem_replicate] at hr
 subst hr
 refine ⟨_, by rw [List.getElem?_replicate, if_pos ha], ?_⟩
 exact And.intro (.inr ⟨rfl, 1, rfl⟩) trivial
structure ClsOK (l : List Qd) : Prop where
 few : l.length ≤ 65536
 tm : ∀ q ∈ l, TmOK 1048576 q.s ∧ TmOK 1048576 q.p ∧ TmOK 1048576 q.o ∧ TmOK 1048576 q.g
theorem Z8f {s : Sd} : ∀ {L : List Int} {I : List (List Sd)} {l : List Sd} {x : Sd}, l ∈ L.foldl (putN s) I → x ∈ l → (∃ m ∈ I, x ∈ m) ∨ x = s
 | [], I, l, x, h, hx => .inl ⟨l, h, hx⟩
 | n :: L, I, l, x, h, hx => by
   rcases Z8f (L := L) h hx with ⟨m, hm, hxm⟩ | e
   · unfold putN at hm
     obtain ⟨i, hi, rfl⟩ := List.mem_iff_getElem.1 hm
     rw [List.getElem_modify] at hxm
     have hi' : i < I.length := by simpa using hi
     split at hxm
     · rcases List.mem_append.1 hxm with h1 | h1
       · exact .inl ⟨_, List.getElem_mem hi', h1⟩
       · exact .inr (List.mem_singleton.1 h1)
     · exact .inl ⟨_, List.getElem_mem hi', hxm⟩
   · exact .inr e
theorem Z5w {f : LB → Int} : ∀ {l : List Qd} {I : List (List Sd)} {m : List Sd} {x : Sd}, m ∈ l.foldl (putS f) I → x ∈ m → (∃ m ∈ I, x ∈ m) ∨ ∃ q ∈ l, x = sdM f q
 | [], I, m, x, h, hx => .inl ⟨m, h, hx⟩
 | q :: l, I, m, x, h, hx => by
   rcases Z5w (l := l) h hx with ⟨m', hm, hxm⟩ | ⟨q', hq, e⟩
   · rcases Z8f (L := ownM f q) hm hxm with h1 | h1
     · exact .inl h1
     · exact .inr ⟨q, List.mem_cons_self .., h1⟩
   · exact .inr ⟨q', List.mem_cons_of_mem _ hq, e⟩
theorem Zcr {A : List LB} {x : LB} (h : x ∈ A) : 0 ≤ ixF 0 A x ∧ ixF 0 A x < (A.length : Int) := by
 unfold ixF; rw [if_pos h]
 have := List.idxOf_lt_length_of_mem h
 omega
theorem Z2I {A : List LB} {t : Tm} (h : ∀ x ∈ Ym t, x ∈ A) : -1 ≤ numM (ixF 0 A) t ∧ numM (ixF 0 A) t < (A.length : Int) := by
 unfold numM
 split
 · rename_i hk
   have := Zcr (h t.t (by unfold Ym; rw [if_pos hk]; exact List.mem_singleton_self _))
   omega
 · omega
theorem Z4C {S : List Qd} (h : ClsOK S) : WOK (List.replicate (ZD S).length 0) (Yz S) := by
 have hfew := h.few
 have hAl : (ZD S).length ≤ S.length * 4 := Nat.le_trans (Xe _) (Xz _ Yx _)
 have hlen : (Yz S).length = (ZD S).length := by unfold Yz; rw [Jt, List.length_replicate]
 refine ⟨by rw [hlen, List.length_replicate], fun c hc => by rw [List.eq_of_mem_replicate hc]; omega, fun m hm s hs => ?_, fun m hm => ?_, by rw [List.length_replicate]; omega⟩
 · unfold Yz at hm
   rcases Z5w hm hs with ⟨m', hm', hs'⟩ | ⟨q, hq, rfl⟩
   · rw [List.eq_of_mem_replicate hm'] at hs'; cases hs'
   · rw [List.length_replicate]
     have hmem : ∀ x ∈ ZV q, x ∈ ZD S := fun x hx => (Jb _ _).2 (List.mem_flatMap.2 ⟨q, hq, hx⟩)
     unfold ZV at hmem
     simp only [List.mem_append] at hmem
     obtain ⟨t1, t2, t3, t4⟩ := h.tm q hq
     exact ⟨t1, t2, t3, t4, Z2I fun x hx => hmem x (.inl (.inl (.inl hx))), Z2I fun x hx => hmem x (.inl (.inl (.inr hx))), Z2I fun x hx => hmem x (.inl (.inr hx)), Z2I fun x hx => hmem x (.inr hx)⟩
 · have := JQ (f := ixF 0 (ZD S)) (l := S) (N := 0) (I := List.replicate (ZD S).length []) (fun x hx => by rw [List.eq_of_mem_replicate hx]; exact Nat.le_refl _) m hm
   omega
theorem Z4D {l : List Qd} (h : ClsOK l) : ClsOK (setL Zx l) :=
 ⟨Nat.le_trans (Xe _) h.few, fun q hq => h.tm q ((Jb _ _).1 hq)⟩
set_option maxHeartbeats 4000000 in
theorem Z3R (l z : List Qd) (lim : Option Nat) (hl : ClsOK l) :
   Does Tryz.prog tab 12 1 [.sl (.loc 0) 0 16 l.length lim] [] [(0, .rows 16 ((l ++ z).map Zc))]
   (fun r O nx => ∃ F c, Settles (Yz (setL Zx l)) (List.replicate (ZD (setL Zx l)).length 0) (if ((ZD (setL Zx l)).length : Int) < 1 then ((ZD (setL Zx l)).length : Int) else 1) F c ∧
     r = .sl (.loc 1) 0 1 c.toNat none ∧ O = [(1, .deep false 1 (lbD (Ys F (ZD (setL Zx l)) c.toNat)))] ∧ nx = 2) := by
 have hfew := hl.few
 have hts := Z6b l z lim (by unfold JI; omega)
 have hS := Z4D hl
 have hSf := hS.few
 have hSl : (setL Zx l).length ≤ l.length := Xe _
 generalize setL Zx l = S at hts hS hSf hSl ⊢
 have hW := Z4C hS
 have hlen : (Yz S).length = (ZD S).length := by unfold Yz; rw [Jt, List.length_replicate]
 have hAl : (ZD S).length ≤ S.length * 4 := Nat.le_trans (Xe _) (Xz _ Yx _)
 have hst := Z4B (List.replicate (ZD S).length 0) (Yz S) (ZD S).length 1 (if ((ZD S).length : Int) < 1 then ((ZD S).length : Int) else 1) hW (by split <;> omega)
 refine Does.enter Z2 (g := 12) (fn := Tryz.f12) Tryz.call12 Tryz.func12 rfl 46 rfl rfl [.tmp 2] rfl ?_
 intro w0 F η0 h0
 conv => whnf
 repeat' ((first | with_reducible refine IF.tt ?_ | with_reducible refine IF.ff ?_ | refine AU ?_ | (refine IW (fun h => ?_) (fun h => ?_) <;> try (exfalso; omega))) <;> conv => whnf)
 refine CALL.aA [0] (hts) ?_
 rintro r O nx ⟨j, hj, rfl, rfl, rfl⟩
 have hlk := Z6n S (List.replicate j YR) (some S.length) (by unfold JI; omega) (by omega) (by rw [List.length_append, List.length_replicate]; omega)
 conv => whnf
 repeat' ((first | with_reducible refine IF.tt ?_ | with_reducible refine IF.ff ?_ | refine AU ?_ | (refine IW (fun h => ?_) (fun h => ?_) <;> try (exfalso; omega))) <;> conv => whnf)
 refine CALL.aA [2, 1] (hlk) ?_
 rintro r O nx ⟨rfl, rfl, rfl⟩
 conv => whnf
 repeat' ((first | with_reducible refine IF.tt ?_ | with_reducible refine IF.ff ?_ | refine AU ?_ | (refine IW (fun h => ?_) (fun h => ?_) <;> try (exfalso; omega))) <;> conv => whnf)
 refine CALL.aA [3, 4, 5, 6, 7] (hst) ?_
 rintro r O nx ⟨rfl, F, c, hSt, rfl, rfl⟩
 obtain ⟨hWF, hFl, hFr, hc0, hc1⟩ := hSt.ok hW
 rw [List.length_replicate] at hFl hc1
 conv => whnf
 have hcn : c = ((c.toNat : Nat) : Int) := by omega
 generalize c.toNat = n at hcn ⊢
 subst hcn
 obtain ⟨A, hA⟩ : ∃ A, A = ZD S := ⟨_, rfl⟩
 rw [← hA] at hFl hc1 hAl hlen ⊢
 repeat' ((first | with_reducible refine IF.tt ?_ | with_reducible refine IF.ff ?_ | (refine NEED.mk (VY 24 rfl (by omega) (by omega) (by omega) (by omega)) ?_; conv => whnf) | refine AU ?_ | (refine IW (fun h => ?_) (fun h => ?_) <;> try (exfalso; omega))) <;> conv => whnf)
 refine GHO.loop (GHO.deepen 9 (lbD (List.replicate n [])) rfl (Z3Q _)) ?_
 rw [List.length_replicate]
 have hfn : ∀ i, ((((F.zip A).take i).foldl putC (List.replicate n [])).length = n) := fun i => by rw [XR, List.length_replicate]
 have hfb : ∀ i, i ≤ A.length → ∀ x ∈ ((F.zip A).take i).foldl putC (List.replicate n []), x.length ≤ A.length := fun i hi x hx => by
   have := JR (l := (F.zip A).take i) (N := 0) (out := List.replicate n []) (fun x hx => by rw [List.eq_of_mem_replicate hx]; exact Nat.le_refl _) x hx
   rw [List.length_take] at this; omega
 have hzl : (F.zip A).length = A.length := by rw [List.length_zip]; omega
 refine LOOP.gok Z2 [3, 4, 21, 22] [] (X := Nat) (fun i => i ≤ A.length) (fun i => [(23, .int .i64 (i : Int))]) (fun i => [(9, .deep false 1 (lbD (((F.zip A).take i).foldl putC (List.replicate n [])))), (3, .box [.sl (.loc 4) 0 1 A.length none, .sl (.loc 8) 0 1 A.length none, .sl (.loc 6) 0 1 (Yz S).length none, .sl (.loc 7) 0 1 1 none, .int .i64 n]), (4, .rows 1 (A.map Z6)), (8, .rows 1 (F.map ZK))]) 10 (fun i => A.length - i) 0 (by omega) ?_
 conv => whnf
 refine ⟨by exact GOES.cA h0, ?_⟩
 intro i hi
 conv => whnf
 refine IF.mk (fun h1 => ?_) (fun h1 => ?_)
 · have hlt : i < A.length := by simp at h1; omega
   have hto := Jp putC (List.replicate n []) (F.zip A) (show i < (F.zip A).length by omega)
   rw [List.getElem_zip] at hto
   have hIl := hfn i
   have hIb := hfb i hi
   generalize ((F.zip A).take i).foldl putC (List.replicate n []) = I at hto hIl hIb ⊢
   have hFi := hFr _ (List.getElem_mem (show i < F.length by omega))
   have hgF := JP (l := F) (i := i) (by omega)
   generalize F[i]'(by omega) = f at hto hFi hgF
   have hfl : f.toNat < I.length := by omega
   have hIf := hIb _ (List.getElem_mem hfl)
   conv => whnf
   repeat' ((first | with_reducible refine IF.tt ?_ | with_reducible refine IF.ff ?_ | (refine GET.at (row := ZK f) (by rw [Int.toNat_natCast, Nat.zero_add]; exact hgF) ?_; conv => whnf) | refine AU ?_ | (refine IW (fun h => ?_) (fun h => ?_) <;> try (exfalso; omega))) <;> conv => whnf)
   refine GHO.drawn (GHO.take 9 f.toNat 0 rfl (Ju hfl) rfl) ?_
   repeat' ((first | with_reducible refine IF.tt ?_ | with_reducible refine IF.ff ?_ | (show DRAWN _ _ _ _ _ _ _; first | refine DRAWN.of (id := 7) Z2 mixed Z8e (by kernel_rfl) ?_) | refine ADD.mk (fun _ _ => ?_) | refine AD ?_ | refine FORK.mk ?_ ?_ | (refine GET.at (by rw [Nat.zero_add]; exact YI (Ju hfl)) ?_; conv => whnf) | (refine GET.at (row := Z6 A[i]) (Zq hlt (by omega)) ?_; conv => whnf) | (refine FINDD.at (by rw [Nat.zero_add]; exact YJ (Ju hfl)) ?_; conv => whnf) | (refine NEED.mk (Zu 16 rfl rfl rfl (Nat.le_refl _) (by rw [List.length_map]; omega)) ?_; conv => whnf) | refine AU ?_ | (refine IW (fun h => ?_) (fun h => ?_) <;> try (exfalso; omega))) <;> conv => whnf)
   all_goals rw [Z3P hfl (Nat.zero_add _) (s := A[i]) (by rw [List.take_of_length_le (by simp), List.take_of_length_le (by simp)]; simp [Z6])]
   all_goals refine ⟨i + 1, by omega, by omega, ?_⟩
   all_goals rw [hto]
   all_goals (conv => whnf)
   all_goals exact GOES.cA h0
 · have hie : i = A.length := by simp at h1; omega
   subst hie
   rw [List.take_of_length_le (by omega)]
   conv => whnf
   repeat' ((first | with_reducible refine IF.tt ?_ | with_reducible refine IF.ff ?_ | refine AU ?_ | (refine IW (fun h => ?_) (fun h => ?_) <;> try (exfalso; omega))) <;> conv => whnf)
   refine FIN.aA h0 [9] (.sl (.loc 1) 0 1 n none) [(1, .deep false 1 (lbD ((F.zip A).foldl putC (List.replicate n []))))] ⟨F, n, by rw [hA]; exact hSt, rfl, rfl, rfl⟩
end Go.Proofs.YtbfbokdccdagkaaGreatDoor
namespace Go.Proofs.YtbfbokdccdagkaaGreatDoor
open Go.Sx Go.Our
def Z6q : Plan := (ZB [(0, 1), (1, 1), (2, 1), (4, 1), (5, 1), (6, 1), (3, 2), (7, 2), (8, 1)])
def Z1T : Plan := (ZB [(0, 1), (1, 1), (2, 1), (4, 1), (5, 1), (6, 1), (3, 2), (7, 2), (8, 3), (9, 1)])
theorem Z1i (l : List LB) (hz : l.length ≤ 1152921504606846976) : Does Tryz.prog tab 42 2 [.sl (.loc 0) 0 1 l.length none, .sl (.loc 1) 0 1 l.length none] [] [(0, .rows 1 (l.map Z6)), (1, .rows 1 (l.map Z6))] (ValK 2 (.bool true)) := by
 have get : ∀ {i k : Nat} (h : i < l.length) (e : k = i), (l.map Z6)[k]? = some (Z6 l[i]) := fun h e => Zq h e
 refine Does.enter Z2 (g := 42) (fn := Tryz.f42) Tryz.call42 Tryz.func42 rfl 26 rfl rfl [.tmp 4] rfl ?_
 intro w0 F η0 h0
 conv => whnf
 repeat' ((first | with_reducible refine IF.tt ?_ | with_reducible refine IF.ff ?_ | refine AU ?_ | (refine IW (fun h => ?_) (fun h => ?_) <;> try (exfalso; omega))) <;> conv => whnf)
 refine LOOP.gok Z2 [0, 1] [] (X := Nat) (fun i => i ≤ l.length) (fun i => [(5, .int .i64 (i : Int))]) (fun i => []) 2 (fun i => l.length - i) 0 (by omega) ?_
 conv => whnf
 refine ⟨by exact GOES.kA h0 [], ?_⟩
 intro i hi
 conv => whnf
 by_cases hil : i < l.length
 · repeat' ((first | with_reducible refine IF.tt ?_ | with_reducible refine IF.ff ?_ | (show DRAWN _ _ _ _ _ _ _; first | refine DRAWN.of (id := 6) Z2 mixed Z6q (by kernel_rfl) ?_) | refine ADD.mk (fun _ _ => ?_) | refine AD ?_ | refine FORK.mk ?_ ?_ | (refine GET.at (get hil (by omega)) ?_; conv => whnf) | refine AU ?_ | (refine IW (fun h => ?_) (fun h => ?_) <;> try (exfalso; omega))) <;> conv => whnf)
   refine ⟨i + 1, by omega, by omega, ?_⟩
   conv => whnf
   exact GOES.kA h0 []
 · repeat' ((first | with_reducible refine IF.tt ?_ | with_reducible refine IF.ff ?_ | refine AU ?_ | (refine IW (fun h => ?_) (fun h => ?_) <;> try (exfalso; omega))) <;> conv => whnf)
   exact FIN.valueK h0 rfl rfl
theorem Z8l {out : List (List LB)} {i k n : Nat} {sv : SV} (h : i < out.length) (hk : k = i) (hn : n = out[i].length) : setC (setC (lbD out) k 0 (.v sv)) i 0 (.kid 1 ((out[i].map Z6).take n)) = lbD out := Z2K (es := 1) (f := Z6) h hk hn
set_option maxHeartbeats 4000000 in
theorem Wn (out : List (List LB)) (hl : out.length ≤ 67108864) (hb : ∀ x ∈ out, x.length ≤ 67108864) :
   Does Tryz.prog tab 14 2 [.sl (.loc 0) 0 1 out.length none, .sl (.loc 1) 0 1 out.length none] [(0, .deep false 1 (lbD out)), (1, .deep false 1 (lbD out))] []
   (fun r O nx => r = .bool true ∧ O = [(0, .deep false 1 (lbD out)), (1, .deep false 1 (lbD out))] ∧ nx = 2) := by
 refine Does.enter Z2 (g := 14) (fn := Tryz.f14) Tryz.call14 Tryz.func14 rfl 29 rfl rfl [.tmp 4] rfl ?_
 intro w0 F η0 h0
 conv => whnf
 repeat' ((first | with_reducible refine IF.tt ?_ | with_reducible refine IF.ff ?_ | refine AU ?_ | (refine IW (fun h => ?_) (fun h => ?_) <;> try (exfalso; omega))) <;> conv => whnf)
 refine LOOP.gok Z2 [0, 1] [0, 1] (X := Nat) (fun i => i ≤ out.length) (fun i => [(5, .int .i64 (i : Int))]) (fun i => []) 2 (fun i => out.length - i) 0 (by omega) ?_
 conv => whnf
 refine ⟨by exact GOES.cA h0, ?_⟩
 intro i hi
 conv => whnf
 by_cases hil : i < out.length
 · have hbi := hb _ (List.getElem_mem hil)
   have hsT := Z1i out[i] (by omega)
   have hml : (out[i].map Z6).length = out[i].length := List.length_map ..
   repeat' ((first | with_reducible refine IF.tt ?_ | with_reducible refine IF.ff ?_ | refine AU ?_ | (refine IW (fun h => ?_) (fun h => ?_) <;> try (exfalso; omega))) <;> conv => whnf)
   refine GHO.drawn (GHO.trans (GHO.take 0 i 0 rfl (Ju hil) rfl) (GHO.take 1 i 0 rfl (Ju hil) rfl)) ?_
   rw [hml]
   repeat' ((first | with_reducible refine IF.tt ?_ | with_reducible refine IF.ff ?_ | (show DRAWN _ _ _ _ _ _ _; first | refine DRAWN.of (id := 6) Z2 mixed Z1T (by kernel_rfl) ?_) | refine ADD.mk (fun _ _ => ?_) | refine AD ?_ | refine FORK.mk ?_ ?_ | (refine GET.at (by rw [Int.toNat_natCast, Nat.zero_add]; exact YI (Ju hil)) ?_; conv => whnf) | refine AU ?_ | (refine IW (fun h => ?_) (fun h => ?_) <;> try (exfalso; omega))) <;> conv => whnf)
   refine CALL.aA [2, 3] (hsT) ?_
   rintro r O nx ⟨rfl, rfl, rfl⟩
   conv => whnf
   repeat' ((first | with_reducible refine IF.tt ?_ | with_reducible refine IF.ff ?_ | (show DRAWN _ _ _ _ _ _ _; first | refine DRAWN.of (id := 6) Z2 mixed Z1T (by kernel_rfl) ?_) | refine ADD.mk (fun _ _ => ?_) | refine AD ?_ | refine FORK.mk ?_ ?_ | refine AU ?_ | (refine IW (fun h => ?_) (fun h => ?_) <;> try (exfalso; omega))) <;> conv => whnf)
   refine ⟨i + 1, by omega, by omega, ?_⟩
   conv => whnf
   refine GOES.trans (GHO.goes (GHO.trans (GHO.putk 0 i 0 2 rfl (UL hil rfl) rfl rfl (by rw [hml]; exact Nat.le_refl _) (by decide)) (GHO.putk 1 i 0 3 rfl (UL hil rfl) rfl rfl (by rw [hml]; exact Nat.le_refl _) (by decide)))) ?_
   rw [Z8l hil rfl rfl, Z8l hil rfl rfl]
   exact GOES.cA h0
 · repeat' ((first | with_reducible refine IF.tt ?_ | with_reducible refine IF.ff ?_ | refine AU ?_ | (refine IW (fun h => ?_) (fun h => ?_) <;> try (exfalso; omega))) <;> conv => whnf)
   exact FIN.aA h0 [] (.bool true) [(0, .deep false 1 (lbD out)), (1, .deep false 1 (lbD out))] ⟨rfl, rfl, rfl⟩
def WO : Plan := (ZB [(0, 1), (1, 1), (2, 1), (3, 1), (4, 1), (6, 1), (7, 1), (8, 1), (5, 2), (9, 2), (10, 1), (11, 1), (12, 1)])
def WP : Plan := (.take 0 1 (.take 1 1 (.take 2 1 (.take 4 1 (.take 5 1 (.take 6 1 (.take 8 1 (.take 9 1 (.take 10 1 (.take 12 1 (.take 13 1 (.take 14 1 (.take 11 2 (.take 15 2 (.take 16 1 (.take 17 2 (.take 18 2 (.fork3 3 3 7 3 19 3 (.fork 7 3 19 3 (ZB [(19, 3), (20, 0), (21, 1), (22, 0)]) (.fork 7 3 20 0 (ZB [(20, 0), (21, 1), (22, 0)]) (ZB [(7, 2), (21, 1), (22, 0)]))) (.fork 3 3 19 3 (ZB [(19, 3), (20, 0), (21, 1), (22, 0)]) (.fork 3 3 20 0 (ZB [(20, 0), (21, 1), (22, 0)]) (ZB [(3, 2), (21, 1), (22, 0)]))) (.fork3 3 3 7 3 20 0 (.fork 7 3 20 0 (ZB [(20, 0), (21, 1), (22, 0)]) (ZB [(7, 2), (21, 1), (22, 0)])) (.fork 3 3 20 0 (ZB [(20, 0), (21, 1), (22, 0)]) (ZB [(3, 2), (21, 1), (22, 0)])) (ZB [(3, 2), (7, 2), (21, 1), (22, 0)]))))))))))))))))))))
structure Nd where
 of : Int
 lab : LB
 cls : Int
def Yi (n : Nd) : List SV := [.int .i64 n.of, .str n.lab, .int .i64 n.cls]
instance : PlF Yi := ⟨fun _ => rfl⟩
def Zbe (n : Nd) (of : Int) (s : LB) : Prop := n.of < of ∨ n.of = of ∧ Z2Q n.lab s = true
def Z8m (ns : List Nd) (of : Int) (s : LB) (i : Nat) : Prop := i ≤ ns.length ∧ ∀ m (h : m < ns.length), Zbe ns[m] of s ↔ m < i
def rBx (nn ni : Nat) : Hp := .box [.sl (.loc 1) 0 3 nn none, .sl (.loc 2) 0 1 ni none]
theorem JS (ns : List Nd) (of : Int) (s : LB) (i ni : Nat) (hp : Z8m ns of s i) (hn : ns.length ≤ 67108864) :
   Does Tryz.prog tab 100 3 [.ptr (.loc 0) 0 0 0, .int .i64 of, .str s] [] [(0, rBx ns.length ni), (1, .rows 3 (ns.map Yi))] (ValK 3 (.int .i64 (i : Int))) := by
 obtain ⟨hi, hp⟩ := hp
 refine Does.enter Z2 (g := 100) (fn := Tryz.f100) Tryz.call100 Tryz.func100 rfl 60 rfl rfl [.tmp 6] rfl ?_
 intro w0 F η0 h0
 conv => whnf
 repeat' ((first | with_reducible refine IF.tt ?_ | with_reducible refine IF.ff ?_ | refine AU ?_ | (refine IW (fun h => ?_) (fun h => ?_) <;> try (exfalso; omega))) <;> conv => whnf)
 refine LOOP.go Z2 [0, 1, 2] (X := Nat × Nat) (fun x => x.1 ≤ i ∧ i ≤ x.2 ∧ x.2 ≤ ns.length) (fun x => [(7, .int .i64 (x.1 : Int)), (8, .int .i64 (x.2 : Int))]) (fun _ => []) 3 (fun x => x.2 - x.1) (0, ns.length) ⟨by simp, by simpa using hi, by simp⟩ ?_
 conv => whnf
 refine ⟨by exact GOES.cA h0, ?_⟩
 rintro ⟨lo, hg⟩ ⟨h1, h2, h3⟩
 dsimp only at h1 h2 h3
 conv => whnf
 refine IF.mk (fun h => ?_) (fun h => ?_)
 · have hlt : lo < hg := by simp at h; omega
   have hm : (lo + hg) / 2 < ns.length := by omega
   have hq : Int.tdiv ((lo : Int) + (hg : Int)) 2 = (((lo + hg) / 2 : Nat) : Int) := by
     rw [show ((lo : Int) + (hg : Int)) = ((lo + hg : Nat) : Int) by omega, show (2 : Int) = ((2 : Nat) : Int) from rfl, ← Int.ofNat_tdiv]
   have hw : IntKind.i64.wrap (Int.tdiv (IntKind.i64.wrap ((lo : Int) + (hg : Int))) 2) = (((lo + hg) / 2 : Nat) : Int) := by
     rw [Z8 (a := (lo : Int) + (hg : Int)) (by omega) (by omega), hq, Z8 (by omega) (by omega)]
   have hpm := hp _ hm
   unfold Zbe at hpm
   have hgm := Zq (f := Yi) hm rfl
   generalize ns[(lo + hg) / 2] = nd at hpm hgm
   conv => whnf
   repeat' ((first | with_reducible refine IF.tt ?_ | with_reducible refine IF.ff ?_ | (refine GET.at (row := Yi nd) (by rw [hw, Int.toNat_natCast, Nat.zero_add]; exact hgm) ?_; conv => whnf) | (refine GETG.at (row := Yi nd) (by rw [hw, Int.toNat_natCast, Nat.zero_add]; exact hgm) ?_; conv => whnf) | refine AU ?_ | (refine IW (fun h => ?_) (fun h => ?_) <;> try (exfalso; omega))) <;> conv => whnf)
   · have := hpm.1 h
     dsimp only
     rw [hw]
     refine ⟨((lo + hg) / 2 + 1, hg), ⟨by dsimp only; omega, by dsimp only; omega, by dsimp only; omega⟩, by dsimp only; omega, ?_⟩
     dsimp only
     conv => whnf
     exact GOES.cA h0
   · have : ¬ (lo + hg) / 2 < i := fun e => by
       rcases hpm.2 e with h4 | ⟨h4, h5⟩
       · omega
       · have := h.2 h4; rw [h5] at this; cases this
     dsimp only
     rw [hw]
     refine ⟨(lo, (lo + hg) / 2), ⟨by dsimp only; omega, by dsimp only; omega, by dsimp only; omega⟩, by dsimp only; omega, ?_⟩
     dsimp only
     conv => whnf
     exact GOES.cA h0
 · have hie : lo = i := by simp at h; omega
   subst hie
   conv => whnf
   repeat' ((first | with_reducible refine IF.tt ?_ | with_reducible refine IF.ff ?_ | refine AU ?_ | (refine IW (fun h => ?_) (fun h => ?_) <;> try (exfalso; omega))) <;> conv => whnf)
   exact FIN.valueK h0 rfl rfl
theorem Z1U (q : Qd) : Does Tryz.prog tab 81 0 [.agg (Zc q)] [] [] (Val (.agg (Zc q))) := by
 refine Does.enter Z2 (g := 81) (fn := Tryz.f81) Tryz.call81 Tryz.func81 rfl 12 rfl rfl [.cell 2 93] rfl ?_
 intro w0 F η0 h0
 conv => whnf
 repeat' ((first | with_reducible refine IF.tt ?_ | with_reducible refine IF.ff ?_ | refine AU ?_ | (refine IW (fun h => ?_) (fun h => ?_) <;> try (exfalso; omega))) <;> conv => whnf)
 exact FIN.weak (fun η w v H hd => ⟨η, List.prefix_rfl, H, Z1N hd⟩) (FIN.value h0 rfl rfl)
structure QX where
 k : Nat
 a : Int
 b : Int
 c : Int
 d : Int
structure QInv (f : LB → Int) (q : Qd) (x : QX) : Prop where
 k : x.k ≤ 4
 a : 0 < x.k → x.a = numM f q.s
 b : 1 < x.k → x.b = numM f q.p
 c : 2 < x.k → x.c = numM f q.o
 d : 3 < x.k → x.d = numM f q.g
def Z4E (ns : List Nd) (of : Int) (f : LB → Int) (n : Nat) (q : Qd) : Prop := ∀ x ∈ ZV q, ∃ i : Nat, f x = (i : Int) ∧ i < n ∧ Z8m ns of x i
theorem J4 {ns : List Nd} {of : Int} {f : LB → Int} {n : Nat} {q : Qd} (h : Z4E ns of f n q) {t : Tm} (ht : t ∈ JL q) (hk : t.k = 2) : ∃ i : Nat, f t.t = (i : Int) ∧ i < n ∧ Z8m ns of t.t i := h _ (by
 have hb : t.t ∈ Ym t := by unfold Ym; rw [if_pos hk]; exact List.mem_singleton_self _
 unfold JL at ht
 unfold ZV
 simp only [List.mem_cons, List.not_mem_nil, or_false] at ht
 simp only [List.mem_append]
 rcases ht with rfl | rfl | rfl | rfl
 · exact .inl (.inl (.inl hb))
 · exact .inl (.inl (.inr hb))
 · exact .inl (.inr hb)
 · exact .inr hb)
theorem WQ {f : LB → Int} {q : Qd} {x : Int} (hx : 0 ≤ x) : (x ∈ ownK f q 0 ↔ False) ∧ (x ∈ ownK f q 1 ↔ numM f q.s = x) ∧ (x ∈ ownK f q 2 ↔ numM f q.s = x ∨ numM f q.p = x) ∧ (x ∈ ownK f q 3 ↔ numM f q.s = x ∨ numM f q.p = x ∨ numM f q.o = x) := by
 have step : ∀ (acc : List Int) (t : Tm), x ∈ ownT f acc t ↔ x ∈ acc ∨ numM f t = x := fun acc t => by
   unfold ownT numM
   by_cases hk : t.k = 2
   · rw [if_pos hk, if_pos hk]
     by_cases hm : f t.t ∈ acc
     · rw [if_pos hm]; exact ⟨.inl, fun h => h.elim id fun e => e ▸ hm⟩
     · rw [if_neg hm, List.mem_append, List.mem_singleton]; exact ⟨fun h => h.imp id Eq.symm, fun h => h.imp id Eq.symm⟩
   · rw [if_neg hk, if_neg hk]; exact ⟨.inl, fun h => h.elim id fun e => by omega⟩
 unfold ownK JL
 simp only [List.take_zero, List.take_succ_cons, List.foldl_cons, List.foldl_nil, step, List.not_mem_nil, false_or, or_assoc, and_self, true_and]
theorem WR {f : LB → Int} {q : Qd} {k : Nat} (t : Tm) (h : (JL q)[k]? = some t) (hf : t.k = 2 → 0 ≤ f t.t) : ownK f q (k + 1) = if 0 ≤ numM f t ∧ numM f t ∉ ownK f q k then ownK f q k ++ [numM f t] else ownK f q k := by
 rw [Uo f q t h]
 unfold ownT
 by_cases hk : t.k = 2
 · rw [Xq hk, if_pos hk]
   by_cases hm : f t.t ∈ ownK f q k
   · rw [if_pos hm, if_neg fun h => h.2 hm]
   · rw [if_neg hm, if_pos ⟨hf hk, hm⟩]
 · rw [Jq hk, if_neg hk, if_neg fun h => absurd h.1 (by decide)]
set_option maxHeartbeats 4000000 in
theorem Z8n (ns : List Nd) (of : Int) (f : LB → Int) (q : Qd) (ins : List (List Sd)) (hpl : Z4E ns of f ins.length q) (hns : ns.length ≤ 67108864) (hl : ∀ l ∈ ins, l.length ≤ 67108864) (hil : ins.length ≤ 67108864) :
   Does Tryz.prog tab 70 3 [.ptr (.loc 0) 0 0 0, .int .i64 of, .agg (Zc q)] [(2, .deep false 1 (inD ins))] [(0, rBx ns.length ins.length), (1, .rows 3 (ns.map Yi))]
   (fun r O nx => r = .tup [] ∧ O = [(2, .deep false 1 (inD (putS f ins q)))] ∧ nx = 3) := by
 refine Does.enter Z2 (g := 70) (fn := Tryz.f70) Tryz.call70 Tryz.func70 rfl 87 rfl rfl [] rfl ?_
 intro w0 F η0 h0
 conv => whnf
 repeat' ((first | with_reducible refine IF.tt ?_ | with_reducible refine IF.ff ?_ | refine CALL.value (Z1U q) rfl rfl ?_ | refine AU ?_ | (refine IW (fun h => ?_) (fun h => ?_) <;> try (exfalso; omega))) <;> conv => whnf)
 refine LOOP.gok Z2 [0, 1, 6, 7] [2, 3, 4] (X := QX) (QInv f q) (fun x => [(8, .int .i64 (x.k : Int))]) (fun x => [(5, .box (Zch q x.a x.b x.c x.d))]) 6 (fun x => 4 - x.k) ⟨0, 0, 0, 0, 0⟩ ⟨by simp, by simp, by simp, by simp, by simp⟩ ?_
 conv => whnf
 refine ⟨by exact GOES.cA h0, ?_⟩
 rintro ⟨k, a, b, c, d⟩ ⟨hk4, ha, hb, hc, hd⟩
 dsimp only at hk4 ha hb hc hd ⊢
 conv => whnf
 refine IF.mk (fun h => ?_) (fun h => ?_)
 · have hlt : k < 4 := by simp at h; omega
   have hkk : k = 0 ∨ k = 1 ∨ k = 2 ∨ k = 3 := by omega
   rcases hkk with rfl | rfl | rfl | rfl
   · conv => whnf
     repeat' ((first | with_reducible refine IF.tt ?_ | with_reducible refine IF.ff ?_ | refine AU ?_ | (refine IW (fun h => ?_) (fun h => ?_) <;> try (exfalso; omega))) <;> conv => whnf)
     · obtain ⟨i, hi0, hi1, hi2⟩ := J4 hpl (t := q.s) (by simp [JL]) h
       have hnd := JS ns of q.s.t i ins.length hi2 hns
       refine CALL.aA [0, 1, 2] (hnd) ?_
       rintro r O nx ⟨rfl, rfl, rfl⟩
       have hv : ((i : Nat) : Int) = numM f q.s := by rw [Xq h, hi0]
       rw [hv]
       conv => whnf
       repeat' ((first | with_reducible refine IF.tt ?_ | with_reducible refine IF.ff ?_ | refine AU ?_ | (refine IW (fun h => ?_) (fun h => ?_) <;> try (exfalso; omega))) <;> conv => whnf)
       refine ⟨⟨0 + 1, numM f q.s, b, c, d⟩, ⟨by dsimp only; omega, fun _ => rfl, fun h => by simp at h, fun h => by simp at h, fun h => by simp at h⟩, by dsimp only; omega, ?_⟩
       conv => whnf
       exact GOES.cA h0
     · refine ⟨⟨0 + 1, -1, b, c, d⟩, ⟨by dsimp only; omega, fun _ => (Jq h).symm, fun h => by simp at h, fun h => by simp at h, fun h => by simp at h⟩, by dsimp only; omega, ?_⟩
       conv => whnf
       exact GOES.cA h0
   · conv => whnf
     repeat' ((first | with_reducible refine IF.tt ?_ | with_reducible refine IF.ff ?_ | refine AU ?_ | (refine IW (fun h => ?_) (fun h => ?_) <;> try (exfalso; omega))) <;> conv => whnf)
     · obtain ⟨i, hi0, hi1, hi2⟩ := J4 hpl (t := q.p) (by simp [JL]) h
       have hnd := JS ns of q.p.t i ins.length hi2 hns
       refine CALL.aA [0, 1, 2] (hnd) ?_
       rintro r O nx ⟨rfl, rfl, rfl⟩
       have hv : ((i : Nat) : Int) = numM f q.p := by rw [Xq h, hi0]
       rw [hv]
       conv => whnf
       repeat' ((first | with_reducible refine IF.tt ?_ | with_reducible refine IF.ff ?_ | refine AU ?_ | (refine IW (fun h => ?_) (fun h => ?_) <;> try (exfalso; omega))) <;> conv => whnf)
       refine ⟨⟨1 + 1, a, numM f q.p, c, d⟩, ⟨by dsimp only; omega, fun _ => ha (by omega), fun _ => rfl, fun h => by simp at h, fun h => by simp at h⟩, by dsimp only; omega, ?_⟩
       conv => whnf
       exact GOES.cA h0
     · refine ⟨⟨1 + 1, a, -1, c, d⟩, ⟨by dsimp only; omega, fun _ => ha (by omega), fun _ => (Jq h).symm, fun h => by simp at h, fun h => by simp at h⟩, by dsimp only; omega, ?_⟩
       conv => whnf
       exact GOES.cA h0
   · conv => whnf
     repeat' ((first | with_reducible refine IF.tt ?_ | with_reducible refine IF.ff ?_ | refine AU ?_ | (refine IW (fun h => ?_) (fun h => ?_) <;> try (exfalso; omega))) <;> conv => whnf)
     · obtain ⟨i, hi0, hi1, hi2⟩ := J4 hpl (t := q.o) (by simp [JL]) h
       have hnd := JS ns of q.o.t i ins.length hi2 hns
       refine CALL.aA [0, 1, 2] (hnd) ?_
       rintro r O nx ⟨rfl, rfl, rfl⟩
       have hv : ((i : Nat) : Int) = numM f q.o := by rw [Xq h, hi0]
       rw [hv]
       conv => whnf
       repeat' ((first | with_reducible refine IF.tt ?_ | with_reducible refine IF.ff ?_ | refine AU ?_ | (refine IW (fun h => ?_) (fun h => ?_) <;> try (exfalso; omega))) <;> conv => whnf)
       refine ⟨⟨2 + 1, a, b, numM f q.o, d⟩, ⟨by dsimp only; omega, fun _ => ha (by omega), fun _ => hb (by omega), fun _ => rfl, fun h => by simp at h⟩, by dsimp only; omega, ?_⟩
       conv => whnf
       exact GOES.cA h0
     · refine ⟨⟨2 + 1, a, b, -1, d⟩, ⟨by dsimp only; omega, fun _ => ha (by omega), fun _ => hb (by omega), fun _ => (Jq h).symm, fun h => by simp at h⟩, by dsimp only; omega, ?_⟩
       conv => whnf
       exact GOES.cA h0
   · conv => whnf
     repeat' ((first | with_reducible refine IF.tt ?_ | with_reducible refine IF.ff ?_ | refine AU ?_ | (refine IW (fun h => ?_) (fun h => ?_) <;> try (exfalso; omega))) <;> conv => whnf)
     · obtain ⟨i, hi0, hi1, hi2⟩ := J4 hpl (t := q.g) (by simp [JL]) h
       have hnd := JS ns of q.g.t i ins.length hi2 hns
       refine CALL.aA [0, 1, 2] (hnd) ?_
       rintro r O nx ⟨rfl, rfl, rfl⟩
       have hv : ((i : Nat) : Int) = numM f q.g := by rw [Xq h, hi0]
       rw [hv]
       conv => whnf
       repeat' ((first | with_reducible refine IF.tt ?_ | with_reducible refine IF.ff ?_ | refine AU ?_ | (refine IW (fun h => ?_) (fun h => ?_) <;> try (exfalso; omega))) <;> conv => whnf)
       refine ⟨⟨3 + 1, a, b, c, numM f q.g⟩, ⟨by dsimp only; omega, fun _ => ha (by omega), fun _ => hb (by omega), fun _ => hc (by omega), fun _ => rfl⟩, by dsimp only; omega, ?_⟩
       conv => whnf
       exact GOES.cA h0
     · refine ⟨⟨3 + 1, a, b, c, -1⟩, ⟨by dsimp only; omega, fun _ => ha (by omega), fun _ => hb (by omega), fun _ => hc (by omega), fun _ => (Jq h).symm⟩, by dsimp only; omega, ?_⟩
       conv => whnf
       exact GOES.cA h0
 · have hk : k = 4 := by simp at h; omega
   subst hk
   have ha := ha (by omega)
   have hb := hb (by omega)
   have hc := hc (by omega)
   have hd := hd (by omega)
   subst ha hb hc hd
   clear hk4 h
   conv => whnf
   repeat' ((first | with_reducible refine IF.tt ?_ | with_reducible refine IF.ff ?_ | refine AU ?_ | (refine IW (fun h => ?_) (fun h => ?_) <;> try (exfalso; omega))) <;> conv => whnf)
   refine LOOP.gok Z2 [0, 7] [3, 4, 5] (X := Nat) (fun k => k ≤ 4) (fun k => [(9, .int .i64 (k : Int))]) (fun k => [(2, .deep false 1 (inD ((ownK f q k).foldl (putN (sdM f q)) ins)))]) 6 (fun k => 4 - k) 0 (by omega) ?_
   conv => whnf
   refine ⟨by exact GOES.cA h0, ?_⟩
   intro k hk4
   conv => whnf
   refine IF.mk (fun h => ?_) (fun h => ?_)
   · have hlt : k < 4 := by simp at h; omega
     have hkk : k = 0 ∨ k = 1 ∨ k = 2 ∨ k = 3 := by omega
     rcases hkk with rfl | rfl | rfl | rfl
     · have hpt := fun hk => J4 hpl (t := q.s) (by simp [JL]) hk
       have hst := WR (f := f) (q := q) (k := 0) q.s rfl (fun hk => by obtain ⟨i, hi, _⟩ := hpt hk; omega)
       have hmem := fun h1 => (WQ (f := f) (q := q) (x := numM f q.s) h1).1
       have hx : 0 ≤ numM f q.s → (numM f q.s).toNat < ins.length := fun h1 => by
         by_cases hk : (q.s).k = 2
         · obtain ⟨i, hi, hi2, _⟩ := hpt hk
           rw [Xq hk] at h1 ⊢; omega
         · rw [Jq hk] at h1; omega
       have hIl := JM (sdM f q) (ownK f q 0) ins
       have hol := Up f q (k := 0) (by omega)
       have hIb := Xf (s := sdM f q) (L := ownK f q 0) hl
       rw [show ownK f q (0 + 1) = ownK f q 1 from rfl] at hst
       generalize hI : (ownK f q 0).foldl (putN (sdM f q)) ins = I at hIl hIb ⊢
       conv => whnf
       repeat' ((first | with_reducible refine IF.tt ?_ | with_reducible refine IF.ff ?_ | (refine LOOP.once Z2 ?_; conv => whnf) | (show DRAWN _ _ _ _ _ _ _; first | refine DRAWN.of (id := 16) Z2 mixed WO (by kernel_rfl) ?_) | refine ADD.mk (fun _ _ => ?_) | refine AD ?_ | refine FORK.mk ?_ ?_ | refine AU ?_ | (refine IW (fun h => ?_) (fun h => ?_) <;> try (exfalso; omega))) <;> conv => whnf)
       all_goals first
         | (have hst2 : ownK f q 1 = ownK f q 0 := by
              rw [hst, if_neg]
              rintro ⟨h1, h2⟩
              first | omega | exact h2 ((hmem h1).2 (by omega))
            refine ⟨1, by omega, by omega, ?_⟩
            rw [hst2, hI]
            (conv => whnf)
            exact GOES.cA h0)
         | (have h1 : 0 ≤ numM f q.s := by omega
            have hst2 : ownK f q 1 = ownK f q 0 ++ [numM f q.s] := by
              rw [hst, if_pos ⟨h1, fun h2 => by have h9 := (hmem h1).1 h2; first | exact h9 | omega⟩]
            have hnl : (numM f q.s).toNat < I.length := by rw [hIl]; exact hx h1
            have hIn : (List.map Jc I[(numM f q.s).toNat]).length ≤ 67108868 := by
              rw [List.length_map]
              have := hIb _ (List.getElem_mem hnl)
              omega
            refine GHO.drawn (GHO.take 2 (numM f q.s).toNat 0 rfl (YS hnl) rfl) ?_
            repeat' ((first | with_reducible refine IF.tt ?_ | with_reducible refine IF.ff ?_ | (show DRAWN _ _ _ _ _ _ _; first | refine DRAWN.of (id := 18) Z2 mixed WP (by kernel_rfl) ?_) | refine ADD.mk (fun _ _ => ?_) | refine AD ?_ | refine FORK.mk ?_ ?_ | (refine GET.at (by rw [Nat.zero_add]; exact YI (YS hnl)) ?_; conv => whnf) | (refine FINDD.at (by rw [Nat.zero_add]; exact YJ (YS hnl)) ?_; conv => whnf) | refine AU ?_ | (refine IW (fun h => ?_) (fun h => ?_) <;> try (exfalso; omega))) <;> conv => whnf)
            all_goals rw [Ur hnl (Nat.zero_add _) (s := sdM f q) (by rw [List.take_of_length_le (by simp), List.take_of_length_le (by simp)]; simp [Jc, sdM])]
            all_goals refine ⟨1, by omega, by omega, ?_⟩
            all_goals rw [hst2, List.foldl_append, hI]
            all_goals (conv => whnf)
            all_goals exact GOES.cA h0)
     · have hpt := fun hk => J4 hpl (t := q.p) (by simp [JL]) hk
       have hst := WR (f := f) (q := q) (k := 1) q.p rfl (fun hk => by obtain ⟨i, hi, _⟩ := hpt hk; omega)
       have hmem := fun h1 => (WQ (f := f) (q := q) (x := numM f q.p) h1).2.1
       have hx : 0 ≤ numM f q.p → (numM f q.p).toNat < ins.length := fun h1 => by
         by_cases hk : (q.p).k = 2
         · obtain ⟨i, hi, hi2, _⟩ := hpt hk
           rw [Xq hk] at h1 ⊢; omega
         · rw [Jq hk] at h1; omega
       have hIl := JM (sdM f q) (ownK f q 1) ins
       have hol := Up f q (k := 1) (by omega)
       have hIb := Xf (s := sdM f q) (L := ownK f q 1) hl
       rw [show ownK f q (1 + 1) = ownK f q 2 from rfl] at hst
       generalize hI : (ownK f q 1).foldl (putN (sdM f q)) ins = I at hIl hIb ⊢
       conv => whnf
       repeat' ((first | with_reducible refine IF.tt ?_ | with_reducible refine IF.ff ?_ | (refine LOOP.once Z2 ?_; conv => whnf) | (show DRAWN _ _ _ _ _ _ _; first | refine DRAWN.of (id := 16) Z2 mixed WO (by kernel_rfl) ?_) | refine ADD.mk (fun _ _ => ?_) | refine AD ?_ | refine FORK.mk ?_ ?_ | refine AU ?_ | (refine IW (fun h => ?_) (fun h => ?_) <;> try (exfalso; omega))) <;> conv => whnf)
       all_goals first
         | (have hst2 : ownK f q 2 = ownK f q 1 := by
              rw [hst, if_neg]
              rintro ⟨h1, h2⟩
              first | omega | exact h2 ((hmem h1).2 (by omega))
            refine ⟨2, by omega, by omega, ?_⟩
            rw [hst2, hI]
            (conv => whnf)
            exact GOES.cA h0)
         | (have h1 : 0 ≤ numM f q.p := by omega
            have hst2 : ownK f q 2 = ownK f q 1 ++ [numM f q.p] := by
              rw [hst, if_pos ⟨h1, fun h2 => by have h9 := (hmem h1).1 h2; first | exact h9 | omega⟩]
            have hnl : (numM f q.p).toNat < I.length := by rw [hIl]; exact hx h1
            have hIn : (List.map Jc I[(numM f q.p).toNat]).length ≤ 67108868 := by
              rw [List.length_map]
              have := hIb _ (List.getElem_mem hnl)
              omega
            refine GHO.drawn (GHO.take 2 (numM f q.p).toNat 0 rfl (YS hnl) rfl) ?_
            repeat' ((first | with_reducible refine IF.tt ?_ | with_reducible refine IF.ff ?_ | (show DRAWN _ _ _ _ _ _ _; first | refine DRAWN.of (id := 18) Z2 mixed WP (by kernel_rfl) ?_) | refine ADD.mk (fun _ _ => ?_) | refine AD ?_ | refine FORK.mk ?_ ?_ | (refine GET.at (by rw [Nat.zero_add]; exact YI (YS hnl)) ?_; conv => whnf) | (refine FINDD.at (by rw [Nat.zero_add]; exact YJ (YS hnl)) ?_; conv => whnf) | refine AU ?_ | (refine IW (fun h => ?_) (fun h => ?_) <;> try (exfalso; omega))) <;> conv => whnf)
            all_goals rw [Ur hnl (Nat.zero_add _) (s := sdM f q) (by rw [List.take_of_length_le (by simp), List.take_of_length_le (by simp)]; simp [Jc, sdM])]
            all_goals refine ⟨2, by omega, by omega, ?_⟩
            all_goals rw [hst2, List.foldl_append, hI]
            all_goals (conv => whnf)
            all_goals exact GOES.cA h0)
     · have hpt := fun hk => J4 hpl (t := q.o) (by simp [JL]) hk
       have hst := WR (f := f) (q := q) (k := 2) q.o rfl (fun hk => by obtain ⟨i, hi, _⟩ := hpt hk; omega)
       have hmem := fun h1 => (WQ (f := f) (q := q) (x := numM f q.o) h1).2.2.1
       have hx : 0 ≤ numM f q.o → (numM f q.o).toNat < ins.length := fun h1 => by
         by_cases hk : (q.o).k = 2
         · obtain ⟨i, hi, hi2, _⟩ := hpt hk
           rw [Xq hk] at h1 ⊢; omega
         · rw [Jq hk] at h1; omega
       have hIl := JM (sdM f q) (ownK f q 2) ins
       have hol := Up f q (k := 2) (by omega)
       have hIb := Xf (s := sdM f q) (L := ownK f q 2) hl
       rw [show ownK f q (2 + 1) = ownK f q 3 from rfl] at hst
       generalize hI : (ownK f q 2).foldl (putN (sdM f q)) ins = I at hIl hIb ⊢
       conv => whnf
       repeat' ((first | with_reducible refine IF.tt ?_ | with_reducible refine IF.ff ?_ | (refine LOOP.once Z2 ?_; conv => whnf) | (show DRAWN _ _ _ _ _ _ _; first | refine DRAWN.of (id := 16) Z2 mixed WO (by kernel_rfl) ?_) | refine ADD.mk (fun _ _ => ?_) | refine AD ?_ | refine FORK.mk ?_ ?_ | refine AU ?_ | (refine IW (fun h => ?_) (fun h => ?_) <;> try (exfalso; omega))) <;> conv => whnf)
       all_goals first
         | (have hst2 : ownK f q 3 = ownK f q 2 := by
              rw [hst, if_neg]
              rintro ⟨h1, h2⟩
              first | omega | exact h2 ((hmem h1).2 (by omega))
            refine ⟨3, by omega, by omega, ?_⟩
            rw [hst2, hI]
            (conv => whnf)
            exact GOES.cA h0)
         | (have h1 : 0 ≤ numM f q.o := by omega
            have hst2 : ownK f q 3 = ownK f q 2 ++ [numM f q.o] := by
              rw [hst, if_pos ⟨h1, fun h2 => by have h9 := (hmem h1).1 h2; first | exact h9 | omega⟩]
            have hnl : (numM f q.o).toNat < I.length := by rw [hIl]; exact hx h1
            have hIn : (List.map Jc I[(numM f q.o).toNat]).length ≤ 67108868 := by
              rw [List.length_map]
              have := hIb _ (List.getElem_mem hnl)
              omega
            refine GHO.drawn (GHO.take 2 (numM f q.o).toNat 0 rfl (YS hnl) rfl) ?_
            repeat' ((first | with_reducible refine IF.tt ?_ | with_reducible refine IF.ff ?_ | (show DRAWN _ _ _ _ _ _ _; first | refine DRAWN.of (id := 18) Z2 mixed WP (by kernel_rfl) ?_) | refine ADD.mk (fun _ _ => ?_) | refine AD ?_ | refine FORK.mk ?_ ?_ | (refine GET.at (by rw [Nat.zero_add]; exact YI (YS hnl)) ?_; conv => whnf) | (refine FINDD.at (by rw [Nat.zero_add]; exact YJ (YS hnl)) ?_; conv => whnf) | refine AU ?_ | (refine IW (fun h => ?_) (fun h => ?_) <;> try (exfalso; omega))) <;> conv => whnf)
            all_goals rw [Ur hnl (Nat.zero_add _) (s := sdM f q) (by rw [List.take_of_length_le (by simp), List.take_of_length_le (by simp)]; simp [Jc, sdM])]
            all_goals refine ⟨3, by omega, by omega, ?_⟩
            all_goals rw [hst2, List.foldl_append, hI]
            all_goals (conv => whnf)
            all_goals exact GOES.cA h0)
     · have hpt := fun hk => J4 hpl (t := q.g) (by simp [JL]) hk
       have hst := WR (f := f) (q := q) (k := 3) q.g rfl (fun hk => by obtain ⟨i, hi, _⟩ := hpt hk; omega)
       have hmem := fun h1 => (WQ (f := f) (q := q) (x := numM f q.g) h1).2.2.2
       have hx : 0 ≤ numM f q.g → (numM f q.g).toNat < ins.length := fun h1 => by
         by_cases hk : (q.g).k = 2
         · obtain ⟨i, hi, hi2, _⟩ := hpt hk
           rw [Xq hk] at h1 ⊢; omega
         · rw [Jq hk] at h1; omega
       have hIl := JM (sdM f q) (ownK f q 3) ins
       have hol := Up f q (k := 3) (by omega)
       have hIb := Xf (s := sdM f q) (L := ownK f q 3) hl
       rw [show ownK f q (3 + 1) = ownK f q 4 from rfl] at hst
       generalize hI : (ownK f q 3).foldl (putN (sdM f q)) ins = I at hIl hIb ⊢
       conv => whnf
       repeat' ((first | with_reducible refine IF.tt ?_ | with_reducible refine IF.ff ?_ | (refine LOOP.once Z2 ?_; conv => whnf) | (show DRAWN _ _ _ _ _ _ _; first | refine DRAWN.of (id := 16) Z2 mixed WO (by kernel_rfl) ?_) | refine ADD.mk (fun _ _ => ?_) | refine AD ?_ | refine FORK.mk ?_ ?_ | refine AU ?_ | (refine IW (fun h => ?_) (fun h => ?_) <;> try (exfalso; omega))) <;> conv => whnf)
       all_goals first
         | (have hst2 : ownK f q 4 = ownK f q 3 := by
              rw [hst, if_neg]
              rintro ⟨h1, h2⟩
              first | omega | exact h2 ((hmem h1).2 (by omega))
            refine ⟨4, by omega, by omega, ?_⟩
            rw [hst2, hI]
            (conv => whnf)
            exact GOES.cA h0)
         | (have h1 : 0 ≤ numM f q.g := by omega
            have hst2 : ownK f q 4 = ownK f q 3 ++ [numM f q.g] := by
              rw [hst, if_pos ⟨h1, fun h2 => by have h9 := (hmem h1).1 h2; first | exact h9 | omega⟩]
            have hnl : (numM f q.g).toNat < I.length := by rw [hIl]; exact hx h1
            have hIn : (List.map Jc I[(numM f q.g).toNat]).length ≤ 67108868 := by
              rw [List.length_map]
              have := hIb _ (List.getElem_mem hnl)
              omega
            refine GHO.drawn (GHO.take 2 (numM f q.g).toNat 0 rfl (YS hnl) rfl) ?_
            repeat' ((first | with_reducible refine IF.tt ?_ | with_reducible refine IF.ff ?_ | (show DRAWN _ _ _ _ _ _ _; first | refine DRAWN.of (id := 18) Z2 mixed WP (by kernel_rfl) ?_) | refine ADD.mk (fun _ _ => ?_) | refine AD ?_ | refine FORK.mk ?_ ?_ | (refine GET.at (by rw [Nat.zero_add]; exact YI (YS hnl)) ?_; conv => whnf) | (refine FINDD.at (by rw [Nat.zero_add]; exact YJ (YS hnl)) ?_; conv => whnf) | refine AU ?_ | (refine IW (fun h => ?_) (fun h => ?_) <;> try (exfalso; omega))) <;> conv => whnf)
            all_goals rw [Ur hnl (Nat.zero_add _) (s := sdM f q) (by rw [List.take_of_length_le (by simp), List.take_of_length_le (by simp)]; simp [Jc, sdM])]
            all_goals refine ⟨4, by omega, by omega, ?_⟩
            all_goals rw [hst2, List.foldl_append, hI]
            all_goals (conv => whnf)
            all_goals exact GOES.cA h0)
   · have hk : k = 4 := by simp at h; omega
     subst hk
     conv => whnf
     repeat' ((first | with_reducible refine IF.tt ?_ | with_reducible refine IF.ff ?_ | refine AU ?_ | (refine IW (fun h => ?_) (fun h => ?_) <;> try (exfalso; omega))) <;> conv => whnf)
     refine FIN.aA h0 [] (.tup []) [(2, .deep false 1 (inD (putS f ins q)))] ⟨rfl, rfl, rfl⟩
def WS : Plan := (ZB [(0, 1), (1, 1), (2, 1), (3, 1), (5, 1), (6, 1), (7, 1), (4, 2), (8, 2), (9, 1), (10, 1), (11, 2), (12, 1), (13, 1), (14, 1), (15, 0)])
def Vg (s : Seen) : List SV := [.bool s.self, .int .i64 s.cls, .int .i64 s.tm.k, .str s.tm.t, .str s.tm.y, .str s.tm.l]
def Jv (s : Sg) : List SV := Vg s.a ++ (Vg s.b ++ (Vg s.c ++ Vg s.d))
theorem Z8o (l : List Sg) : Zr (l.map Jv) = true := ZZ _ (fun _ => rfl) l
instance : PlF Jv := ⟨fun _ => rfl⟩
def Xs : Seen := ⟨false, 0, ZC⟩
structure SX where
 k : Nat
 a : Seen
 b : Seen
 c : Seen
 d : Seen
structure SInv (cl : List Int) (x : Nat) (s : Sd) (y : SX) : Prop where
 k : y.k ≤ 4
 a : y.a = if 0 < y.k then seeM cl x s.a s.q.s else Xs
 b : y.b = if 1 < y.k then seeM cl x s.b s.q.p else Xs
 c : y.c = if 2 < y.k then seeM cl x s.c s.q.o else Xs
 d : y.d = if 3 < y.k then seeM cl x s.d s.q.g else Xs
theorem Z9s {cl : List Int} {x : Nat} {n : Int} {t : Tm} (h : n < 0) : seeM cl x n t = ⟨false, 0, t⟩ := by unfold seeM; rw [if_pos h]
theorem Z9t {cl : List Int} {x : Nat} {n : Int} {t : Tm} (h : n = (x : Int)) : seeM cl x n t = ⟨true, 0, ZC⟩ := by unfold seeM; rw [if_neg (by omega), if_pos h]
theorem Z9u {ns : List Nd} {x : Nat} {n : Int} {t : Tm} (h : 0 ≤ n) (h2 : ¬ n = (x : Int)) (h3 : n.toNat < ns.length) : seeM (ns.map Nd.cls) x n t = ⟨false, 1 + ns[n.toNat].cls, ZC⟩ := by
 unfold seeM; rw [if_neg (by omega), if_neg h2, List.getD_eq_getElem?_getD, List.getElem?_map, List.getElem?_eq_getElem h3]; rfl
theorem Z9v {ins : List (List Sd)} {x : Nat} {sv : SV} (h : x < ins.length) : setC (setC (inD ins) x 0 (DC.v sv)) x 0 (.kid 20 ((ins[x].map Jc).take ins[x].length)) = inD ins := Z4z h rfl
theorem Zct (T : List Sg) (a b c d : Seen) {n : Nat} (hn : n = T.length) : List.take n (T.map Jv) ++ List.take 1 (List.drop 0 [[SV.bool a.self, .int .i64 a.cls, .int .i64 a.tm.k, .str a.tm.t, .str a.tm.y, .str a.tm.l, SV.bool b.self, .int .i64 b.cls, .int .i64 b.tm.k, .str b.tm.t, .str b.tm.y, .str b.tm.l, SV.bool c.self, .int .i64 c.cls, .int .i64 c.tm.k, .str c.tm.t, .str c.tm.y, .str c.tm.l, SV.bool d.self, .int .i64 d.cls, .int .i64 d.tm.k, .str d.tm.t, .str d.tm.y, .str d.tm.l]]) = (T ++ [Sg.mk a b c d]).map Jv := by
 subst hn
 rw [List.take_of_length_le (by simp), List.map_append]
 rfl
set_option maxHeartbeats 4000000 in
theorem Z3S (ns : List Nd) (ins : List (List Sd)) (x : Nat) (hW : WOK (ns.map Nd.cls) ins) (hx : x < ins.length) :
   Does Tryz.prog tab 102 3 [.ptr (.loc 0) 0 0 0, .int .i64 (x : Int)] [(2, .deep false 1 (inD ins))] [(0, rBx ns.length ins.length), (1, .rows 3 (ns.map Yi))]
   (fun r O nx => r = .sl (.loc 3) 0 24 ins[x].length none ∧ O = [(2, .deep false 1 (inD ins)), (3, .rows 24 ((ZL (ns.map Nd.cls) ins x).map Jv))] ∧ nx = 4) := by
 have hfew := hW.few _ (List.getElem_mem hx)
 have hsd := hW.sd _ (List.getElem_mem hx)
 have hsx : ZL (ns.map Nd.cls) ins x = ins[x].map (sgM (ns.map Nd.cls) x) := by unfold ZL; rw [List.getD_eq_getElem?_getD, List.getElem?_eq_getElem hx, Option.getD_some]
 rw [List.length_map] at hsd
 rw [hsx]
 refine Does.enter Z2 (g := 102) (fn := Tryz.f102) Tryz.call102 Tryz.func102 rfl 82 rfl rfl [.tmp 4] rfl ?_
 intro w0 F η0 h0
 conv => whnf
 repeat' ((first | with_reducible refine IF.tt ?_ | with_reducible refine IF.ff ?_ | refine AU ?_ | (refine IW (fun h => ?_) (fun h => ?_) <;> try (exfalso; omega))) <;> conv => whnf)
 refine GHO.loop (GHO.take 2 x 0 rfl (YS hx) rfl) (LOOP.nil 5 24 rfl ?_)
 rw [List.length_map]
 refine LOOP.gok Z2 [0, 1] [2, 3] (X := Nat) (fun i => i ≤ ins[x].length) (fun i => [(6, .int .i64 (i : Int)), (5, .sl (.loc 4) 0 24 i none)]) (fun i => [(4, .rows 24 (((ins[x].take i).map (sgM (ns.map Nd.cls) x)).map Jv))]) 5 (fun i => ins[x].length - i) 0 (by omega) ?_
 conv => whnf
 refine ⟨by exact GOES.cA h0, ?_⟩
 intro i hi
 conv => whnf
 repeat' ((first | with_reducible refine IF.tt ?_ | with_reducible refine IF.ff ?_ | (refine FINDD.at (by rw [Nat.zero_add, Int.toNat_natCast]; exact YJ (YS hx)) ?_; conv => whnf) | refine AU ?_ | (refine IW (fun h => ?_) (fun h => ?_) <;> try (exfalso; omega))) <;> conv => whnf)
 · have hil : i < ins[x].length := by omega
   have hs := hsd _ (List.getElem_mem hil)
   have hgs := Zq (f := Jc) hil rfl
   have hst : (ins[x].take (i + 1)).map (sgM (ns.map Nd.cls) x) = (ins[x].take i).map (sgM (ns.map Nd.cls) x) ++ [sgM (ns.map Nd.cls) x ins[x][i]] := by rw [List.take_succ_eq_append_getElem hil, List.map_append]; rfl
   have hTl : ((ins[x].take i).map (sgM (ns.map Nd.cls) x)).length = i := by rw [List.length_map, List.length_take]; omega
   generalize (ins[x].take i).map (sgM (ns.map Nd.cls) x) = T at hst hTl ⊢
   generalize ins[x][i] = s at hs hgs hst ⊢
   repeat' ((first | with_reducible refine IF.tt ?_ | with_reducible refine IF.ff ?_ | refine CALL.value (Z1U s.q) rfl rfl ?_ | (refine GET.at (row := Jc s) (by rw [Int.toNat_natCast, Nat.zero_add]; exact hgs) ?_; conv => whnf) | refine AU ?_ | (refine IW (fun h => ?_) (fun h => ?_) <;> try (exfalso; omega))) <;> conv => whnf)
   refine LOOP.gok Z2 [0, 1, 5, 6, 7, 8, 9] [2, 3, 4, 5, 6] (X := SX) (SInv (ns.map Nd.cls) x s) (fun y => [(10, .int .i64 (y.k : Int))]) (fun y => [(7, .rows 6 [Vg y.a, Vg y.b, Vg y.c, Vg y.d])]) 8 (fun y => 4 - y.k) ⟨0, Xs, Xs, Xs, Xs⟩ ⟨by simp, rfl, rfl, rfl, rfl⟩ ?_
   conv => whnf
   refine ⟨by exact GOES.cA h0, ?_⟩
   rintro ⟨k, a, b, c, d⟩ ⟨hk4, ha, hb, hc, hd⟩
   dsimp only at hk4 ha hb hc hd ⊢
   conv => whnf
   refine IF.mk (fun h1 => ?_) (fun h1 => ?_)
   · have hlt : k < 4 := by simp at h1; omega
     have hkk : k = 0 ∨ k = 1 ∨ k = 2 ∨ k = 3 := by omega
     rcases hkk with rfl | rfl | rfl | rfl
     · obtain ⟨hn0, hn1⟩ := hs.a
       simp at ha hb hc hd
       subst ha hb hc hd
       conv => whnf
       repeat' ((first | with_reducible refine IF.tt ?_ | with_reducible refine IF.ff ?_ | refine AU ?_ | (refine IW (fun h => ?_) (fun h => ?_) <;> try (exfalso; omega))) <;> conv => whnf)
       · have hv := (Z9s (cl := ns.map Nd.cls) (x := x) (n := s.a) (t := s.q.s) h).symm
         refine ⟨⟨0 + 1, ⟨false, 0, s.q.s⟩, Xs, Xs, Xs⟩, ⟨by dsimp only; omega, by simpa using hv, by simp, by simp, by simp⟩, by dsimp only; omega, ?_⟩
         dsimp only
         conv => whnf
         exact GOES.cA h0
       · have hv := (Z9t (cl := ns.map Nd.cls) (t := s.q.s) h).symm
         refine ⟨⟨0 + 1, ⟨true, 0, ZC⟩, Xs, Xs, Xs⟩, ⟨by dsimp only; omega, by simpa using hv, by simp, by simp, by simp⟩, by dsimp only; omega, ?_⟩
         dsimp only
         conv => whnf
         exact GOES.cA h0
       · have hnl : (s.a).toNat < ns.length := by omega
         have hc' := hW.cs _ (List.mem_map_of_mem (f := Nd.cls) (List.getElem_mem hnl))
         have hgn := Zq (f := Yi) hnl rfl
         have hv := (Z9u (ns := ns) (x := x) (t := s.q.s) (by omega) h hnl).symm
         generalize ns[(s.a).toNat] = nd at hc' hgn hv
         have hwc : IntKind.i64.wrap (1 + nd.cls) = 1 + nd.cls := Z8 (by omega) (by omega)
         repeat' ((first | with_reducible refine IF.tt ?_ | with_reducible refine IF.ff ?_ | (show DRAWN _ _ _ _ _ _ _; first | refine DRAWN.of (id := 11) Z2 mixed WS (by kernel_rfl) ?_) | refine ADD.mk (fun _ _ => ?_) | refine AD ?_ | refine FORK.mk ?_ ?_ | (refine GET.at (row := Yi nd) (by rw [Nat.zero_add]; exact hgn) ?_; conv => whnf) | refine AU ?_ | (refine IW (fun h => ?_) (fun h => ?_) <;> try (exfalso; omega))) <;> conv => whnf)
         all_goals rw [hwc]
         all_goals refine ⟨⟨0 + 1, ⟨false, 1 + nd.cls, ZC⟩, Xs, Xs, Xs⟩, ⟨by dsimp only; omega, by simpa using hv, by simp, by simp, by simp⟩, by dsimp only; omega, ?_⟩
         all_goals dsimp only
         all_goals (conv => whnf)
         all_goals exact GOES.cA h0
     · obtain ⟨hn0, hn1⟩ := hs.b
       simp at ha hb hc hd
       subst hb hc hd
       conv => whnf
       repeat' ((first | with_reducible refine IF.tt ?_ | with_reducible refine IF.ff ?_ | refine AU ?_ | (refine IW (fun h => ?_) (fun h => ?_) <;> try (exfalso; omega))) <;> conv => whnf)
       · have hv := (Z9s (cl := ns.map Nd.cls) (x := x) (n := s.b) (t := s.q.p) h).symm
         refine ⟨⟨1 + 1, a, ⟨false, 0, s.q.p⟩, Xs, Xs⟩, ⟨by dsimp only; omega, by simpa using ha, by simpa using hv, by simp, by simp⟩, by dsimp only; omega, ?_⟩
         dsimp only
         conv => whnf
         exact GOES.cA h0
       · have hv := (Z9t (cl := ns.map Nd.cls) (t := s.q.p) h).symm
         refine ⟨⟨1 + 1, a, ⟨true, 0, ZC⟩, Xs, Xs⟩, ⟨by dsimp only; omega, by simpa using ha, by simpa using hv, by simp, by simp⟩, by dsimp only; omega, ?_⟩
         dsimp only
         conv => whnf
         exact GOES.cA h0
       · have hnl : (s.b).toNat < ns.length := by omega
         have hc' := hW.cs _ (List.mem_map_of_mem (f := Nd.cls) (List.getElem_mem hnl))
         have hgn := Zq (f := Yi) hnl rfl
         have hv := (Z9u (ns := ns) (x := x) (t := s.q.p) (by omega) h hnl).symm
         generalize ns[(s.b).toNat] = nd at hc' hgn hv
         have hwc : IntKind.i64.wrap (1 + nd.cls) = 1 + nd.cls := Z8 (by omega) (by omega)
         repeat' ((first | with_reducible refine IF.tt ?_ | with_reducible refine IF.ff ?_ | (show DRAWN _ _ _ _ _ _ _; first | refine DRAWN.of (id := 11) Z2 mixed WS (by kernel_rfl) ?_) | refine ADD.mk (fun _ _ => ?_) | refine AD ?_ | refine FORK.mk ?_ ?_ | (refine GET.at (row := Yi nd) (by rw [Nat.zero_add]; exact hgn) ?_; conv => whnf) | refine AU ?_ | (refine IW (fun h => ?_) (fun h => ?_) <;> try (exfalso; omega))) <;> conv => whnf)
         all_goals rw [hwc]
         all_goals refine ⟨⟨1 + 1, a, ⟨false, 1 + nd.cls, ZC⟩, Xs, Xs⟩, ⟨by dsimp only; omega, by simpa using ha, by simpa using hv, by simp, by simp⟩, by dsimp only; omega, ?_⟩
         all_goals dsimp only
         all_goals (conv => whnf)
         all_goals exact GOES.cA h0
     · obtain ⟨hn0, hn1⟩ := hs.c
       simp at ha hb hc hd
       subst hc hd
       conv => whnf
       repeat' ((first | with_reducible refine IF.tt ?_ | with_reducible refine IF.ff ?_ | refine AU ?_ | (refine IW (fun h => ?_) (fun h => ?_) <;> try (exfalso; omega))) <;> conv => whnf)
       · have hv := (Z9s (cl := ns.map Nd.cls) (x := x) (n := s.c) (t := s.q.o) h).symm
         refine ⟨⟨2 + 1, a, b, ⟨false, 0, s.q.o⟩, Xs⟩, ⟨by dsimp only; omega, by simpa using ha, by simpa using hb, by simpa using hv, by simp⟩, by dsimp only; omega, ?_⟩
         dsimp only
         conv => whnf
         exact GOES.cA h0
       · have hv := (Z9t (cl := ns.map Nd.cls) (t := s.q.o) h).symm
         refine ⟨⟨2 + 1, a, b, ⟨true, 0, ZC⟩, Xs⟩, ⟨by dsimp only; omega, by simpa using ha, by simpa using hb, by simpa using hv, by simp⟩, by dsimp only; omega, ?_⟩
         dsimp only
         conv => whnf
         exact GOES.cA h0
       · have hnl : (s.c).toNat < ns.length := by omega
         have hc' := hW.cs _ (List.mem_map_of_mem (f := Nd.cls) (List.getElem_mem hnl))
         have hgn := Zq (f := Yi) hnl rfl
         have hv := (Z9u (ns := ns) (x := x) (t := s.q.o) (by omega) h hnl).symm
         generalize ns[(s.c).toNat] = nd at hc' hgn hv
         have hwc : IntKind.i64.wrap (1 + nd.cls) = 1 + nd.cls := Z8 (by omega) (by omega)
         repeat' ((first | with_reducible refine IF.tt ?_ | with_reducible refine IF.ff ?_ | (show DRAWN _ _ _ _ _ _ _; first | refine DRAWN.of (id := 11) Z2 mixed WS (by kernel_rfl) ?_) | refine ADD.mk (fun _ _ => ?_) | refine AD ?_ | refine FORK.mk ?_ ?_ | (refine GET.at (row := Yi nd) (by rw [Nat.zero_add]; exact hgn) ?_; conv => whnf) | refine AU ?_ | (refine IW (fun h => ?_) (fun h => ?_) <;> try (exfalso; omega))) <;> conv => whnf)
         all_goals rw [hwc]
         all_goals refine ⟨⟨2 + 1, a, b, ⟨false, 1 + nd.cls, ZC⟩, Xs⟩, ⟨by dsimp only; omega, by simpa using ha, by simpa using hb, by simpa using hv, by simp⟩, by dsimp only; omega, ?_⟩
         all_goals dsimp only
         all_goals (conv => whnf)
         all_goals exact GOES.cA h0
     · obtain ⟨hn0, hn1⟩ := hs.d
       simp at ha hb hc hd
       subst hd
       conv => whnf
       repeat' ((first | with_reducible refine IF.tt ?_ | with_reducible refine IF.ff ?_ | refine AU ?_ | (refine IW (fun h => ?_) (fun h => ?_) <;> try (exfalso; omega))) <;> conv => whnf)
       · have hv := (Z9s (cl := ns.map Nd.cls) (x := x) (n := s.d) (t := s.q.g) h).symm
         refine ⟨⟨3 + 1, a, b, c, ⟨false, 0, s.q.g⟩⟩, ⟨by dsimp only; omega, by simpa using ha, by simpa using hb, by simpa using hc, by simpa using hv⟩, by dsimp only; omega, ?_⟩
         dsimp only
         conv => whnf
         exact GOES.cA h0
       · have hv := (Z9t (cl := ns.map Nd.cls) (t := s.q.g) h).symm
         refine ⟨⟨3 + 1, a, b, c, ⟨true, 0, ZC⟩⟩, ⟨by dsimp only; omega, by simpa using ha, by simpa using hb, by simpa using hc, by simpa using hv⟩, by dsimp only; omega, ?_⟩
         dsimp only
         conv => whnf
         exact GOES.cA h0
       · have hnl : (s.d).toNat < ns.length := by omega
         have hc' := hW.cs _ (List.mem_map_of_mem (f := Nd.cls) (List.getElem_mem hnl))
         have hgn := Zq (f := Yi) hnl rfl
         have hv := (Z9u (ns := ns) (x := x) (t := s.q.g) (by omega) h hnl).symm
         generalize ns[(s.d).toNat] = nd at hc' hgn hv
         have hwc : IntKind.i64.wrap (1 + nd.cls) = 1 + nd.cls := Z8 (by omega) (by omega)
         repeat' ((first | with_reducible refine IF.tt ?_ | with_reducible refine IF.ff ?_ | (show DRAWN _ _ _ _ _ _ _; first | refine DRAWN.of (id := 11) Z2 mixed WS (by kernel_rfl) ?_) | refine ADD.mk (fun _ _ => ?_) | refine AD ?_ | refine FORK.mk ?_ ?_ | (refine GET.at (row := Yi nd) (by rw [Nat.zero_add]; exact hgn) ?_; conv => whnf) | refine AU ?_ | (refine IW (fun h => ?_) (fun h => ?_) <;> try (exfalso; omega))) <;> conv => whnf)
         all_goals rw [hwc]
         all_goals refine ⟨⟨3 + 1, a, b, c, ⟨false, 1 + nd.cls, ZC⟩⟩, ⟨by dsimp only; omega, by simpa using ha, by simpa using hb, by simpa using hc, by simpa using hv⟩, by dsimp only; omega, ?_⟩
         all_goals dsimp only
         all_goals (conv => whnf)
         all_goals exact GOES.cA h0
   · have hk : k = 4 := by simp at h1; omega
     subst hk
     conv => whnf
     repeat' ((first | with_reducible refine IF.tt ?_ | with_reducible refine IF.ff ?_ | (refine NEED.mk (Zu 288 rfl rfl rfl (by rw [List.length_map, hTl]; exact Nat.le_refl _) (by omega)) ?_; conv => whnf) | refine AU ?_ | (refine IW (fun h => ?_) (fun h => ?_) <;> try (exfalso; omega))) <;> conv => whnf)
     simp at ha hb hc hd
     have hsg : sgM (ns.map Nd.cls) x s = ⟨a, b, c, d⟩ := by unfold sgM; rw [ha, hb, hc, hd]
     rw [hsg] at hst
     rw [Zct T a b c d hTl.symm]
     refine ⟨i + 1, by omega, by omega, ?_⟩
     rw [hst]
     conv => whnf
     exact GOES.kA h0 [3, 9]
 · have hie : i = ins[x].length := by omega
   subst hie
   rw [List.take_length]
   refine GHO.fin (GHO.putk 2 x 0 3 rfl (Z4y hx rfl) rfl rfl (by rw [List.length_map]; exact Nat.le_refl _) (by decide)) ?_
   rw [Z9v hx]
   refine FIN.aA h0 [4] (.sl (.loc 3) 0 24 ins[x].length none) [(2, .deep false 1 (inD ins)), (3, .rows 24 ((ins[x].map (sgM (ns.map Nd.cls) x)).map Jv))] ⟨rfl, rfl, rfl⟩
def Z9w : Plan := (ZB [(0, 1), (1, 1), (2, 1), (3, 2), (4, 1), (5, 1), (6, 1), (7, 1), (8, 1), (10, 1), (11, 1), (12, 1), (9, 2), (13, 2), (14, 1), (15, 1)])
def JX : List Sg → List Bool → List Sg
 | x :: b, u :: us => if u = true then JX b us else x :: JX b us
 | _, _ => []
theorem Z2M : ∀ b : List Sg, JX b (List.replicate b.length false) = b
 | [] => rfl
 | x :: b => by rw [List.length_cons, List.replicate_succ, JX, if_neg (by simp), Z2M b]
theorem Z5x : ∀ {b : List Sg} {us : List Bool} {k : Nat} (hb : k < b.length), us[k]? = some false → (JX b us).Perm (b[k] :: JX b (us.set k true))
 | [], _, _, hb, _ => absurd hb (by simp)
 | x :: b, [], _, _, h => by simp at h
 | x :: b, u :: us, 0, _, h => by
   simp at h
   subst h
   rw [List.set_cons_zero, JX, JX, if_neg (by simp), if_pos rfl]
   exact List.Perm.refl _
 | x :: b, u :: us, k + 1, hb, h => by
   have ih := Z5x (b := b) (us := us) (k := k) (by simpa using hb) (by simpa using h)
   rw [List.set_cons_succ, JX, JX, List.getElem_cons_succ]
   split
   · exact ih
   · exact (ih.cons x).trans (List.Perm.swap ..)
theorem Z5y : ∀ {b : List Sg} {us : List Bool} {x : Sg}, x ∈ JX b us → ∃ k, ∃ h : k < b.length, us[k]? = some false ∧ b[k] = x
 | [], _, _, h => by simp [JX] at h
 | y :: b, [], _, h => by simp [JX] at h
 | y :: b, u :: us, x, h => by
   rw [JX] at h
   have up : x ∈ JX b us → ∃ k, ∃ h : k < (y :: b).length, (u :: us)[k]? = some false ∧ (y :: b)[k] = x := fun h => by
     obtain ⟨k, hk, h1, h2⟩ := Z5y h
     exact ⟨k + 1, by simpa using hk, by simpa using h1, by simpa using h2⟩
   split at h
   · exact up h
   · rename_i hu
     rcases List.mem_cons.1 h with rfl | h
     · exact ⟨0, by simp, by simpa using hu, rfl⟩
     · exact up h
def bRow (b : Bool) : List SV := [.bool b]
instance : PlF bRow := ⟨fun _ => rfl⟩
theorem Zd0 (a b : Sg) : a = b ↔ a.a.self = b.a.self ∧ a.a.cls = b.a.cls ∧ a.a.tm.k = b.a.tm.k ∧ a.a.tm.t = b.a.tm.t ∧ a.a.tm.y = b.a.tm.y ∧ a.a.tm.l = b.a.tm.l ∧ a.b.self = b.b.self ∧ a.b.cls = b.b.cls ∧ a.b.tm.k = b.b.tm.k ∧ a.b.tm.t = b.b.tm.t ∧ a.b.tm.y = b.b.tm.y ∧ a.b.tm.l = b.b.tm.l ∧ a.c.self = b.c.self ∧ a.c.cls = b.c.cls ∧ a.c.tm.k = b.c.tm.k ∧ a.c.tm.t = b.c.tm.t ∧ a.c.tm.y = b.c.tm.y ∧ a.c.tm.l = b.c.tm.l ∧ a.d.self = b.d.self ∧ a.d.cls = b.d.cls ∧ a.d.tm.k = b.d.tm.k ∧ a.d.tm.t = b.d.tm.t ∧ a.d.tm.y = b.d.tm.y ∧ a.d.tm.l = b.d.tm.l := by
 obtain ⟨⟨_, _, ⟨_, _, _, _⟩⟩, ⟨_, _, ⟨_, _, _, _⟩⟩, ⟨_, _, ⟨_, _, _, _⟩⟩, ⟨_, _, ⟨_, _, _, _⟩⟩⟩ := a
 obtain ⟨⟨_, _, ⟨_, _, _, _⟩⟩, ⟨_, _, ⟨_, _, _, _⟩⟩, ⟨_, _, ⟨_, _, _, _⟩⟩, ⟨_, _, ⟨_, _, _, _⟩⟩⟩ := b
 simp [and_assoc]
set_option maxHeartbeats 4000000 in
theorem Z6r (a b : List Sg) (ha : a.length ≤ 67108864) (hb : b.length ≤ 67108864) : Does Tryz.prog tab 103 2 [.sl (.loc 0) 0 24 a.length none, .sl (.loc 1) 0 24 b.length none] [] [(0, .rows 24 (a.map Jv)), (1, .rows 24 (b.map Jv))] (ValK 2 (.bool (a.isPerm b))) := by
 by_cases hl : a.length = b.length
 · have hz : (List.replicate b.length false).map bRow = List.replicate (b.length : Int).toNat [SV.bool false] := by rw [List.map_replicate, Int.toNat_natCast]; rfl
   refine Does.enter Z2 (g := 103) (fn := Tryz.f103) Tryz.call103 Tryz.func103 rfl 54 rfl rfl [.tmp 4] rfl ?_
   intro w0 F η0 h0
   conv => whnf
   repeat' ((first | with_reducible refine IF.tt ?_ | with_reducible refine IF.ff ?_ | (refine NEED.mk (VY 8 rfl (by omega) (by omega) (by omega) (by omega)) ?_; conv => whnf) | refine AU ?_ | (refine IW (fun h => ?_) (fun h => ?_) <;> try (exfalso; omega))) <;> conv => whnf)
   rw [← hz]
   refine LOOP.go Z2 [0, 1, 5] (X := Nat × List Bool) (fun x => x.1 ≤ a.length ∧ x.2.length = b.length ∧ x.1 + (JX b x.2).length = b.length ∧ (a.Perm b ↔ (a.drop x.1).Perm (JX b x.2))) (fun x => [(6, .int .i64 (x.1 : Int))]) (fun x => [(2, .rows 1 (x.2.map bRow))]) 3 (fun x => a.length - x.1) (0, List.replicate b.length false) ⟨by simp, by simp, by rw [Z2M]; simp, by rw [Z2M]; rfl⟩ ?_
   conv => whnf
   refine ⟨by exact GOES.kA h0 [2], ?_⟩
   rintro ⟨i, us⟩ ⟨hi, hul, hfl, hp⟩
   dsimp only at hi hul hfl hp ⊢
   conv => whnf
   repeat' ((first | with_reducible refine IF.tt ?_ | with_reducible refine IF.ff ?_ | refine AU ?_ | (refine IW (fun h => ?_) (fun h => ?_) <;> try (exfalso; omega))) <;> conv => whnf)
   · have hil : i < a.length := by omega
     have hdr : a.drop i = a[i] :: a.drop (i + 1) := List.drop_eq_getElem_cons hil
     have hga := Zq (f := Jv) hil rfl
     rw [hdr] at hp
     generalize a[i] = y at hp hga
     refine LOOP.go Z2 [0, 1, 5, 6] (X := Nat × (Bool × List Bool)) (fun x => x.1 ≤ b.length ∧ x.2.2.length = b.length ∧ (x.2.1 = false → x.2.2 = us ∧ ∀ k (h : k < b.length), k < x.1 → us[k]? = some false → ¬ y = b[k]) ∧ (x.2.1 = true → ∃ j, ∃ h : j < b.length, us[j]? = some false ∧ y = b[j] ∧ x.2.2 = us.set j true)) (fun x => [(8, .int .i64 (x.1 : Int)), (7, .bool x.2.1)]) (fun x => [(2, .rows 1 (x.2.2.map bRow))]) 3 (fun x => b.length - x.1) (0, (false, us)) ⟨by simp, hul, fun _ => ⟨rfl, fun k _ h => by simp at h⟩, fun h => by cases h⟩ ?_
     conv => whnf
     refine ⟨by exact GOES.cA h0, ?_⟩
     rintro ⟨k, fo, vs⟩ ⟨hk, hvl, hno, hyes⟩
     dsimp only at hk hvl hno hyes ⊢
     conv => whnf
     repeat' ((first | with_reducible refine IF.tt ?_ | with_reducible refine IF.ff ?_ | refine AU ?_ | (refine IW (fun h => ?_) (fun h => ?_) <;> try (exfalso; omega))) <;> conv => whnf)
     · obtain ⟨h1, h2⟩ := h
       obtain ⟨hvs, hne⟩ := hno h2
       subst hvs
       have hkb : k < b.length := by omega
       have hku : k < vs.length := by omega
       have hgu := Zq (f := bRow) hku rfl
       have hgb := Zq (f := Jv) hkb rfl
       have hsg := Zd0 y b[k]
       have hgv := List.getElem?_eq_getElem hku
       generalize vs[k] = u at hgu hgv
       repeat' ((first | with_reducible refine IF.tt ?_ | with_reducible refine IF.ff ?_ | (show DRAWN _ _ _ _ _ _ _; first | refine DRAWN.of (id := 11) Z2 mixed Z9w (by kernel_rfl) ?_) | refine ADD.mk (fun _ _ => ?_) | refine AD ?_ | refine FORK.mk ?_ ?_ | (refine GET.at (row := bRow u) (by rw [Int.toNat_natCast, Nat.zero_add]; exact hgu) ?_; conv => whnf) | (refine GET.at (row := Jv y) (by rw [Int.toNat_natCast, Nat.zero_add]; exact hga) ?_; conv => whnf) | (refine GET.at (row := Jv b[k]) (by rw [Int.toNat_natCast, Nat.zero_add]; exact hgb) ?_; conv => whnf) | refine AU ?_ | (refine IW (fun h => ?_) (fun h => ?_) <;> try (exfalso; omega))) <;> conv => whnf)
       · have he := hsg.2 h
         have hu : u = false := by assumption
         subst hu
         refine ⟨(k + 1, (true, vs.set k true)), ⟨by dsimp only; omega, by dsimp only; rw [List.length_set]; omega, fun h3 => (by cases h3), fun _ => ⟨k, hkb, hgv, he, rfl⟩⟩, by dsimp only; omega, ?_⟩
         dsimp only
         rw [show (vs.map bRow).set (0 + (k : Int).toNat) [ZX (Value.bool true)] = (vs.set k true).map bRow by rw [Nat.zero_add, Int.toNat_natCast]; exact Z2k bRow vs k true]
         conv => whnf
         exact GOES.cA h0
       · have hn : ¬ y = b[k] := fun e => by rw [← e] at h; simp at h
         refine ⟨(k + 1, (false, vs)), ⟨by dsimp only; omega, by dsimp only; omega, fun _ => ⟨rfl, fun k2 h2' h3 h4 => ?_⟩, fun h3 => by cases h3⟩, by dsimp only; omega, ?_⟩
         · dsimp only at h3
           rcases Nat.lt_or_ge k2 k with h5 | h5
           · exact hne k2 h2' h5 h4
           · have : k2 = k := by omega
             subst this; exact hn
         · dsimp only
           rw [h2]
           conv => whnf
           exact GOES.cA h0
       · subst h
         refine ⟨(k + 1, (false, vs)), ⟨by dsimp only; omega, by dsimp only; omega, fun _ => ⟨rfl, fun k2 h2' h3 h4 => ?_⟩, fun h3 => by cases h3⟩, by dsimp only; omega, ?_⟩
         · dsimp only at h3
           rcases Nat.lt_or_ge k2 k with h5 | h5
           · exact hne k2 h2' h5 h4
           · have : k2 = k := by omega
             subst this; rw [hgv] at h4; cases h4
         · dsimp only
           rw [h2]
           conv => whnf
           exact GOES.cA h0
     · have hke : k = b.length := by
         rcases Nat.lt_or_ge k b.length with h2 | h2
         · rename_i h'; have := h' (by omega); rw [h] at this; cases this
         · omega
       obtain ⟨rfl, hne⟩ := hno h
       refine FIN.valueK h0 rfl (congrArg SV.bool ?_)
       cases hpb : a.isPerm b with
       | false => rfl
       | true =>
         have h1 := (hp.1 (List.isPerm_iff.1 hpb)).mem_iff.1 (List.mem_cons_self ..)
         obtain ⟨j, hj, h2, h3⟩ := Z5y h1
         exact (hne j hj (by omega) h2 h3.symm).elim
     · obtain ⟨j, hj, h2, h3, h4⟩ := hyes h
       subst h4 h3
       have hfs := Z5x hj h2
       have hfl2 := hfs.length_eq
       rw [List.length_cons] at hfl2
       refine ⟨(i + 1, us.set j true), ⟨by dsimp only; omega, by dsimp only; rw [List.length_set]; exact hul, by dsimp only; omega, ?_⟩, by dsimp only; omega, ?_⟩
       · dsimp only
         rw [hp]
         exact ⟨fun h5 => (List.perm_cons b[j]).1 (h5.trans hfs), fun h5 => ((List.perm_cons b[j]).2 h5).trans hfs.symm⟩
       · dsimp only
         conv => whnf
         exact GOES.cA h0
   · have hie : i = a.length := by omega
     subst hie
     have hf0 : JX b us = [] := List.length_eq_zero_iff.1 (by omega)
     refine FIN.valueK h0 rfl (congrArg SV.bool ?_)
     rw [List.isPerm_iff.2 (hp.2 (by rw [List.drop_length, hf0]))]
 · have hnp : a.isPerm b = false := by
     cases h : a.isPerm b with
     | false => rfl
     | true => exact (hl (List.isPerm_iff.1 h).length_eq).elim
   rw [hnp]
   refine Does.enter Z2 (g := 103) (fn := Tryz.f103) Tryz.call103 Tryz.func103 rfl 54 rfl rfl [.tmp 4] rfl ?_
   intro w0 F η0 h0
   conv => whnf
   repeat' ((first | with_reducible refine IF.tt ?_ | with_reducible refine IF.ff ?_ | refine AU ?_ | (refine IW (fun h => ?_) (fun h => ?_) <;> try (exfalso; omega))) <;> conv => whnf)
   · exact FIN.valueK h0 rfl rfl
def Z5z : Plan := (ZB [(0, 1), (1, 1), (2, 1), (4, 1), (5, 1), (6, 1), (11, 1), (12, 1), (13, 1), (15, 1), (3, 2), (7, 2), (8, 1), (9, 1), (10, 2), (14, 2), (16, 1), (17, 1), (18, 2), (19, 1), (20, 1), (21, 1), (22, 1), (23, 1), (24, 1), (28, 1), (29, 1), (30, 1), (25, 2), (26, 1), (27, 2), (31, 2), (32, 3), (33, 1)])
def Z9x : Plan := (ZB [(0, 1), (1, 1), (2, 1), (4, 1), (5, 1), (6, 1), (7, 1), (3, 2), (8, 2), (9, 1), (10, 1), (11, 0)])
def upC (m c : Int) : Int := if m < c + 1 then c + 1 else m
def maxC (cl : List Int) : Int := cl.foldl upC 0
theorem Z4F (ns : List Nd) (ni : Nat) (hc : ∀ n ∈ ns, 0 ≤ n.cls ∧ n.cls < 67108864) (hl : ns.length ≤ 67108864) : Does Tryz.prog tab 82 3 [.ptr (.loc 0) 0 0 0] [] [(0, rBx ns.length ni), (1, .rows 3 (ns.map Yi))] (ValK 3 (.int .i64 (maxC (ns.map Nd.cls)))) := by
 have hb : ∀ i, -9223372036854775808 ≤ maxC ((ns.take i).map Nd.cls) ∧ maxC ((ns.take i).map Nd.cls) ≤ 67108864 := by
   intro i
   have : ∀ (l : List Int) (m : Int), (∀ c ∈ l, 0 ≤ c ∧ c < 67108864) → 0 ≤ m ∧ m ≤ 67108864 → 0 ≤ l.foldl upC m ∧ l.foldl upC m ≤ 67108864 := by
     intro l
     induction l with
     | nil => intro m _ h; exact h
     | cons c l ih =>
       intro m h1 h2
       have h3 := h1 c (List.mem_cons_self ..)
       exact ih _ (fun x hx => h1 x (List.mem_cons_of_mem _ hx)) (by unfold upC; split <;> omega)
   have := this ((ns.take i).map Nd.cls) 0 (fun c h => by obtain ⟨n, hn, rfl⟩ := List.mem_map.1 h; exact hc n (List.mem_of_mem_take hn)) (by omega)
   unfold maxC; omega
 refine Does.enter Z2 (g := 82) (fn := Tryz.f82) Tryz.call82 Tryz.func82 rfl 26 rfl rfl [.tmp 2] rfl ?_
 intro w0 F η0 h0
 conv => whnf
 repeat' ((first | with_reducible refine IF.tt ?_ | with_reducible refine IF.ff ?_ | refine AU ?_ | (refine IW (fun h => ?_) (fun h => ?_) <;> try (exfalso; omega))) <;> conv => whnf)
 refine LOOP.go Z2 [0] (X := Nat) (fun i => i ≤ ns.length) (fun i => [(4, .int .i64 (i : Int)), (3, .int .i64 (maxC ((ns.take i).map Nd.cls)))]) (fun _ => []) 3 (fun i => ns.length - i) 0 (by omega) ?_
 conv => whnf
 refine ⟨by rw [show maxC ((ns.take 0).map Nd.cls) = 0 from rfl]; exact GOES.cA h0, ?_⟩
 intro i hi
 have hbi := hb i
 conv => whnf
 repeat' ((first | with_reducible refine IF.tt ?_ | with_reducible refine IF.ff ?_ | refine AU ?_ | (refine IW (fun h => ?_) (fun h => ?_) <;> try (exfalso; omega))) <;> conv => whnf)
 · have hil : i < ns.length := by omega
   have hst : maxC ((ns.take (i + 1)).map Nd.cls) = upC (maxC ((ns.take i).map Nd.cls)) ns[i].cls := by
     rw [List.take_succ_eq_append_getElem hil, List.map_append]; unfold maxC; rw [List.foldl_append]; rfl
   have hgn := Zq (f := Yi) hil rfl
   have hcn := hc _ (List.getElem_mem hil)
   generalize ns[i] = nd at hst hgn hcn
   have hwc : IntKind.i64.wrap (nd.cls + 1) = nd.cls + 1 := Z8 (by omega) (by omega)
   generalize maxC ((ns.take i).map Nd.cls) = m at hst hbi ⊢
   repeat' ((first | with_reducible refine IF.tt ?_ | with_reducible refine IF.ff ?_ | (refine GET.at (row := Yi nd) (by rw [Int.toNat_natCast, Nat.zero_add]; exact hgn) ?_; conv => whnf) | refine AU ?_ | (refine IW (fun h => ?_) (fun h => ?_) <;> try (exfalso; omega))) <;> conv => whnf)
   rw [hwc]
   refine ⟨i + 1, by omega, by omega, ?_⟩
   rw [hst]
   unfold upC
   conv => whnf
   exact GOES.cA h0
 · have hie : i = ns.length := by omega
   subst hie
   rw [List.take_length]
   exact FIN.valueK h0 rfl rfl
def ssM (cl : List Int) (ins : List (List Sd)) (i : Nat) : List (List Sg) := (List.range cl.length).map fun j => if j < i then ZL cl ins j else []
theorem Z8p (cl : List Int) (ins : List (List Sd)) (i : Nat) : (ssM cl ins i).length = cl.length := by simp [ssM]
theorem Zbf (cl : List Int) (ins : List (List Sd)) : ssM cl ins 0 = List.replicate cl.length [] := by
 unfold ssM
 apply List.ext_getElem
 · simp
 · intro i h1 h2; simp
theorem Zcu {cl : List Int} {ins : List (List Sd)} {i : Nat} : (ssM cl ins i).set i (ZL cl ins i) = ssM cl ins (i + 1) := by
 unfold ssM
 apply List.ext_getElem
 · simp
 · intro a h1 h2
   rw [List.getElem_set]
   simp only [List.getElem_map, List.getElem_range]
   split
   · rename_i e; subst e; rw [if_pos (by omega)]
   · rename_i e
     by_cases h3 : a < i
     · rw [if_pos h3, if_pos (by omega)]
     · rw [if_neg h3, if_neg (by omega)]
theorem Zcv {cl : List Int} {ins : List (List Sd)} {j : Nat} (h : j < (ssM cl ins cl.length).length) : (ssM cl ins cl.length)[j] = ZL cl ins j := by
 have h2 : j < cl.length := by rw [Z8p] at h; exact h
 have h3 : (ssM cl ins cl.length)[j]? = some (ZL cl ins j) := by unfold ssM; rw [List.getElem?_map, List.getElem?_range h2]; simp [h2]
 rw [List.getElem?_eq_getElem h] at h3
 injection h3
theorem Zbg {l : List Int} {k x : Nat} {v : Int} (hk : k = x) : (l.map ZK).set k [ZX (Value.int .i64 v)] = (l.set x v).map ZK := Z3N hk
def setN (ns : List Nd) (C : List Int) : List Nd := List.zipWith (fun n c => { n with cls := c }) ns C
theorem Zcw {l : List Nd} {k x : Nat} {o c : Int} {t : LB} (hk : k = x) : (l.map Yi).set k [SV.int .i64 o, SV.str t, SV.int .i64 c] = (l.set x ⟨o, t, c⟩).map Yi := by rw [hk, List.map_set]; rfl
theorem Z2N {ns : List Nd} {C : List Int} (h : C.length = ns.length) : (setN ns C).length = ns.length := by unfold setN; rw [List.length_zipWith]; omega
def setP (ns : List Nd) (C : List Int) (i : Nat) : List Nd := setN (ns.take i) (C.take i) ++ ns.drop i
theorem Z8q (ns : List Nd) (C : List Int) : setP ns C 0 = ns := by simp [setP, setN]
theorem Z9y {ns : List Nd} {C : List Int} (h : C.length = ns.length) : setP ns C ns.length = setN ns C := by
 unfold setP; rw [List.take_length, List.drop_length, List.append_nil, List.take_of_length_le (by omega)]
theorem Z14 {ns : List Nd} {C : List Int} {i : Nat} (h : C.length = ns.length) (hi : i ≤ ns.length) : (setN (ns.take i) (C.take i)).length = i := by
 rw [Z2N (by rw [List.length_take, List.length_take, h]), List.length_take]; omega
theorem Z9z {ns : List Nd} {C : List Int} {i : Nat} (h : C.length = ns.length) (hi : i ≤ ns.length) : (setP ns C i).length = ns.length := by
 unfold setP; rw [List.length_append, Z14 h hi, List.length_drop]; omega
theorem Z9A {ns : List Nd} {C : List Int} {i : Nat} (h : C.length = ns.length) (hi : i < ns.length) : (setP ns C i)[i]? = some ns[i] := by
 unfold setP
 rw [List.getElem?_append_right (by rw [Z14 h (by omega)]; exact Nat.le_refl _), Z14 h (by omega), Nat.sub_self, List.getElem?_drop, Nat.add_zero, List.getElem?_eq_getElem hi]
theorem Z9B {ns : List Nd} {C : List Int} {i : Nat} (h : C.length = ns.length) (hi : i < ns.length) : (setP ns C i).set i { ns[i] with cls := C[i]'(by omega) } = setP ns C (i + 1) := by
 unfold setP
 rw [List.set_append_right _ _ (by rw [Z14 h (by omega)]; exact Nat.le_refl _), Z14 h (by omega), Nat.sub_self, List.drop_eq_getElem_cons hi, List.set_cons_zero]
 rw [List.take_succ_eq_append_getElem hi, List.take_succ_eq_append_getElem (show i < C.length by omega)]
 unfold setN
 rw [List.zipWith_append (by rw [List.length_take, List.length_take, h]), List.append_assoc]
 rfl
set_option maxHeartbeats 4000000 in
theorem Z4G (ns : List Nd) (ins : List (List Sd)) (hW : WOK (ns.map Nd.cls) ins) :
   Does Tryz.prog tab 72 3 [.ptr (.loc 0) 0 0 0] [(1, .rows 3 (ns.map Yi)), (2, .deep false 1 (inD ins))] [(0, rBx ns.length ins.length)]
   (fun r O nx => r = .bool (decide (maxC (ns.map Nd.cls) < ((Zm (Yt (ns.map Nd.cls) ins)).length : Int))) ∧ O = [(1, .rows 3 ((setN ns (Yj (Yt (ns.map Nd.cls) ins))).map Yi)), (2, .deep false 1 (inD ins))] ∧ nx = 3) := by
 have hln := hW.len
 have hn := hW.n
 have hcs := hW.cs
 have hki := Zb9 (fun c h => (hcs c h).1) ins
 have hkl := WK (ns.map Nd.cls) ins
 have hcN : ∀ n ∈ ns, 0 ≤ n.cls ∧ n.cls < 67108864 := fun n h => hcs _ (List.mem_map_of_mem h)
 rw [List.length_map] at hln hn hkl
 refine Does.enter Z2 (g := 72) (fn := Tryz.f72) Tryz.call72 Tryz.func72 rfl 141 rfl rfl [.tmp 2] rfl ?_
 intro w0 F η0 h0
 conv => whnf
 repeat' ((first | with_reducible refine IF.tt ?_ | with_reducible refine IF.ff ?_ | (refine NEED.mk (VY 24 rfl (by omega) (by omega) (by omega) (by omega)) ?_; conv => whnf) | refine AU ?_ | (refine IW (fun h => ?_) (fun h => ?_) <;> try (exfalso; omega))) <;> conv => whnf)
 rw [Int.toNat_natCast]
 refine GHO.loop (GHO.deepen 3 (kD 24 Jv (List.replicate ns.length [])) rfl (Z8k 24 Jv _)) ?_
 refine LOOP.gok Z2 [0, 3] [1, 2] (X := Nat) (fun i => i ≤ ns.length) (fun i => [(4, .int .i64 (i : Int))]) (fun i => [(3, .deep false 1 (kD 24 Jv (ssM (ns.map Nd.cls) ins i)))]) 4 (fun i => ns.length - i) 0 (by omega) ?_
 conv => whnf
 refine ⟨by rw [Zbf, List.length_map]; exact GOES.cA h0, ?_⟩
 intro i hi
 conv => whnf
 repeat' ((first | with_reducible refine IF.tt ?_ | with_reducible refine IF.ff ?_ | refine AU ?_ | (refine IW (fun h => ?_) (fun h => ?_) <;> try (exfalso; omega))) <;> conv => whnf)
 · have hil : i < ns.length := by omega
   have hsg := Z3S ns ins i hW (by omega)
   have hset := Zcu (cl := ns.map Nd.cls) (ins := ins) (i := i)
   have hsl := Z8p (ns.map Nd.cls) ins i
   rw [List.length_map] at hsl
   generalize ssM (ns.map Nd.cls) ins i = SS at hset hsl ⊢
   have hsgl : ((ZL (ns.map Nd.cls) ins i).map Jv).length = (ins[i]'(by omega)).length := by
     rw [List.length_map]; unfold ZL; rw [List.length_map, List.getD_eq_getElem?_getD, List.getElem?_eq_getElem (by omega), Option.getD_some]
   repeat' ((first | with_reducible refine IF.tt ?_ | with_reducible refine IF.ff ?_ | refine AU ?_ | (refine IW (fun h => ?_) (fun h => ?_) <;> try (exfalso; omega))) <;> conv => whnf)
   refine CALL.aA [0, 1, 2] (hsg) ?_
   rintro r O nx ⟨rfl, rfl, rfl⟩
   conv => whnf
   repeat' ((first | with_reducible refine IF.tt ?_ | with_reducible refine IF.ff ?_ | (refine FINDD.at (Z8i (i := i) (by omega) (by omega)) ?_; conv => whnf) | (refine NEED.mk (by rw [Z9 _ (Z8o _), hsgl]; exact Nat.le_refl _) ?_; conv => whnf) | refine AU ?_ | (refine IW (fun h => ?_) (fun h => ?_) <;> try (exfalso; omega))) <;> conv => whnf)
   rw [Z9 _ (Z8o _), Z2J (i := i) (l := ZL (ns.map Nd.cls) ins i) (by omega) (by rw [← hsgl, List.take_length]), hset]
   refine ⟨i + 1, by omega, by omega, ?_⟩
   conv => whnf
   exact GOES.cA h0
 · have hie : i = ns.length := by omega
   subst hie
   have hSl := Z8p (ns.map Nd.cls) ins ns.length
   have hSg := fun j h => Zcv (cl := ns.map Nd.cls) (ins := ins) (j := j) h
   rw [List.length_map] at hSl hSg
   generalize ssM (ns.map Nd.cls) ins ns.length = SS at hSl hSg ⊢
   have hz : (Je (Yt (ns.map Nd.cls) ins) ns.length 0).map ZK = List.replicate (ns.length : Int).toNat [SV.int .i64 0] := by
     unfold Je; rw [List.take_zero, List.nil_append, List.map_replicate, Nat.sub_zero, Int.toNat_natCast]; rfl
   repeat' ((first | with_reducible refine IF.tt ?_ | with_reducible refine IF.ff ?_ | (refine NEED.mk (VY 8 rfl (by omega) (by omega) (by omega) (by omega)) ?_; conv => whnf) | refine AU ?_ | (refine IW (fun h => ?_) (fun h => ?_) <;> try (exfalso; omega))) <;> conv => whnf)
   rw [← hz]
   refine LOOP.nil 5 1 rfl ?_
   generalize hks : Yt (ns.map Nd.cls) ins = ks at hkl hz ⊢
   refine LOOP.gok Z2 [0, 3, 6] [1, 2, 3] (X := Nat × List Nat) (fun x => x.1 ≤ ns.length ∧ x.2.map (keyM (ns.map Nd.cls) ins) = Zm (ks.take x.1) ∧ ∀ j ∈ x.2, j < x.1) (fun x => [(7, .int .i64 (x.1 : Int)), (5, .sl (.loc 5) 0 1 x.2.length none)]) (fun x => [(4, .rows 1 ((Je ks ns.length x.1).map ZK)), (5, .rows 1 ((x.2.map fun (j : Nat) => (j : Int)).map ZK))]) 6 (fun x => ns.length - x.1) (0, []) ⟨by simp, rfl, fun j h => by cases h⟩ ?_
   conv => whnf
   refine ⟨by exact GOES.kA h0 [3, 4, 5], ?_⟩
   rintro ⟨i, fs⟩ ⟨hi, hfk, hfi⟩
   dsimp only at hi hfk hfi ⊢
   conv => whnf
   repeat' ((first | with_reducible refine IF.tt ?_ | with_reducible refine IF.ff ?_ | refine AU ?_ | (refine IW (fun h => ?_) (fun h => ?_) <;> try (exfalso; omega))) <;> conv => whnf)
   · have hil : i < ns.length := by omega
     have hnl := Z5t hkl hi
     have hni : i < (Je ks ns.length i).length := by omega
     repeat' ((first | with_reducible refine IF.tt ?_ | with_reducible refine IF.ff ?_ | (refine GET.at (row := ZK (Je ks ns.length i)[i]) (Zq hni (by omega)) ?_; conv => whnf) | refine AU ?_ | (refine IW (fun h => ?_) (fun h => ?_) <;> try (exfalso; omega))) <;> conv => whnf)
     rw [Zbg (x := i) (v := -1) (by omega)]
     have hfl : fs.length ≤ i := by
       have := Vv ks i
       rw [← hfk, List.length_map] at this; exact this
     have hkc : ∀ c : Int, (((Je ks ns.length i).set i c).map ZK)[i]? = some (ZK c) := fun c => by
       rw [List.getElem?_map, List.getElem?_set, if_pos rfl, if_pos hni]; rfl
     refine LOOP.gok Z2 [0, 3, 5, 6, 7] [1, 2, 3, 5] (X := Nat × Int) (fun x => x.1 ≤ fs.length ∧ ((x.2 = -1 ∧ ∀ k (h : k < fs.length), k < x.1 → ¬ keyM (ns.map Nd.cls) ins fs[k] = keyM (ns.map Nd.cls) ins i) ∨ ∃ j : Nat, x.2 = (j : Int) ∧ ∃ h : j < fs.length, keyM (ns.map Nd.cls) ins fs[j] = keyM (ns.map Nd.cls) ins i ∧ ∀ k (h' : k < fs.length), k < j → ¬ keyM (ns.map Nd.cls) ins fs[k] = keyM (ns.map Nd.cls) ins i)) (fun x => [(8, .int .i64 (x.1 : Int))]) (fun x => [(4, .rows 1 (((Je ks ns.length i).set i x.2).map ZK))]) 6 (fun x => fs.length - x.1) (0, -1) ⟨by simp, .inl ⟨rfl, fun k _ h => by simp at h⟩⟩ ?_
     conv => whnf
     refine ⟨by exact GOES.cA h0, ?_⟩
     rintro ⟨k, c⟩ ⟨hk, hc⟩
     dsimp only at hk hc ⊢
     conv => whnf
     repeat' ((first | with_reducible refine IF.tt ?_ | with_reducible refine IF.ff ?_ | (refine GETG.at (row := ZK c) (by rw [Int.toNat_natCast, Nat.zero_add]; exact hkc c) ?_; conv => whnf) | refine AU ?_ | (refine IW (fun h => ?_) (fun h => ?_) <;> try (exfalso; omega))) <;> conv => whnf)
     · obtain ⟨h1, h2⟩ := h
       have hne : c = -1 ∧ ∀ k' (h : k' < fs.length), k' < k → ¬ keyM (ns.map Nd.cls) ins fs[k'] = keyM (ns.map Nd.cls) ins i := by
         rcases hc with ⟨h4, h3⟩ | ⟨j, h3, _⟩
         · exact ⟨h4, h3⟩
         · omega
       clear hc
       obtain ⟨hc1, hne⟩ := hne
       have hkf : k < fs.length := by omega
       have hji := hfi _ (List.getElem_mem hkf)
       have hgf : ((fs.map fun (j : Nat) => (j : Int)).map ZK)[k]? = some (ZK (fs[k] : Nat)) := by rw [List.getElem?_map, List.getElem?_map, List.getElem?_eq_getElem hkf]; rfl
       have hki' := hki fs[k] i
       have hnew : ∀ {c' : Int}, ¬ keyM (ns.map Nd.cls) ins fs[k] = keyM (ns.map Nd.cls) ins i → ∀ k' (h : k' < fs.length), k' < k + 1 → ¬ keyM (ns.map Nd.cls) ins fs[k'] = keyM (ns.map Nd.cls) ins i := fun {c'} h3 k' h4 h5 => by
         rcases Nat.lt_or_ge k' k with h6 | h6
         · exact hne k' h4 h6
         · have : k' = k := by omega
           subst this; exact h3
       generalize hjf : fs[k] = j at hji hgf hki' hnew
       have hjn : j < ns.length := by omega
       have hjS : j < SS.length := by omega
       have hiS : i < SS.length := by omega
       have hij : j ≠ i := by omega
       have hgj := Zq (f := Yi) hjn rfl
       have hgi := Zq (f := Yi) hil rfl
       rw [List.getD_eq_getElem?_getD, List.getD_eq_getElem?_getD, List.getElem?_map, List.getElem?_map, List.getElem?_eq_getElem hjn, List.getElem?_eq_getElem hil, Option.map_some, Option.map_some, Option.getD_some, Option.getD_some, ← hSg j hjS, ← hSg i hiS] at hki'
       have hfew : ∀ a (h : a < SS.length), SS[a].length ≤ 67108864 := fun a h => by
         rw [hSg]; unfold ZL; rw [List.length_map, List.getD_eq_getElem?_getD, List.getElem?_eq_getElem (by omega), Option.getD_some]
         have := hW.few _ (List.getElem_mem (show a < ins.length by omega)); omega
       have hal := Z6r SS[j] SS[i] (hfew j hjS) (hfew i hiS)
       have h2s := fun s s' => Zcs (es := 24) (f := Jv) (sv := s) (sv' := s') hjS hiS hij
       refine GHO.drawn (GHO.trans (GHO.take 3 j 0 rfl (Z8h hjS rfl) rfl) (GHO.take 3 i 0 rfl (WN hiS rfl (fun e => hij e.symm)) rfl)) ?_
       rw [show (SS[j].map Jv).length = SS[j].length from List.length_map .., show (SS[i].map Jv).length = SS[i].length from List.length_map ..]
       repeat' ((first | with_reducible refine IF.tt ?_ | with_reducible refine IF.ff ?_ | (show DRAWN _ _ _ _ _ _ _; first | refine DRAWN.of (id := 15) Z2 mixed Z5z (by kernel_rfl) ?_) | refine ADD.mk (fun _ _ => ?_) | refine AD ?_ | refine FORK.mk ?_ ?_ | (refine GET.at (row := ZK (j : Int)) (by rw [Int.toNat_natCast, Nat.zero_add]; exact hgf) ?_; conv => whnf) | (refine GET.at (row := Yi ns[j]) (by rw [Int.toNat_natCast, Nat.zero_add]; exact hgj) ?_; conv => whnf) | (refine GET.at (row := Yi ns[i]) (by rw [Int.toNat_natCast, Nat.zero_add]; exact hgi) ?_; conv => whnf) | (refine GET.at (by rw [Int.toNat_natCast, Nat.zero_add]; exact (h2s _ _).1) ?_; conv => whnf) | (refine GET.at (by rw [Int.toNat_natCast, Nat.zero_add]; exact (h2s _ _).2.1) ?_; conv => whnf) | refine AU ?_ | (refine IW (fun h => ?_) (fun h => ?_) <;> try (exfalso; omega))) <;> conv => whnf)
       · refine CALL.aA [6, 7] (hal) ?_
         rintro r O nx ⟨rfl, rfl, rfl⟩
         conv => whnf
         repeat' ((first | with_reducible refine IF.tt ?_ | with_reducible refine IF.ff ?_ | (show DRAWN _ _ _ _ _ _ _; first | refine DRAWN.of (id := 15) Z2 mixed Z5z (by kernel_rfl) ?_) | refine ADD.mk (fun _ _ => ?_) | refine AD ?_ | refine FORK.mk ?_ ?_ | (refine GET.at (row := ZK c) (by rw [Int.toNat_natCast, Nat.zero_add]; exact hkc c) ?_; conv => whnf) | refine AU ?_ | (refine IW (fun h => ?_) (fun h => ?_) <;> try (exfalso; omega))) <;> conv => whnf)
         · have hke : keyM (ns.map Nd.cls) ins fs[k] = keyM (ns.map Nd.cls) ins i := by rw [hjf]; exact hki'.2 ⟨by assumption, List.isPerm_iff.1 h⟩
           rw [Z3N (x := i) (v := (k : Int)) (by omega), List.set_set]
           refine ⟨(k + 1, (k : Int)), ⟨by dsimp only; omega, .inr ⟨k, rfl, hkf, hke, hne⟩⟩, by dsimp only; omega, ?_⟩
           dsimp only
           conv => whnf
           refine GOES.trans (GHO.goes (GHO.trans (GHO.putk 3 j 0 6 rfl (h2s _ _).2.2 rfl rfl (by rw [List.length_map]; exact Nat.le_refl _) (by decide)) (GHO.putk 3 i 0 7 rfl (Z8j hjS hiS hij rfl) rfl rfl (by rw [List.length_map]; exact Nat.le_refl _) (by decide)))) ?_
           rw [Z2L hjS hiS hij rfl rfl]
           exact GOES.cA h0
         · have h3 : ¬ keyM (ns.map Nd.cls) ins j = keyM (ns.map Nd.cls) ins i := fun e => by
             have := List.isPerm_iff.2 (hki'.1 e).2
             rw [h] at this; cases this
           refine ⟨(k + 1, c), ⟨by dsimp only; omega, .inl ⟨by dsimp only; omega, hnew (c' := c) h3⟩⟩, by dsimp only; omega, ?_⟩
           dsimp only
           conv => whnf
           refine GOES.trans (GHO.goes (GHO.trans (GHO.putk 3 j 0 6 rfl (h2s _ _).2.2 rfl rfl (by rw [List.length_map]; exact Nat.le_refl _) (by decide)) (GHO.putk 3 i 0 7 rfl (Z8j hjS hiS hij rfl) rfl rfl (by rw [List.length_map]; exact Nat.le_refl _) (by decide)))) ?_
           rw [Z2L hjS hiS hij rfl rfl]
           exact GOES.cA h0
       · have h3 : ¬ keyM (ns.map Nd.cls) ins j = keyM (ns.map Nd.cls) ins i := fun e => h (hki'.1 e).1
         refine ⟨(k + 1, c), ⟨by dsimp only; omega, .inl ⟨by dsimp only; omega, hnew (c' := c) h3⟩⟩, by dsimp only; omega, ?_⟩
         dsimp only
         conv => whnf
         refine GOES.trans (GHO.goes (GHO.trans (GHO.putk 3 j 0 6 rfl (h2s _ _).2.2 rfl rfl (by rw [List.length_map]; exact Nat.le_refl _) (by decide)) (GHO.putk 3 i 0 7 rfl (Z8j hjS hiS hij rfl) rfl rfl (by rw [List.length_map]; exact Nat.le_refl _) (by decide)))) ?_
         rw [Z2L hjS hiS hij rfl rfl]
         exact GOES.cA h0
     · have hik : i < ks.length := by omega
       have hki0 : ks[i] = keyM (ns.map Nd.cls) ins i := by simp only [← hks]; exact Z5s _
       have hfs := Ya ks hik
       have hold := Z2D ks hik
       have hnew := WH ks hik
       have hFn := Vf ks i
       rw [← hfk, hki0] at hfs hold hnew
       rw [← hfk] at hFn
       have hkey : (c = -1 ∧ ¬ keyM (ns.map Nd.cls) ins i ∈ fs.map (keyM (ns.map Nd.cls) ins)) ∨ ∃ j : Nat, c = (j : Int) ∧ ∃ hj : j < fs.length, keyM (ns.map Nd.cls) ins fs[j] = keyM (ns.map Nd.cls) ins i := by
         rcases hc with ⟨h4, h3⟩ | ⟨j, h4, h5, h6, h7⟩
         · refine .inl ⟨h4, fun hm => ?_⟩
           obtain ⟨x, hx, he⟩ := List.mem_map.1 hm
           obtain ⟨k', hk', rfl⟩ := List.getElem_of_mem hx
           refine h3 k' hk' ?_ he
           rcases Nat.lt_or_ge k fs.length with hlt | hge
           · have := h (by omega); omega
           · omega
         · exact .inr ⟨j, h4, h5, h6⟩
       clear hc
       repeat' ((first | with_reducible refine IF.tt ?_ | with_reducible refine IF.ff ?_ | (refine GET.at (row := ZK c) (by rw [Int.toNat_natCast, Nat.zero_add]; exact hkc c) ?_; conv => whnf) | (refine NEED.mk (Zu 8 rfl rfl (by simp) (by simp) (by omega)) ?_; conv => whnf) | refine AU ?_ | (refine IW (fun h => ?_) (fun h => ?_) <;> try (exfalso; omega))) <;> conv => whnf)
       · rcases hkey with ⟨hc1, hk1⟩ | ⟨j, hc1, _⟩
         · have h4 := hnew hk1
           rw [List.length_map] at h4
           rw [if_neg hk1] at hfs
           rw [Z3N (x := i) (v := (fs.length : Int)) (by omega), List.set_set, WL hkl hil h4, Uq (fs.map fun (j : Nat) => (j : Int)) (i : Int) (by rw [List.length_map]), show (fs.map fun (j : Nat) => (j : Int)) ++ [(i : Int)] = (fs ++ [i]).map fun (j : Nat) => (j : Int) from by rw [List.map_append]; rfl]
           refine ⟨(i + 1, fs ++ [i]), ⟨by dsimp only; omega, by dsimp only; rw [List.map_append, hfs]; rfl, fun j hj => (List.mem_append.1 hj).elim (fun e => by have := hfi j e; dsimp only; omega) (fun e => by have := List.mem_singleton.1 e; dsimp only; omega)⟩, by dsimp only; omega, ?_⟩
           dsimp only
           rw [show (fs ++ [i]).length = fs.length + 1 by simp]
           conv => whnf
           exact GOES.kA h0 [3, 4, 7]
         · omega
       · rcases hkey with ⟨hc1, hk1⟩ | ⟨j, hc1, hj, hje⟩
         · omega
         · have hin : keyM (ns.map Nd.cls) ins i ∈ fs.map (keyM (ns.map Nd.cls) ins) := List.mem_map.2 ⟨fs[j], List.getElem_mem hj, hje⟩
           have hidx : List.idxOf (keyM (ns.map Nd.cls) ins i) (fs.map (keyM (ns.map Nd.cls) ins)) = j := by
             rw [← hje, show keyM (ns.map Nd.cls) ins fs[j] = (fs.map (keyM (ns.map Nd.cls) ins))[j]'(by rw [List.length_map]; exact hj) from (List.getElem_map ..).symm]
             exact List.Nodup.idxOf_getElem hFn j _
           have h4 := hold hin
           rw [hidx, ← hc1] at h4
           rw [if_pos hin] at hfs
           rw [WL hkl hil h4]
           refine ⟨(i + 1, fs), ⟨by dsimp only; omega, hfs.symm, fun j hj => by have := hfi j hj; dsimp only; omega⟩, by dsimp only; omega, ?_⟩
           dsimp only
           conv => whnf
           exact GOES.cA h0
   · have hie : i = ns.length := by omega
     subst hie
     rw [List.take_of_length_le (by omega)] at hfk
     have hmax := Z4F ns ins.length hcN (by omega)
     have hfl : fs.length ≤ ns.length := by
       have := Vv ks ns.length
       rw [List.take_of_length_le (by omega), ← hfk, List.length_map] at this; exact this
     have hne : Je ks ns.length ns.length = Yj ks := Z5u hkl
     rw [hne]
     have hNl : (Yj ks).length = ns.length := by rw [Xi, hkl]
     repeat' ((first | with_reducible refine IF.tt ?_ | with_reducible refine IF.ff ?_ | refine AU ?_ | (refine IW (fun h => ?_) (fun h => ?_) <;> try (exfalso; omega))) <;> conv => whnf)
     refine CALL.aA [0, 1, 2] (hmax) ?_
     rintro r O nx ⟨rfl, rfl, rfl⟩
     conv => whnf
     repeat' ((first | with_reducible refine IF.tt ?_ | with_reducible refine IF.ff ?_ | refine AU ?_ | (refine IW (fun h => ?_) (fun h => ?_) <;> try (exfalso; omega))) <;> conv => whnf)
     refine LOOP.gok Z2 [0, 5, 6, 9] [2, 4] (X := Nat) (fun i => i ≤ ns.length) (fun i => [(10, .int .i64 (i : Int))]) (fun i => [(1, .rows 3 ((setP ns (Yj ks) i).map Yi))]) 6 (fun i => ns.length - i) 0 (by omega) ?_
     conv => whnf
     refine ⟨by rw [Z8q]; exact GOES.cA h0, ?_⟩
     intro i hi
     have hPl := Z9z (C := Yj ks) (i := i) hNl hi
     conv => whnf
     repeat' ((first | with_reducible refine IF.tt ?_ | with_reducible refine IF.ff ?_ | refine AU ?_ | (refine IW (fun h => ?_) (fun h => ?_) <;> try (exfalso; omega))) <;> conv => whnf)
     · have hil : i < ns.length := by omega
       have hset := Z9B hNl hil
       have hpn := Z9A (C := Yj ks) hNl hil
       have hiN : i < (Yj ks).length := by omega
       have hgn := Zq (f := ZK) hiN rfl
       repeat' ((first | with_reducible refine IF.tt ?_ | with_reducible refine IF.ff ?_ | (show DRAWN _ _ _ _ _ _ _; first | refine DRAWN.of (id := 24) Z2 mixed Z9x (by kernel_rfl) ?_) | refine ADD.mk (fun _ _ => ?_) | refine AD ?_ | refine FORK.mk ?_ ?_ | (refine GET.at (row := ZK (Yj ks)[i]) (by rw [Int.toNat_natCast, Nat.zero_add]; exact hgn) ?_; conv => whnf) | refine AU ?_ | (refine IW (fun h => ?_) (fun h => ?_) <;> try (exfalso; omega))) <;> conv => whnf)
       refine GET.at (row := Yi ns[i]) (by rw [Int.toNat_natCast, Nat.zero_add, List.getElem?_map, hpn]; rfl) ?_
       conv => whnf
       repeat' ((first | with_reducible refine IF.tt ?_ | with_reducible refine IF.ff ?_ | refine AU ?_ | (refine IW (fun h => ?_) (fun h => ?_) <;> try (exfalso; omega))) <;> conv => whnf)
       rw [Zcw (x := i) (by omega)]
       refine ⟨i + 1, by omega, by omega, ?_⟩
       rw [← hset]
       conv => whnf
       exact GOES.cA h0
     · have hie : i = ns.length := by omega
       subst hie
       rw [Z9y hNl]
       have hfl2 : (Zm ks).length = fs.length := by rw [← hfk, List.length_map]
       rw [hfl2]
       repeat' ((first | with_reducible refine IF.tt ?_ | with_reducible refine IF.ff ?_ | refine AU ?_ | (refine IW (fun h => ?_) (fun h => ?_) <;> try (exfalso; omega))) <;> conv => whnf)
       refine FIN.aA h0 [] (.bool (decide (maxC (ns.map Nd.cls) < (fs.length : Int)))) [(1, .rows 3 ((setN ns (Yj ks)).map Yi)), (2, .deep false 1 (inD ins))] ⟨rfl, rfl, rfl⟩
theorem Z5A (ks : List LB) : maxC (Yj ks) = ((Zm ks).length : Int) := by
 have : ∀ i, i ≤ ks.length → maxC ((Yj ks).take i) = ((Zm (ks.take i)).length : Int) := by
   intro i
   induction i with
   | zero => intro _; simp [maxC, Zm]
   | succ i ih =>
     intro h
     have hik : i < ks.length := by omega
     have hin : i < (Yj ks).length := by rw [Xi]; exact hik
     have h1 := ih (by omega)
     have hold := Z2D ks hik
     have hnew := WH ks hik
     rw [List.getElem?_eq_getElem hin] at hold hnew
     have hst : maxC ((Yj ks).take (i + 1)) = upC (maxC ((Yj ks).take i)) (Yj ks)[i] := by
       rw [List.take_succ_eq_append_getElem hin]; unfold maxC; rw [List.foldl_append]; rfl
     rw [hst, h1, Ya ks hik]
     by_cases hm : ks[i] ∈ Zm (ks.take i)
     · rw [if_pos hm]
       have h2 := hold hm
       injection h2 with h2
       have := List.idxOf_lt_length_of_mem hm
       unfold upC
       rw [if_neg (by omega)]
     · rw [if_neg hm]
       have h2 := hnew hm
       injection h2 with h2
       unfold upC
       rw [if_pos (by omega), h2, List.length_append]; simp
 have h := this ks.length (Nat.le_refl _)
 rw [List.take_of_length_le (by rw [Xi]; exact Nat.le_refl _), List.take_length] at h
 exact h
theorem Z9C (n : Nat) : maxC (List.replicate n 0) = if (n : Int) < 1 then (n : Int) else 1 := by
 have : ∀ n, 0 < n → maxC (List.replicate n 0) = 1 := by
   intro n
   induction n with
   | zero => intro h; omega
   | succ n ih =>
     intro _
     rw [List.replicate_succ', maxC, List.foldl_append]
     rcases Nat.eq_zero_or_pos n with e | e
     · subst e; rfl
     · have h := ih e
       unfold maxC at h; rw [h]; rfl
 rcases Nat.eq_zero_or_pos n with e | e
 · subst e; rfl
 · rw [this n e, if_neg (by omega)]
theorem Z4H (cl : List Int) : 0 ≤ maxC cl := by
 have : ∀ (l : List Int) (m : Int), 0 ≤ m → 0 ≤ l.foldl upC m := by
   intro l
   induction l with
   | nil => intro m h; exact h
   | cons c l ih => intro m h; exact ih _ (by unfold upC; split <;> omega)
 exact this cl 0 (by omega)
theorem Settles.max {ins : List (List Sd)} {cl : List Int} {ct : Int} {F : List Int} {c : Int} (h : Settles ins cl ct F c) : maxC F = c := by
 induction h with
 | stop _ => exact Z5A _
 | go _ _ ih => exact ih
theorem Z9D (ns : List Nd) : setN ns (ns.map Nd.cls) = ns := by
 unfold setN
 induction ns with
 | nil => rfl
 | cons n ns ih => rw [List.map_cons, List.zipWith_cons_cons, ih]
theorem Z9E {ns : List Nd} {C D : List Int} (h : C.length = ns.length) : setN (setN ns C) D = setN ns D := by
 unfold setN
 induction ns generalizing C D with
 | nil => simp
 | cons n ns ih =>
   cases C with
   | nil => simp at h
   | cons c C =>
     cases D with
     | nil => simp
     | cons d D => rw [List.zipWith_cons_cons, List.zipWith_cons_cons, List.zipWith_cons_cons, ih (by simpa using h)]
theorem Z5B {ns : List Nd} {C : List Int} (h : C.length = ns.length) : (setN ns C).map Nd.cls = C := by
 unfold setN
 induction ns generalizing C with
 | nil => cases C with
   | nil => rfl
   | cons c C => simp at h
 | cons n ns ih =>
   cases C with
   | nil => simp at h
   | cons c C => rw [List.zipWith_cons_cons, List.map_cons, ih (by simpa using h)]
set_option maxHeartbeats 4000000 in
theorem Z3T (ns : List Nd) (ins : List (List Sd)) (hW : WOK (ns.map Nd.cls) ins) :
   Does Tryz.prog tab 41 3 [.ptr (.loc 0) 0 0 0] [(1, .rows 3 (ns.map Yi)), (2, .deep false 1 (inD ins))] [(0, rBx ns.length ins.length)]
   (fun r O nx => r = .tup [] ∧ ∃ F c, Settles ins (ns.map Nd.cls) (maxC (ns.map Nd.cls)) F c ∧ O = [(1, .rows 3 ((setN ns F).map Yi)), (2, .deep false 1 (inD ins))] ∧ nx = 3) := by
 refine Does.enter Z2 (g := 41) (fn := Tryz.f41) Tryz.call41 Tryz.func41 rfl 4 rfl rfl [] rfl ?_
 intro w0 F η0 h0
 conv => whnf
 repeat' ((first | with_reducible refine IF.tt ?_ | with_reducible refine IF.ff ?_ | refine AU ?_ | (refine IW (fun h => ?_) (fun h => ?_) <;> try (exfalso; omega))) <;> conv => whnf)
 refine LOOP.gok Z2 [0] [] (X := List Int) (fun x => WOK x ins ∧ x.length = ns.length ∧ ∀ F c, Settles ins x (maxC x) F c → Settles ins (ns.map Nd.cls) (maxC (ns.map Nd.cls)) F c) (fun x => []) (fun x => [(1, .rows 3 ((setN ns x).map Yi)), (2, .deep false 1 (inD ins))]) 3 (fun x => ns.length - (maxC x).toNat) (ns.map Nd.cls) ⟨hW, by rw [List.length_map], fun F c hs => hs⟩ ?_
 conv => whnf
 refine ⟨by rw [Z9D]; exact GOES.cA h0, ?_⟩
 rintro C ⟨hC, hl, hS⟩
 have hsp := Z4G (setN ns C) ins (by rw [Z5B hl]; exact hC)
 rw [Z2N hl, Z5B hl, Z9E hl] at hsp
 conv => whnf
 repeat' ((first | with_reducible refine IF.tt ?_ | with_reducible refine IF.ff ?_ | refine AU ?_ | (refine IW (fun h => ?_) (fun h => ?_) <;> try (exfalso; omega))) <;> conv => whnf)
 refine CALL.aA [0, 1, 2] (hsp) ?_
 rintro r O nx ⟨rfl, rfl, rfl⟩
 conv => whnf
 obtain ⟨hW2, hl2, hf2⟩ := hC.next
 have hp := Z4H C
 have hm := Z5A (Yt C ins)
 refine IF.mk (fun h1 => ?_) (fun h1 => ?_)
 · have h1 : maxC C < ((Zm (Yt C ins)).length : Int) := by simpa using h1
   conv => whnf
   refine ⟨Yj (Yt C ins), ⟨hW2, by omega, fun F c hs => hS F c (.go h1 (by rw [← hm]; exact hs))⟩, by rw [hm]; omega, ?_⟩
   conv => whnf
   exact GOES.cA h0
 · have h1 : ¬ maxC C < ((Zm (Yt C ins)).length : Int) := by simpa using h1
   conv => whnf
   refine FIN.aA h0 [] (.tup []) [(1, .rows 3 ((setN ns (Yj (Yt C ins))).map Yi)), (2, .deep false 1 (inD ins))] ⟨rfl, _, _, hS _ _ (.stop h1), rfl, rfl⟩
end Go.Proofs.YtbfbokdccdagkaaGreatDoor
