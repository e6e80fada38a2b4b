/- Part 16: Apart1, IsoPut, IsoLook. Conditions: as each part says. -/
import Derived.Test.YtbfbokdccdagkaaGreatDoorCls11
import Derived.Test.YtbfbokdccdagkaaGreatDoorCls15
set_option linter.unusedVariables false
set_option linter.unusedSimpArgs false
set_option maxRecDepth 20000
set_option maxHeartbeats 8000000
namespace Go.Proofs.YtbfbokdccdagkaaGreatDoor
open Go.Sx Go.Our
abbrev ZD (l : List Qd) : List LB := setL cmpL (X3 l)
abbrev numT (m : List (LB × Int)) : List (List SV) := Vz KT intV m
theorem Z7U (m : List (LB × Int)) : Zr (numT m) = true := Z7H KT _ (fun _ => rfl) m
instance {m : List (LB × Int)} : Pl (numT m) := ⟨Z7U m⟩
theorem Zal {x : LB} {v : Int} {m : List (LB × Int)} : setM (false, [CK.str]) (SV.str x) (SV.int .i64 v) (numT m) = numT (setA x v m) := Zah KT intV x v m
theorem Zam {x : LB} {v : Int} {m : List (LB × Int)} : setM (false, [CK.str]) (SV.str x) (ZX (.int .i64 v)) (numT m) = numT (setA x v m) := Zah KT intV x v m
def J0 (v : Int) (l : List LB) (m : List (LB × Int)) : List (LB × Int) := l.foldl (fun m x => setA x v m) m
theorem ZcX {l z : List LB} {i k : Nat} (h : i < l.length) (e : k = i) : ((l ++ z).map Z6)[k]? = some (Z6 l[i]) := by
 subst e; rw [List.getElem?_map, List.getElem?_append_left h, List.getElem?_eq_getElem h]; rfl
end Go.Proofs.YtbfbokdccdagkaaGreatDoor
namespace Go.Proofs.YtbfbokdccdagkaaGreatDoor
open Go.Sx Go.Our
def Z7V : Plan := (.take 0 1 (.take 1 1 (.take 2 1 (.take 4 1 (.take 5 1 (.take 6 1 (.take 7 1 (.take 9 1 (.take 8 2 (.take 10 1 (.take 11 2 (.take 12 2 (.fork 3 3 13 3 (ZB [(13, 3), (14, 0), (15, 1), (16, 0)]) (.fork 3 3 14 0 (ZB [(14, 0), (15, 1), (16, 0)]) (ZB [(3, 2), (15, 1), (16, 0)])))))))))))))))
theorem Z1N {η : Env} {es : Nat} {rs : List (List SV)} {v : Value} (h : Den η (.arr es rs) v) : Den η (.agg rs.flatten) v := by
 simp only [Den] at h ⊢
 obtain ⟨vs, h1, h2, h3⟩ := h
 exact ⟨vs, h1, X4 h2, h3⟩
theorem Z7W (q : Qd) : Does Tryz.prog tab 53 0 [.agg (Zc q)] [] [] (Val (.agg (Zc q))) := by
 refine Does.enter Z2 (g := 53) (fn := Tryz.f53) Tryz.call53 Tryz.func53 rfl 12 rfl rfl [.cell 2 93] rfl ?_
 intro w0 F η0 h0
 conv => whnf
 repeat' ((first | with_reducible refine IF.tt ?_ | with_reducible refine IF.ff ?_ | refine AU ?_ | (refine IW (fun h => ?_) (fun h => ?_) <;> try (exfalso; omega))) <;> conv => whnf)
 exact FIN.weak (fun η w v H hd => ⟨η, List.prefix_rfl, H, Z1N hd⟩) (FIN.value h0 rfl rfl)
def ZK (n : Int) : List SV := [.int .i64 n]
instance : PlF ZK := ⟨fun _ => rfl⟩
theorem JP {l : List Int} {i : Nat} (h : i < l.length) : (l.map ZK)[i]? = some (ZK l[i]) := by rw [List.getElem?_map, List.getElem?_eq_getElem h]; rfl
theorem ZW (l : List Int) (x : Int) (hl : l.length ≤ 1152921504606846976) : Does Tryz.prog tab 92 1 [.sl (.loc 0) 0 1 l.length none, .int .i64 x] [] [(0, .rows 1 (l.map ZK))] (ValK 1 (.bool (decide (x ∈ l)))) := by
 have hix : Does Tryz.prog tab 124 1 [.sl (.loc 0) 0 1 l.length none, .int .i64 x] [] [(0, .rows 1 (l.map ZK))] (fun r O nx => O = [] ∧ nx = 1 ∧ ∃ k : Int, r = .int .i64 k ∧ (0 ≤ k ↔ x ∈ l)) := by
   refine Does.enter Z2 (g := 124) (fn := Tryz.f124) Tryz.call124 Tryz.func124 rfl 19 rfl rfl [.tmp 4] rfl ?_
   intro w0 F η0 h0
   conv => whnf
   repeat' ((first | with_reducible refine IF.tt ?_ | with_reducible refine IF.ff ?_ | refine AU ?_ | (refine IW (fun h => ?_) (fun h => ?_) <;> try (exfalso; omega))) <;> conv => whnf)
   refine LOOP.go Z2 [0, 1, 7] (X := Nat) (fun c => c ≤ l.length ∧ x ∉ l.take c) (fun c => [(8, .int .i64 (c : Int))]) (fun c => []) 1 (fun c => l.length - c) 0 ⟨by omega, by simp⟩ ?_
   conv => whnf
   refine ⟨by exact GOES.cA h0, ?_⟩
   rintro c ⟨hc, hn⟩
   conv => whnf
   refine IF.mk (fun h => ?_) (fun h => ?_)
   · have hlt : c < l.length := by simp at h; omega
     conv => whnf
     repeat' ((first | with_reducible refine IF.tt ?_ | with_reducible refine IF.ff ?_ | (refine GET.at (row := ZK l[c]) (by rw [Int.toNat_natCast, Nat.zero_add]; exact JP hlt) ?_; conv => whnf) | refine AU ?_ | (refine IW (fun h => ?_) (fun h => ?_) <;> try (exfalso; omega))) <;> conv => whnf)
     · exact FIN.val h0 rfl ⟨rfl, rfl, _, rfl, by simp; rw [h]; exact List.getElem_mem _⟩
     · refine ⟨c + 1, ⟨by omega, fun hm => ?_⟩, by omega, ?_⟩
       · rw [List.take_succ_eq_append_getElem hlt] at hm
         rcases List.mem_append.1 hm with hm | hm
         · exact hn hm
         · exact h (List.mem_singleton.1 hm)
       conv => whnf
       exact GOES.cA h0
   · have h : c = l.length := by simp at h; omega
     subst h
     rw [List.take_length] at hn
     repeat' ((first | with_reducible refine IF.tt ?_ | with_reducible refine IF.ff ?_ | refine AU ?_ | (refine IW (fun h => ?_) (fun h => ?_) <;> try (exfalso; omega))) <;> conv => whnf)
     exact FIN.val h0 rfl ⟨rfl, rfl, _, rfl, by simp [hn]⟩
 refine Does.enter Z2 (g := 92) (fn := Tryz.f92) Tryz.call92 Tryz.func92 rfl 9 rfl rfl [.tmp 4] rfl ?_
 intro w0 F η0 h0
 conv => whnf
 repeat' ((first | with_reducible refine IF.tt ?_ | with_reducible refine IF.ff ?_ | refine AU ?_ | (refine IW (fun h => ?_) (fun h => ?_) <;> try (exfalso; omega))) <;> conv => whnf)
 refine CALL.aA [0] (hix) ?_
 rintro r O nx ⟨rfl, rfl, k, rfl, hk⟩
 conv => whnf
 repeat' ((first | with_reducible refine IF.tt ?_ | with_reducible refine IF.ff ?_ | refine AU ?_ | (refine IW (fun h => ?_) (fun h => ?_) <;> try (exfalso; omega))) <;> conv => whnf)
 refine FIN.valueK h0 rfl (congrArg SV.bool ?_)
 by_cases hm : x ∈ l
 · rw [decide_eq_true hm, decide_eq_true (hk.2 hm)]
 · rw [decide_eq_false hm, decide_eq_false fun h => hm (hk.1 h)]
def fA (m : List (LB × Int)) (x : LB) : Int := (getA x m).getD 0
def Zch (q : Qd) (a b c d : Int) : List SV := [.int .i64 q.s.k, .str q.s.t, .str q.s.y, .str q.s.l, .int .i64 q.p.k, .str q.p.t, .str q.p.y, .str q.p.l, .int .i64 q.o.k, .str q.o.t, .str q.o.y, .str q.o.l, .int .i64 q.g.k, .str q.g.t, .str q.g.y, .str q.g.l, .int .i64 a, .int .i64 b, .int .i64 c, .int .i64 d]
def ownK (f : LB → Int) (q : Qd) (k : Nat) : List Int := ((JL q).take k).foldl (ownT f) []
def wBox (nl n ng : Nat) : Hp := .box [.sl (.loc 3) 0 1 nl none, .val (.slice none 0 0), .sl (.loc 1) 0 1 n none, .sl (.loc 4) 0 1 ng none, .int .i64 0]
theorem Uo (f : LB → Int) (q : Qd) {k : Nat} (t : Tm) (h : (JL q)[k]? = some t) : ownK f q (k + 1) = ownT f (ownK f q k) t := by
 have hl := (List.getElem?_eq_some_iff.1 h).1
 unfold ownK
 rw [Jp _ _ _ hl]
 congr 1
 exact (List.getElem?_eq_some_iff.1 h).2
theorem Up (f : LB → Int) (q : Qd) {k : Nat} (h : k ≤ 4) : (ownK f q k).length ≤ 4 := by
 have step : ∀ acc t, (ownT f acc t).length ≤ acc.length + 1 := fun acc t => by
   unfold ownT
   split
   · split <;> simp
   · simp
 have : ∀ (l : List Tm) (acc : List Int), (l.foldl (ownT f) acc).length ≤ acc.length + l.length := by
   intro l
   induction l with
   | nil => intro acc; simp
   | cons t l ih => intro acc; have := ih (ownT f acc t); have := step acc t; simp only [List.foldl_cons, List.length_cons]; omega
 have h2 := this ((JL q).take k) []
 rw [List.length_take] at h2
 simp only [List.length_nil] at h2
 unfold ownK
 omega
structure PX where
 k : Nat
 a : Int
 b : Int
 c : Int
 d : Int
 own : List Int
structure PInv (f : LB → Int) (q : Qd) (x : PX) : Prop where
 k : x.k ≤ 4
 a : 0 < x.k → x.a = numM f q.s
 b : 1 < x.k → x.b = numM f q.p
 c : 2 < x.k → x.c = numM f q.o
 d : 3 < x.k → x.d = numM f q.g
 own : x.own = ownK f q x.k
theorem Z5o {f : LB → Int} {acc : List Int} {t : Tm} (h : ¬ t.k = 2) : ownT f acc t = acc := by unfold ownT; rw [if_neg h]
theorem W9 {f : LB → Int} {acc : List Int} {t : Tm} (h : t.k = 2) (hm : f t.t ∈ acc) : ownT f acc t = acc := by unfold ownT; rw [if_pos h, if_pos hm]
theorem Wa {f : LB → Int} {acc : List Int} {t : Tm} (h : t.k = 2) (hm : f t.t ∉ acc) : ownT f acc t = acc ++ [f t.t] := by unfold ownT; rw [if_pos h, if_neg hm]
theorem Xq {f : LB → Int} {t : Tm} (h : t.k = 2) : numM f t = f t.t := by unfold numM; rw [if_pos h]
theorem Jq {f : LB → Int} {t : Tm} (h : ¬ t.k = 2) : numM f t = -1 := by unfold numM; rw [if_neg h]
theorem Z2y {m : List (LB × Int)} {x : LB} {i : Nat} {v : Int} (h : ixA x m = some (i, v)) : fA m x = v := by unfold fA; rw [Wz h]; rfl
theorem Z2z {m : List (LB × Int)} {x : LB} (h : ixA x m = none) : fA m x = 0 := by unfold fA; rw [Z5i h]; rfl
theorem Uq (l : List Int) (v : Int) {n : Nat} (hn : n = l.length) : List.take n (l.map ZK) ++ List.take 1 (List.drop 0 [[SV.int .i64 v]]) = (l ++ [v]).map ZK := by
 subst hn
 rw [List.take_of_length_le (by simp)]
 simp [ZK]
theorem Z6i {N : Nat} {s : Sd} {I : List (List Sd)} {n : Int} (h : ∀ l ∈ I, l.length ≤ N) : ∀ l ∈ putN s I n, l.length ≤ N + 1 := by
 intro l hl
 unfold putN at hl
 obtain ⟨i, hi, rfl⟩ := List.mem_iff_getElem.1 hl
 rw [List.getElem_modify]
 have hi' : i < I.length := by simpa using hi
 have := h _ (List.getElem_mem hi')
 split
 · simp only [List.length_append, List.length_singleton]; omega
 · omega
theorem Xf {s : Sd} : ∀ {L : List Int} {N : Nat} {I : List (List Sd)}, (∀ l ∈ I, l.length ≤ N) → ∀ l ∈ L.foldl (putN s) I, l.length ≤ N + L.length
 | [], N, I, h => h
 | n :: L, N, I, h => fun l hl => by
   have := Xf (L := L) (Z6i (s := s) (n := n) h) l hl
   simp only [List.length_cons]; omega
theorem YJ {rs : List (List DC)} {r : Nat} {d : DC} {sv : SV} (h : rs[r]? = some [d]) : Wf (setC rs r 0 (.v sv)) r 0 = some (r, .v sv) := by
 unfold Wf; rw [Zt, if_pos rfl, h]; rfl
theorem Ur {I : List (List Sd)} {n : Int} {s : Sd} {sv : SV} {rows : List (List SV)} {k i : Nat} (hn : n.toNat < I.length) (hi : i = n.toNat) (hr : rows.take k = (I[n.toNat] ++ [s]).map Jc) :
   ((setC (inD I) n.toNat 0 (.v sv)).modify i fun row => row.set 0 (.kid 20 (rows.take k))) = inD (putN s I n) := by
 subst hi
 show setC _ _ _ _ = _
 rw [setC_setC, hr]
 apply List.ext_getElem?
 intro a
 rw [Zt]
 unfold inD putN
 simp only [List.getElem?_map, List.getElem?_modify]
 by_cases ha : a = n.toNat
 · subst ha
   rw [if_pos rfl, List.getElem?_eq_getElem hn]
   simp [Z7I]
 · rw [if_neg ha]
   cases I[a]? <;> simp [Ne.symm ha]
set_option maxHeartbeats 4000000 in
theorem Z9i (q : Qd) (m : List (LB × Int)) (ins : List (List Sd)) (nl ng n : Nat) (hn : n = ins.length) (hin : Z0T ins.length (ownM (fA m) q)) (hl : ∀ l ∈ ins, l.length ≤ 67108864) (hil : ins.length ≤ 67108864) :
   Does Tryz.prog tab 67 5 [.ptr (.loc 0) 0 0 0, .agg (Zc q), .mp (.loc 2)] [(0, wBox nl n ng), (1, .deep false 1 (inD ins))] [(2, .mp (numT m))]
   (fun r O nx => r = .bool (decide (0 < (ownM (fA m) q).length)) ∧ O = [(0, wBox nl n ng), (1, .deep false 1 (inD (putS (fA m) ins q)))] ∧ nx = 5) := by
 subst hn
 refine Does.enter Z2 (g := 67) (fn := Tryz.f67) Tryz.call67 Tryz.func67 rfl 76 rfl rfl [.tmp 6] rfl ?_
 intro w0 F η0 h0
 conv => whnf
 repeat' ((first | with_reducible refine IF.tt ?_ | with_reducible refine IF.ff ?_ | refine CALL.value (Z7W q) rfl rfl ?_ | refine AU ?_ | (refine IW (fun h => ?_) (fun h => ?_) <;> try (exfalso; omega))) <;> conv => whnf)
 refine LOOP.nil 8 1 rfl ?_
 refine LOOP.gok Z2 [0, 2, 7, 17] [0, 1, 5] (X := PX) (PInv (fA m) q) (fun x => [(18, .int .i64 (x.k : Int)), (8, .sl (.loc 7) 0 1 x.own.length none)]) (fun x => [(6, .box (Zch q x.a x.b x.c x.d)), (7, .rows 1 (x.own.map ZK))]) 8 (fun x => 4 - x.k) ⟨0, 0, 0, 0, 0, []⟩ ⟨by simp, by simp, by simp, by simp, by simp, rfl⟩ ?_
 conv => whnf
 refine ⟨by exact GOES.cA h0, ?_⟩
 rintro ⟨k, a, b, c, d, own⟩ ⟨hk4, ha, hb, hc, hd, ho⟩
 dsimp only at hk4 ha hb hc hd ho ⊢
 conv => whnf
 refine IF.mk (fun h => ?_) (fun h => ?_)
 · have hlt : k < 4 := by simp at h; omega
   have hol := Up (fA m) q hk4
   rw [← ho] at hol
   have hkk : k = 0 ∨ k = 1 ∨ k = 2 ∨ k = 3 := by omega
   rcases hkk with rfl | rfl | rfl | rfl
   · have hst := Uo (fA m) q (k := 0) q.s rfl
     conv => whnf
     repeat' ((first | with_reducible refine IF.tt ?_ | with_reducible refine IF.ff ?_ | refine AU ?_ | (refine IW (fun h => ?_) (fun h => ?_) <;> try (exfalso; omega))) <;> conv => whnf)
     · have h2 := h
       refine NEED.mk ⟨KT.ok _, JK KT intV _⟩ ?_
       refine FIND.A KT intV q.s.t m (fun i v hf => ?_) (fun hf => ?_)
       · have hv := Z2y hf
         have hn : v = numM (fA m) q.s := by rw [Xq h2, hv]
         conv => whnf
         repeat' ((first | with_reducible refine IF.tt ?_ | with_reducible refine IF.ff ?_ | refine AU ?_ | (refine IW (fun h => ?_) (fun h => ?_) <;> try (exfalso; omega))) <;> conv => whnf)
         refine CALL.aA [7] (ZW own v (by omega)) ?_
         rintro r O nx ⟨rfl, rfl, rfl⟩
         conv => whnf
         repeat' ((first | with_reducible refine IF.tt ?_ | with_reducible refine IF.ff ?_ | refine AU ?_ | (refine IW (fun h => ?_) (fun h => ?_) <;> try (exfalso; omega))) <;> conv => whnf)
         · rw [Uq own _ rfl]
           refine ⟨⟨0 + 1, v, b, c, d, own ++ [v]⟩, ⟨by dsimp only; omega, fun _ => hn, fun h => by simp at h, fun h => by simp at h, fun h => by simp at h, by dsimp only; rw [hst, Wa h2 (by rw [hv, ← ho]; exact h), ho, hv]⟩, by dsimp only; omega, ?_⟩
           conv => whnf
           exact GOES.kA h0 [5, 6, 10]
         · refine ⟨⟨0 + 1, v, b, c, d, own⟩, ⟨by dsimp only; omega, fun _ => hn, fun h => by simp at h, fun h => by simp at h, fun h => by simp at h, by dsimp only; rw [hst, W9 h2 (by rw [hv, ← ho]; exact h), ho]⟩, by dsimp only; omega, ?_⟩
           conv => whnf
           exact GOES.cA h0
       · have hv := Z2z hf
         have hn : 0 = numM (fA m) q.s := by rw [Xq h2, hv]
         conv => whnf
         repeat' ((first | with_reducible refine IF.tt ?_ | with_reducible refine IF.ff ?_ | refine AU ?_ | (refine IW (fun h => ?_) (fun h => ?_) <;> try (exfalso; omega))) <;> conv => whnf)
         refine CALL.aA [7] (ZW own 0 (by omega)) ?_
         rintro r O nx ⟨rfl, rfl, rfl⟩
         conv => whnf
         repeat' ((first | with_reducible refine IF.tt ?_ | with_reducible refine IF.ff ?_ | refine AU ?_ | (refine IW (fun h => ?_) (fun h => ?_) <;> try (exfalso; omega))) <;> conv => whnf)
         · rw [Uq own _ rfl]
           refine ⟨⟨0 + 1, 0, b, c, d, own ++ [0]⟩, ⟨by dsimp only; omega, fun _ => hn, fun h => by simp at h, fun h => by simp at h, fun h => by simp at h, by dsimp only; rw [hst, Wa h2 (by rw [hv, ← ho]; exact h), ho, hv]⟩, by dsimp only; omega, ?_⟩
           conv => whnf
           exact GOES.kA h0 [5, 6, 10]
         · refine ⟨⟨0 + 1, 0, b, c, d, own⟩, ⟨by dsimp only; omega, fun _ => hn, fun h => by simp at h, fun h => by simp at h, fun h => by simp at h, by dsimp only; rw [hst, W9 h2 (by rw [hv, ← ho]; exact h), ho]⟩, by dsimp only; omega, ?_⟩
           conv => whnf
           exact GOES.cA h0
     · refine ⟨⟨0 + 1, -1, b, c, d, own⟩, ⟨by dsimp only; omega, fun _ => (Jq h).symm, fun h => by simp at h, fun h => by simp at h, fun h => by simp at h, by dsimp only; rw [hst, Z5o h]; exact ho⟩, by dsimp only; omega, ?_⟩
       conv => whnf
       exact GOES.cA h0
   · have hst := Uo (fA m) q (k := 1) q.p rfl
     conv => whnf
     repeat' ((first | with_reducible refine IF.tt ?_ | with_reducible refine IF.ff ?_ | refine AU ?_ | (refine IW (fun h => ?_) (fun h => ?_) <;> try (exfalso; omega))) <;> conv => whnf)
     · have h2 := h
       refine NEED.mk ⟨KT.ok _, JK KT intV _⟩ ?_
       refine FIND.A KT intV q.p.t m (fun i v hf => ?_) (fun hf => ?_)
       · have hv := Z2y hf
         have hn : v = numM (fA m) q.p := by rw [Xq h2, hv]
         conv => whnf
         repeat' ((first | with_reducible refine IF.tt ?_ | with_reducible refine IF.ff ?_ | refine AU ?_ | (refine IW (fun h => ?_) (fun h => ?_) <;> try (exfalso; omega))) <;> conv => whnf)
         refine CALL.aA [7] (ZW own v (by omega)) ?_
         rintro r O nx ⟨rfl, rfl, rfl⟩
         conv => whnf
         repeat' ((first | with_reducible refine IF.tt ?_ | with_reducible refine IF.ff ?_ | refine AU ?_ | (refine IW (fun h => ?_) (fun h => ?_) <;> try (exfalso; omega))) <;> conv => whnf)
         · rw [Uq own _ rfl]
           refine ⟨⟨1 + 1, a, v, c, d, own ++ [v]⟩, ⟨by dsimp only; omega, fun _ => ha (by omega), fun _ => hn, fun h => by simp at h, fun h => by simp at h, by dsimp only; rw [hst, Wa h2 (by rw [hv, ← ho]; exact h), ho, hv]⟩, by dsimp only; omega, ?_⟩
           conv => whnf
           exact GOES.kA h0 [5, 6, 10]
         · refine ⟨⟨1 + 1, a, v, c, d, own⟩, ⟨by dsimp only; omega, fun _ => ha (by omega), fun _ => hn, fun h => by simp at h, fun h => by simp at h, by dsimp only; rw [hst, W9 h2 (by rw [hv, ← ho]; exact h), ho]⟩, by dsimp only; omega, ?_⟩
           conv => whnf
           exact GOES.cA h0
       · have hv := Z2z hf
         have hn : 0 = numM (fA m) q.p := by rw [Xq h2, hv]
         conv => whnf
         repeat' ((first | with_reducible refine IF.tt ?_ | with_reducible refine IF.ff ?_ | refine AU ?_ | (refine IW (fun h => ?_) (fun h => ?_) <;> try (exfalso; omega))) <;> conv => whnf)
         refine CALL.aA [7] (ZW own 0 (by omega)) ?_
         rintro r O nx ⟨rfl, rfl, rfl⟩
         conv => whnf
         repeat' ((first | with_reducible refine IF.tt ?_ | with_reducible refine IF.ff ?_ | refine AU ?_ | (refine IW (fun h => ?_) (fun h => ?_) <;> try (exfalso; omega))) <;> conv => whnf)
         · rw [Uq own _ rfl]
           refine ⟨⟨1 + 1, a, 0, c, d, own ++ [0]⟩, ⟨by dsimp only; omega, fun _ => ha (by omega), fun _ => hn, fun h => by simp at h, fun h => by simp at h, by dsimp only; rw [hst, Wa h2 (by rw [hv, ← ho]; exact h), ho, hv]⟩, by dsimp only; omega, ?_⟩
           conv => whnf
           exact GOES.kA h0 [5, 6, 10]
         · refine ⟨⟨1 + 1, a, 0, c, d, own⟩, ⟨by dsimp only; omega, fun _ => ha (by omega), fun _ => hn, fun h => by simp at h, fun h => by simp at h, by dsimp only; rw [hst, W9 h2 (by rw [hv, ← ho]; exact h), ho]⟩, by dsimp only; omega, ?_⟩
           conv => whnf
           exact GOES.cA h0
     · refine ⟨⟨1 + 1, a, -1, c, d, own⟩, ⟨by dsimp only; omega, fun _ => ha (by omega), fun _ => (Jq h).symm, fun h => by simp at h, fun h => by simp at h, by dsimp only; rw [hst, Z5o h]; exact ho⟩, by dsimp only; omega, ?_⟩
       conv => whnf
       exact GOES.cA h0
   · have hst := Uo (fA m) q (k := 2) q.o rfl
     conv => whnf
     repeat' ((first | with_reducible refine IF.tt ?_ | with_reducible refine IF.ff ?_ | refine AU ?_ | (refine IW (fun h => ?_) (fun h => ?_) <;> try (exfalso; omega))) <;> conv => whnf)
     · have h2 := h
       refine NEED.mk ⟨KT.ok _, JK KT intV _⟩ ?_
       refine FIND.A KT intV q.o.t m (fun i v hf => ?_) (fun hf => ?_)
       · have hv := Z2y hf
         have hn : v = numM (fA m) q.o := by rw [Xq h2, hv]
         conv => whnf
         repeat' ((first | with_reducible refine IF.tt ?_ | with_reducible refine IF.ff ?_ | refine AU ?_ | (refine IW (fun h => ?_) (fun h => ?_) <;> try (exfalso; omega))) <;> conv => whnf)
         refine CALL.aA [7] (ZW own v (by omega)) ?_
         rintro r O nx ⟨rfl, rfl, rfl⟩
         conv => whnf
         repeat' ((first | with_reducible refine IF.tt ?_ | with_reducible refine IF.ff ?_ | refine AU ?_ | (refine IW (fun h => ?_) (fun h => ?_) <;> try (exfalso; omega))) <;> conv => whnf)
         · rw [Uq own _ rfl]
           refine ⟨⟨2 + 1, a, b, v, d, own ++ [v]⟩, ⟨by dsimp only; omega, fun _ => ha (by omega), fun _ => hb (by omega), fun _ => hn, fun h => by simp at h, by dsimp only; rw [hst, Wa h2 (by rw [hv, ← ho]; exact h), ho, hv]⟩, by dsimp only; omega, ?_⟩
           conv => whnf
           exact GOES.kA h0 [5, 6, 10]
         · refine ⟨⟨2 + 1, a, b, v, d, own⟩, ⟨by dsimp only; omega, fun _ => ha (by omega), fun _ => hb (by omega), fun _ => hn, fun h => by simp at h, by dsimp only; rw [hst, W9 h2 (by rw [hv, ← ho]; exact h), ho]⟩, by dsimp only; omega, ?_⟩
           conv => whnf
           exact GOES.cA h0
       · have hv := Z2z hf
         have hn : 0 = numM (fA m) q.o := by rw [Xq h2, hv]
         conv => whnf
         repeat' ((first | with_reducible refine IF.tt ?_ | with_reducible refine IF.ff ?_ | refine AU ?_ | (refine IW (fun h => ?_) (fun h => ?_) <;> try (exfalso; omega))) <;> conv => whnf)
         refine CALL.aA [7] (ZW own 0 (by omega)) ?_
         rintro r O nx ⟨rfl, rfl, rfl⟩
         conv => whnf
         repeat' ((first | with_reducible refine IF.tt ?_ | with_reducible refine IF.ff ?_ | refine AU ?_ | (refine IW (fun h => ?_) (fun h => ?_) <;> try (exfalso; omega))) <;> conv => whnf)
         · rw [Uq own _ rfl]
           refine ⟨⟨2 + 1, a, b, 0, d, own ++ [0]⟩, ⟨by dsimp only; omega, fun _ => ha (by omega), fun _ => hb (by omega), fun _ => hn, fun h => by simp at h, by dsimp only; rw [hst, Wa h2 (by rw [hv, ← ho]; exact h), ho, hv]⟩, by dsimp only; omega, ?_⟩
           conv => whnf
           exact GOES.kA h0 [5, 6, 10]
         · refine ⟨⟨2 + 1, a, b, 0, d, own⟩, ⟨by dsimp only; omega, fun _ => ha (by omega), fun _ => hb (by omega), fun _ => hn, fun h => by simp at h, by dsimp only; rw [hst, W9 h2 (by rw [hv, ← ho]; exact h), ho]⟩, by dsimp only; omega, ?_⟩
           conv => whnf
           exact GOES.cA h0
     · refine ⟨⟨2 + 1, a, b, -1, d, own⟩, ⟨by dsimp only; omega, fun _ => ha (by omega), fun _ => hb (by omega), fun _ => (Jq h).symm, fun h => by simp at h, by dsimp only; rw [hst, Z5o h]; exact ho⟩, by dsimp only; omega, ?_⟩
       conv => whnf
       exact GOES.cA h0
   · have hst := Uo (fA m) q (k := 3) q.g rfl
     conv => whnf
     repeat' ((first | with_reducible refine IF.tt ?_ | with_reducible refine IF.ff ?_ | refine AU ?_ | (refine IW (fun h => ?_) (fun h => ?_) <;> try (exfalso; omega))) <;> conv => whnf)
     · have h2 := h
       refine NEED.mk ⟨KT.ok _, JK KT intV _⟩ ?_
       refine FIND.A KT intV q.g.t m (fun i v hf => ?_) (fun hf => ?_)
       · have hv := Z2y hf
         have hn : v = numM (fA m) q.g := by rw [Xq h2, hv]
         conv => whnf
         repeat' ((first | with_reducible refine IF.tt ?_ | with_reducible refine IF.ff ?_ | refine AU ?_ | (refine IW (fun h => ?_) (fun h => ?_) <;> try (exfalso; omega))) <;> conv => whnf)
         refine CALL.aA [7] (ZW own v (by omega)) ?_
         rintro r O nx ⟨rfl, rfl, rfl⟩
         conv => whnf
         repeat' ((first | with_reducible refine IF.tt ?_ | with_reducible refine IF.ff ?_ | refine AU ?_ | (refine IW (fun h => ?_) (fun h => ?_) <;> try (exfalso; omega))) <;> conv => whnf)
         · rw [Uq own _ rfl]
           refine ⟨⟨3 + 1, a, b, c, v, own ++ [v]⟩, ⟨by dsimp only; omega, fun _ => ha (by omega), fun _ => hb (by omega), fun _ => hc (by omega), fun _ => hn, by dsimp only; rw [hst, Wa h2 (by rw [hv, ← ho]; exact h), ho, hv]⟩, by dsimp only; omega, ?_⟩
           conv => whnf
           exact GOES.kA h0 [5, 6, 10]
         · refine ⟨⟨3 + 1, a, b, c, v, own⟩, ⟨by dsimp only; omega, fun _ => ha (by omega), fun _ => hb (by omega), fun _ => hc (by omega), fun _ => hn, by dsimp only; rw [hst, W9 h2 (by rw [hv, ← ho]; exact h), ho]⟩, by dsimp only; omega, ?_⟩
           conv => whnf
           exact GOES.cA h0
       · have hv := Z2z hf
         have hn : 0 = numM (fA m) q.g := by rw [Xq h2, hv]
         conv => whnf
         repeat' ((first | with_reducible refine IF.tt ?_ | with_reducible refine IF.ff ?_ | refine AU ?_ | (refine IW (fun h => ?_) (fun h => ?_) <;> try (exfalso; omega))) <;> conv => whnf)
         refine CALL.aA [7] (ZW own 0 (by omega)) ?_
         rintro r O nx ⟨rfl, rfl, rfl⟩
         conv => whnf
         repeat' ((first | with_reducible refine IF.tt ?_ | with_reducible refine IF.ff ?_ | refine AU ?_ | (refine IW (fun h => ?_) (fun h => ?_) <;> try (exfalso; omega))) <;> conv => whnf)
         · rw [Uq own _ rfl]
           refine ⟨⟨3 + 1, a, b, c, 0, own ++ [0]⟩, ⟨by dsimp only; omega, fun _ => ha (by omega), fun _ => hb (by omega), fun _ => hc (by omega), fun _ => hn, by dsimp only; rw [hst, Wa h2 (by rw [hv, ← ho]; exact h), ho, hv]⟩, by dsimp only; omega, ?_⟩
           conv => whnf
           exact GOES.kA h0 [5, 6, 10]
         · refine ⟨⟨3 + 1, a, b, c, 0, own⟩, ⟨by dsimp only; omega, fun _ => ha (by omega), fun _ => hb (by omega), fun _ => hc (by omega), fun _ => hn, by dsimp only; rw [hst, W9 h2 (by rw [hv, ← ho]; exact h), ho]⟩, by dsimp only; omega, ?_⟩
           conv => whnf
           exact GOES.cA h0
     · refine ⟨⟨3 + 1, a, b, c, -1, own⟩, ⟨by dsimp only; omega, fun _ => ha (by omega), fun _ => hb (by omega), fun _ => hc (by omega), fun _ => (Jq h).symm, by dsimp only; rw [hst, Z5o h]; exact ho⟩, by dsimp only; omega, ?_⟩
       conv => whnf
       exact GOES.cA h0
 · have hk : k = 4 := by simp at h; omega
   subst hk
   have ha := ha (by omega)
   have hb := hb (by omega)
   have hc := hc (by omega)
   have hd := hd (by omega)
   subst ha hb hc hd
   have hol := Z7K (fA m) q
   have hoe : own = ownM (fA m) q := ho
   rw [show putS (fA m) ins q = own.foldl (putN (sdM (fA m) q)) ins by rw [hoe]; rfl, ← hoe]
   rw [← hoe] at hin hol
   clear hoe ho hk4 h
   conv => whnf
   repeat' ((first | with_reducible refine IF.tt ?_ | with_reducible refine IF.ff ?_ | refine AU ?_ | (refine IW (fun h => ?_) (fun h => ?_) <;> try (exfalso; omega))) <;> conv => whnf)
   refine LOOP.gok Z2 [0, 7, 8, 50, 51] [0, 6, 7] (X := Nat) (fun j => j ≤ own.length) (fun j => [(52, .int .i64 (j : Int))]) (fun j => [(1, .deep false 1 (inD ((own.take j).foldl (putN (sdM (fA m) q)) ins)))]) 8 (fun j => own.length - j) 0 (by omega) ?_
   conv => whnf
   refine ⟨by exact GOES.cA h0, ?_⟩
   rintro j hj
   conv => whnf
   refine IF.mk (fun h => ?_) (fun h => ?_)
   · have hlt : j < own.length := by simp at h; omega
     obtain ⟨hn0, hn1⟩ := hin _ (List.getElem_mem hlt)
     have hlen := JM (sdM (fA m) q) (own.take j) ins
     have hbd := Xf (s := sdM (fA m) q) (L := own.take j) hl
     rw [List.length_take] at hbd
     have hto := Jp (putN (sdM (fA m) q)) ins own hlt
     generalize (own.take j).foldl (putN (sdM (fA m) q)) ins = I at hlen hto hbd
     have hg := JP hlt
     generalize own[j] = n at hn0 hn1 hto hg
     conv => whnf
     repeat' ((first | with_reducible refine IF.tt ?_ | with_reducible refine IF.ff ?_ | (refine GET.at (row := ZK n) (by rw [Int.toNat_natCast, Nat.zero_add]; exact hg) ?_; conv => whnf) | refine AU ?_ | (refine IW (fun h => ?_) (fun h => ?_) <;> try (exfalso; omega))) <;> conv => whnf)
     have hnl : n.toNat < I.length := by omega
     have hIn : (List.map Jc I[n.toNat]).length ≤ 67108868 := by
       rw [List.length_map]
       have := hbd _ (List.getElem_mem hnl)
       omega
     refine GHO.drawn (GHO.take 1 n.toNat 0 rfl (YS hnl) rfl) ?_
     repeat' ((first | with_reducible refine IF.tt ?_ | with_reducible refine IF.ff ?_ | (show DRAWN _ _ _ _ _ _ _; first | refine DRAWN.of (id := 15) Z2 mixed Z7V (by kernel_rfl) ?_) | refine ADD.mk (fun _ _ => ?_) | refine AD ?_ | refine FORK.mk ?_ ?_ | (refine GET.at (by rw [Nat.zero_add]; exact YI (YS hnl)) ?_; conv => whnf) | (refine FINDD.at (by rw [Nat.zero_add]; exact YJ (YS hnl)) ?_; conv => whnf) | refine AU ?_ | (refine IW (fun h => ?_) (fun h => ?_) <;> try (exfalso; omega))) <;> conv => whnf)
     all_goals rw [Ur hnl (Nat.zero_add _) (s := sdM (fA m) q) (by rw [List.take_of_length_le (by simp), List.take_of_length_le (by simp)]; simp [Jc, sdM])]
     all_goals refine ⟨j + 1, by omega, by omega, ?_⟩
     all_goals rw [hto]
     all_goals (conv => whnf)
     all_goals exact GOES.cA h0
   · have hj : j = own.length := by simp at h; omega
     subst hj
     rw [List.take_length]
     conv => whnf
     repeat' ((first | with_reducible refine IF.tt ?_ | with_reducible refine IF.ff ?_ | refine AU ?_ | (refine IW (fun h => ?_) (fun h => ?_) <;> try (exfalso; omega))) <;> conv => whnf)
     refine FIN.aA h0 [] (.bool (decide ((0 : Int) < (own.length : Int)))) [(0, wBox nl ins.length ng), (1, .deep false 1 (inD (own.foldl (putN (sdM (fA m) q)) ins)))] ⟨?_, rfl, rfl⟩
     exact congrArg SV.bool (by simp)
def Js (b : Int) (A : List LB) : Nat → List (LB × Int)
 | 0 => []
 | i + 1 => match A[i]? with
   | some x => setA x (b + i) (Js b A i)
   | none => Js b A i
theorem Vw {b : Int} {A : List LB} {i : Nat} (h : i < A.length) : Js b A (i + 1) = setA A[i] (b + i) (Js b A i) := by
 rw [Js, List.getElem?_eq_getElem h]
theorem Z2H {b : Int} {A : List LB} (hn : A.Nodup) : ∀ (n : Nat) (x : LB), n ≤ A.length → getA x (Js b A n) = if h : A.idxOf x < n then some (b + (A.idxOf x : Nat)) else none
 | 0, x, _ => by simp [Js, getA]
 | n + 1, x, h => by
   rw [Vw (by omega), Z2o, Z2H hn n x (by omega)]
   have hidx : A.idxOf A[n] = n := hn.idxOf_getElem n (by omega)
   by_cases e : x = A[n]
   · subst e
     rw [if_pos rfl, dif_pos (by omega), hidx]
   · rw [if_neg e]
     have hne : A.idxOf x ≠ n := fun h2 => e (by
       have hlt : A.idxOf x < A.length := by omega
       have := List.getElem_idxOf hlt
       rw [← this]; congr 1)
     by_cases h3 : A.idxOf x < n
     · rw [dif_pos h3, dif_pos (by omega)]
     · rw [dif_neg h3, dif_neg (by omega)]
def ixF (b : Int) (A : List LB) (x : LB) : Int := if x ∈ A then b + (A.idxOf x : Nat) else 0
theorem Zcn {b : Int} {A : List LB} (hn : A.Nodup) : fA (Js b A A.length) = ixF b A := by
 funext x
 unfold fA ixF
 rw [Z2H hn _ x (Nat.le_refl _)]
 by_cases h : x ∈ A
 · rw [dif_pos (List.idxOf_lt_length_of_mem h), if_pos h]; rfl
 · rw [dif_neg (by rw [List.idxOf_lt_length_iff]; exact h), if_neg h]; rfl
theorem Zco (I : List (List Sd)) {n : Nat} (hn : n = I.length) {T : Tab} {e : TypeId} (hT : appV T e (.val (.slice none 0 0)) = .kid 20 []) : (inD I).take n ++ List.map (fun row => row.map (appV T e)) (List.take 1 (List.drop 0 [[ZX (Value.slice none 0 0)]])) = inD (I ++ [[]]) := by
 subst hn
 rw [List.take_of_length_le (by simp [inD])]
 simp only [inD, List.map_append, List.map_cons, List.map_nil, Z7I, List.drop_zero, List.take_succ_cons, List.take_zero, ZX, hT]
theorem Z8a (A : List LB) {i : Nat} (h : i < A.length) : List.take i ((A.take i).map Z6) ++ List.take 1 (List.drop 0 [[SV.str A[i]]]) = (A.take (i + 1)).map Z6 := by
 rw [List.take_of_length_le (by rw [List.length_map, List.length_take]; omega), List.take_succ_eq_append_getElem h, List.map_append]
 rfl
theorem Jt (f : LB → Int) : ∀ (l : List Qd) (I : List (List Sd)), (l.foldl (putS f) I).length = I.length
 | [], _ => rfl
 | q :: l, I => by rw [List.foldl_cons, Jt f l, Z9e]
theorem JQ {f : LB → Int} : ∀ {l : List Qd} {N : Nat} {I : List (List Sd)}, (∀ x ∈ I, x.length ≤ N) → ∀ x ∈ l.foldl (putS f) I, x.length ≤ N + l.length * 4
 | [], N, I, h => h
 | q :: l, N, I, h => fun x hx => by
   have h1 := Xf (s := sdM f q) (L := ownM f q) h
   have h2 := Z7K f q
   have := JQ (f := f) (l := l) (N := N + 4) (I := putS f I q) (fun y hy => Nat.le_trans (h1 y hy) (by omega)) x hx
   simp only [List.length_cons]; omega
def UK (f : LB → Int) (l : List Qd) : List Qd := l.filter fun q => decide (ownM f q = [])
theorem Z4v (f : LB → Int) {l : List Qd} {j : Nat} (h : j < l.length) : UK f (l.take (j + 1)) = if ownM f l[j] = [] then UK f (l.take j) ++ [l[j]] else UK f (l.take j) := by
 unfold UK
 rw [List.take_succ_eq_append_getElem h, List.filter_append]
 by_cases e : ownM f l[j] = []
 · rw [if_pos e]; simp [e]
 · rw [if_neg e]; simp [e]
theorem Zcp {l z : List Qd} {i k : Nat} (h : i < l.length) (e : k = i) : ((l ++ z).map Zc)[k]? = some (Zc l[i]) := by
 subst e; rw [List.getElem?_map, List.getElem?_append_left h, List.getElem?_eq_getElem h]; rfl
theorem Zcq (G : List Qd) (q : Qd) {n : Nat} (hn : n = G.length) : List.take n (G.map Zc) ++ List.take 1 (List.drop 0 [[.int .i64 q.s.k, .str q.s.t, .str q.s.y, .str q.s.l, .int .i64 q.p.k, .str q.p.t, .str q.p.y, .str q.p.l, .int .i64 q.o.k, .str q.o.t, .str q.o.y, .str q.o.l, .int .i64 q.g.k, .str q.g.t, .str q.g.y, .str q.g.l]]) = (G ++ [q]).map Zc := by
 subst hn
 rw [List.take_of_length_le (by simp), List.map_append]
 rfl
theorem VY {l c : Int} {b : Nat} (B : Nat) (hb : Nat.ble b B = true) (h1 : 0 ≤ l) (h2 : l ≤ c) (h3 : c ≤ 9223372036854775807) (h4 : B * c ≤ 281474976710656) : 0 ≤ l ∧ l ≤ c ∧ c ≤ 9223372036854775807 ∧ (b : Int) * c ≤ 281474976710656 :=
 ⟨h1, h2, h3, Int.le_trans (Int.mul_le_mul_of_nonneg_right (by exact_mod_cast Nat.le_of_ble_eq_true hb) (Int.le_trans h1 h2)) h4⟩
def Yz (l : List Qd) : List (List Sd) := l.foldl (putS (ixF 0 (ZD l))) (List.replicate (ZD l).length [])
def wHp (k : Nat) (labs : List LB) (cls : List Int) (ins : List (List Sd)) (ng : Nat) (count : Int) : Hps :=
 [(k, .box [.sl (.loc (k + 1)) 0 1 labs.length none, .sl (.loc (k + 2)) 0 1 cls.length none, .sl (.loc (k + 3)) 0 1 ins.length none, .sl (.loc (k + 4)) 0 1 ng none, .int .i64 count]), (k + 1, .rows 1 (labs.map Z6)), (k + 2, .rows 1 (cls.map ZK)), (k + 3, .deep false 1 (inD ins))]
set_option maxHeartbeats 4000000 in
theorem Z6n (l z : List Qd) (lim : Option Nat) (hl : JI l) (hl2 : l.length ≤ 1048576) (hz : (l ++ z).length ≤ 1152921504606846976) :
   Does Tryz.prog tab 36 2 [.sl (.loc 0) 0 1 1 none] [] [(0, .rows 1 [[.sl (.loc 1) 0 16 l.length lim]]), (1, .rows 16 ((l ++ z).map Zc))]
   (fun r O nx => r = .ptr (.loc 2) 0 0 0 ∧ O = wHp 2 (ZD l) (List.replicate (ZD l).length 0) (Yz l) 1 (if ((ZD l).length : Int) < 1 then ((ZD l).length : Int) else 1) ∧ nx = 7) := by
 have hbl := Z4q l z lim hl hz
 have hAl : (ZD l).length ≤ l.length * 4 := Nat.le_trans (Xe _) (Xz _ Yx _)
 have hnd : (ZD l).Nodup := Z4t triL (Xh triL _)
 have hmem : ∀ x ∈ X3 l, x ∈ ZD l := fun x hx => (Jb _ _).2 hx
 refine Does.enter Z2 (g := 36) (fn := Tryz.f36) Tryz.call36 Tryz.func36 rfl 106 rfl rfl [.tmp 2] rfl ?_
 intro w0 F η0 h0
 conv => whnf
 repeat' ((first | with_reducible refine IF.tt ?_ | with_reducible refine IF.ff ?_ | refine AU ?_ | (refine IW (fun h => ?_) (fun h => ?_) <;> try (exfalso; omega))) <;> conv => whnf)
 refine LOOP.once Z2 ?_
 conv => whnf
 repeat' ((first | with_reducible refine IF.tt ?_ | with_reducible refine IF.ff ?_ | refine AU ?_ | (refine IW (fun h => ?_) (fun h => ?_) <;> try (exfalso; omega))) <;> conv => whnf)
 refine CALL.aA [1] (hbl) ?_
 rintro r O nx ⟨jj, hjj, rfl, rfl, rfl⟩
 have hcn : ZM [1] (2 + 1 + 1) 1 = 4 := rfl
 simp only [renO, renH, ren, renB, Z9 _ (Ze _), List.cons_append, List.nil_append, hcn]
 conv => whnf
 repeat' ((first | with_reducible refine IF.tt ?_ | with_reducible refine IF.ff ?_ | refine AU ?_ | (refine IW (fun h => ?_) (fun h => ?_) <;> try (exfalso; omega))) <;> conv => whnf)
 refine LOOP.nilCell 2 0 1 rfl rfl (LOOP.nilCell 2 2 1 rfl rfl (LOOP.nilCell 2 3 1 rfl rfl (GHO.loop (GHO.deepen 6 [] rfl ⟨rfl, fun a r h => by simp at h⟩) ?_)))
 have hset : setL cmpL (X3 l) = ZD l := rfl
 rw [hset] at hjj ⊢
 unfold Yz
 unfold JI at hl
 generalize ZD l = A at hAl hnd hmem hjj
 refine LOOP.gok Z2 [3, 5, 6, 7, 15, 16, 17, 28, 29] [4, 7] (X := Nat) (fun i => i ≤ A.length) (fun i => [(30, .int .i64 (i : Int))])
   (fun i => [(2, .box [.sl (.loc 5) 0 1 i none, .val (.slice none 0 0), .sl (.loc 6) 0 1 i none, .sl (.loc 7) 0 1 0 none, .int .i64 0]), (3, .mp (numT (Js 0 A i))), (5, .rows 1 ((A.take i).map Z6)), (6, .deep false 1 (inD (List.replicate i [])))]) 8 (fun i => A.length - i) 0 (by omega) ?_
 conv => whnf
 refine ⟨by exact GOES.cA h0, ?_⟩
 intro i hi
 have hti : (A.take i).length = i := by rw [List.length_take]; omega
 have hri : (List.replicate i ([] : List Sd)).length = i := List.length_replicate
 conv => whnf
 refine IF.mk (fun h => ?_) (fun h => ?_)
 · as_aux_lemma =>
   have hlt : i < A.length := by simp at h; omega
   have hs := Vw (b := 0) hlt
   have hw : IntKind.i64.wrap (((0 : Nat) : Int) + (i : Int)) = 0 + (i : Int) := by rw [Z8 (by omega) (by omega)]; rfl
   conv => whnf
   repeat' (first | (refine GET.at (row := Z6 A[i]) (ZcX hlt (by omega)) ?_; conv => whnf) | (refine NEED.mk ⟨KT.ok _, JK KT _ _⟩ ?_; conv => whnf) | (rw [hw]; conv => whnf) | (refine NEED.mk (Zu 24 rfl rfl rfl (by rw [ZaY, hri]; exact Nat.le_refl _) (by omega)) ?_; conv => whnf) | (refine NEED.mk (Zu 16 rfl rfl rfl (by rw [List.length_map, hti]; exact Nat.le_refl _) (by omega)) ?_; conv => whnf) | (refine AU ?_; conv => whnf))
   rw [Zco (List.replicate i []) hri.symm, ← List.replicate_succ', Z8a A hlt]
   rotate_left
   · rfl
   first | rw [Zal, ← hs] | rw [Zam, ← hs]
   refine ⟨i + 1, by omega, by omega, ?_⟩
   conv => whnf
   exact GOES.kA h0 [2, 3, 4, 9, 11, 7]
 · as_aux_lemma =>
   have hie : i = A.length := by simp at h; omega
   subst hie
   rw [List.take_length]
   conv => whnf
   repeat' ((first | with_reducible refine IF.tt ?_ | with_reducible refine IF.ff ?_ | refine AU ?_ | (refine IW (fun h => ?_) (fun h => ?_) <;> try (exfalso; omega))) <;> conv => whnf)
   refine LOOP.nil 10 16 rfl ?_
   have hfA := Zcn (b := 0) hnd
   have hins : ∀ j, ((l.take j).foldl (putS (ixF 0 A)) (List.replicate A.length [])).length = A.length := fun j => by rw [Jt]; exact List.length_replicate
   refine LOOP.gok Z2 [3, 7, 15, 16, 17, 60, 61] [2, 3, 5, 7] (X := Nat × List Qd) (fun x => x.1 ≤ l.length ∧ x.2 = UK (ixF 0 A) (l.take x.1)) (fun x => [(62, .int .i64 (x.1 : Int)), (10, .sl (.loc 8) 0 16 x.2.length none)])
     (fun x => [(6, .deep false 1 (inD ((l.take x.1).foldl (putS (ixF 0 A)) (List.replicate A.length [])))), (8, .rows 16 (x.2.map Zc))]) 9 (fun x => l.length - x.1) (0, []) ⟨by simp, rfl⟩ ?_
   conv => whnf
   refine ⟨by exact GOES.cA h0, ?_⟩
   rintro ⟨j, G⟩ ⟨hj, hG⟩
   dsimp only at hj hG ⊢
   have hgl : G.length ≤ j := by
     have := List.length_filter_le (fun q => decide (ownM (ixF 0 A) q = [])) (l.take j)
     rw [List.length_take] at this
     rw [hG]
     unfold UK; omega
   conv => whnf
   refine IF.mk (fun h => ?_) (fun h => ?_)
   · as_aux_lemma =>
     have hlt : j < l.length := by simp at h; omega
     have hto := Jp (putS (ixF 0 A)) (List.replicate A.length []) l hlt
     have hgt := Z4v (ixF 0 A) hlt
     have hI := hins j
     have hbd := JQ (f := ixF 0 A) (l := l.take j) (N := 0) (I := List.replicate A.length []) (fun x hx => by rw [List.eq_of_mem_replicate hx]; exact Nat.le_refl _)
     rw [List.length_take] at hbd
     have hown : Z0T A.length (ownM (ixF 0 A) l[j]) := ZbZ fun x hx => by
       have hx := hmem x (List.mem_flatMap.2 ⟨_, List.getElem_mem hlt, hx⟩)
       unfold ixF
       rw [if_pos hx]
       have := List.idxOf_lt_length_of_mem hx
       omega
     generalize (l.take j).foldl (putS (ixF 0 A)) (List.replicate A.length []) = I at hto hI hbd
     rw [← hG] at hgt
     have hput := Z9i l[j] (Js 0 A A.length) I A.length 0 A.length hI.symm (by rw [hfA, hI]; exact hown) (fun x hx => by have := hbd x hx; omega) (by omega)
     rw [hfA] at hput
     conv => whnf
     repeat' ((first | with_reducible refine IF.tt ?_ | with_reducible refine IF.ff ?_ | (refine GET.at (row := Zc l[j]) (Zcp hlt (by omega)) ?_; conv => whnf) | refine AU ?_ | (refine IW (fun h => ?_) (fun h => ?_) <;> try (exfalso; omega))) <;> conv => whnf)
     refine CALL.aA [2, 6, 3, 5, 7] (hput) ?_
     rintro r O nx ⟨rfl, rfl, rfl⟩
     conv => whnf
     repeat' ((first | with_reducible refine IF.tt ?_ | with_reducible refine IF.ff ?_ | refine AU ?_ | (refine IW (fun h => ?_) (fun h => ?_) <;> try (exfalso; omega))) <;> conv => whnf)
     · have he : ownM (ixF 0 A) l[j] = [] := List.length_eq_zero_iff.1 (by omega)
       rw [if_pos he] at hgt
       rw [Zcq G l[j] rfl]
       refine ⟨(j + 1, G ++ [l[j]]), ⟨by dsimp only; omega, hgt.symm⟩, by dsimp only; omega, ?_⟩
       dsimp only
       rw [hto]
       conv => whnf
       exact GOES.kA h0 [2, 3, 4, 5, 6, 7, 11]
     · have he : ¬ ownM (ixF 0 A) l[j] = [] := fun e => by rw [e] at h; simp at h
       rw [if_neg he] at hgt
       refine ⟨(j + 1, G), ⟨by dsimp only; omega, hgt.symm⟩, by dsimp only; omega, ?_⟩
       dsimp only
       rw [hto]
       conv => whnf
       exact GOES.cA h0
   · as_aux_lemma =>
     have hje : j = l.length := by simp at h; omega
     subst hje
     rw [List.take_length]
     conv => whnf
     repeat' ((first | with_reducible refine IF.tt ?_ | with_reducible refine IF.ff ?_ | refine AU ?_ | (refine IW (fun h => ?_) (fun h => ?_) <;> try (exfalso; omega))) <;> conv => whnf)
     refine LOOP.once Z2 ?_
     conv => whnf
     repeat' ((first | with_reducible refine IF.tt ?_ | with_reducible refine IF.ff ?_ | (refine NEED.mk (VY 8 rfl (by omega) (by omega) (by omega) (by omega)) ?_; conv => whnf) | refine AU ?_ | (refine IW (fun h => ?_) (fun h => ?_) <;> try (exfalso; omega))) <;> conv => whnf)
     have hil : (l.foldl (putS (ixF 0 A)) (List.replicate A.length [])).length = A.length := by have := hins l.length; rw [List.take_length] at this; exact this
     rw [show List.replicate (A.length : Int).toNat [SV.int .i64 0] = (List.replicate A.length 0).map ZK by rw [List.map_replicate]; rfl]
     refine FIN.aA h0 [2, 5, 11, 6, 10] (.ptr (.loc 2) 0 0 0) [(2, .box [.sl (.loc 3) 0 1 A.length none, .sl (.loc 4) 0 1 A.length none, .sl (.loc 5) 0 1 A.length none, .sl (.loc 6) 0 1 1 none, .int .i64 (if (A.length : Int) < 1 then (A.length : Int) else 1)]), (3, .rows 1 (A.map Z6)), (4, .rows 1 ((List.replicate A.length 0).map ZK)), (5, .deep false 1 (inD (l.foldl (putS (ixF 0 A)) (List.replicate A.length []))))] ⟨rfl, ?_, rfl⟩
     unfold wHp
     rw [hil, List.length_replicate]
end Go.Proofs.YtbfbokdccdagkaaGreatDoor
