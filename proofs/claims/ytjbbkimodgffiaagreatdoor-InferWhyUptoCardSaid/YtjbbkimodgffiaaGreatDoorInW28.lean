/- Part 28: LawWhy. Conditions: as each part says. -/
import Derived.Test.YtjbbkimodgffiaaGreatDoorInW20
import Derived.Test.YtjbbkimodgffiaaGreatDoorInW21
import Derived.Test.YtjbbkimodgffiaaGreatDoorInW24
import Derived.Test.YtjbbkimodgffiaaGreatDoorInW27
set_option linter.unusedVariables false
set_option linter.unusedSimpArgs false
set_option maxRecDepth 20000
set_option maxHeartbeats 8000000
namespace Go.Proofs.YtjbbkimodgffiaaGreatDoor
open Go.Sx Go.Our
def Zp : Plan := (Zj [(0, 1), (1, 1), (2, 1), (3, 1), (4, 1), (5, 1), (6, 1), (7, 1), (8, 1), (9, 1), (10, 1), (11, 1), (12, 1), (13, 1), (14, 1), (15, 1), (16, 1), (17, 1), (18, 1), (19, 1), (20, 1), (21, 2), (22, 2), (23, 1), (24, 1), (25, 1), (26, 1), (27, 1), (28, 3), (29, 1), (30, 1), (31, 1), (32, 1), (33, 1), (34, 3), (35, 1), (36, 1)])
def Zq : Plan := (Zj [(0, 1), (1, 1), (2, 1), (4, 1), (5, 1), (6, 1), (3, 2), (7, 2), (8, 1)])
theorem Zew {l : List Qd} (hl : ∀ q ∈ l, QdSm q) {q : Qd} (h : Der l q) : QdSm q := by
 induction h with
 | base h => exact hl _ h
 | step _ _ h iha ihb => rw [(Jo h).2.2.2.2.2]; exact XX iha ihb
def Zd6 (l : List Qd) (T : Int) (x : Qd) (D : List St) : Prop := ∃ w n, Ended l T 2097152 w ∧ w.all[n]? = some x ∧ D = whyM l w n
theorem ZbV {l : List Qd} {T : Int} {x : Qd} {D D' : List St} (hv : (ZZ l).2 = 0) (h : Zd6 l T x D) (h' : Zd6 l T x D') : D' = D := by
 obtain ⟨w, n, he, hn, rfl⟩ := h
 obtain ⟨w', n', he', hn', rfl⟩ := h'
 obtain ⟨a, ha, hb⟩ := he.run
 obtain ⟨b, hc, hd⟩ := he'.run
 obtain rfl := Zek ha hc hb hd
 have hS := Z53 he.inv (VL (Jw hv).1)
 have := hS.place hn
 have := hS.place hn'
 obtain rfl : n = n' := by omega
 rfl
theorem Zd7 {l : List Qd} {T : Int} {x : Qd} {D : List St} (hv : (ZZ l).2 = 0) (hq : Z6L l) (hx : x ∉ l) (h : Zd6 l T x D) : (∃ h : 0 < D.length, (D[D.length - 1]'(by omega)).q = x) ∧ D.length ≤ 2097152 ∧ V5 l D = true ∧ Tidy l D ∧ ∀ s ∈ D, StSm s := by
 obtain ⟨w, n, he, hn, rfl⟩ := h
 have hS := Z53 he.inv (VL (Jw hv).1)
 obtain ⟨⟨s, hs, hsq⟩, h2, h3⟩ := Zeq hS hn hx
 have hnl : n < w.all.length := (List.getElem?_eq_some_iff.1 hn).1
 have hR := Z54 hS hnl (n + 1 - l.length) (Nat.le_refl _)
 have hlen := hR.len
 have hw := he.len
 rw [List.getLast?_eq_getElem?] at hs
 obtain ⟨h4, h5⟩ := List.getElem?_eq_some_iff.1 hs
 refine ⟨⟨by omega, by rw [h5]; exact hsq⟩, by unfold whyM; rw [List.length_reverse]; omega, h2, h3, fun t ht => ?_⟩
 obtain ⟨i, h6, h7, h8⟩ := hR.here t (List.mem_reverse.1 ht)
 have hsm := fun q hq' => Zew hq (he.inv.der q hq')
 obtain ⟨_, _, h9, h10, _, _⟩ := hS.step (by omega) h8
 exact ⟨hsm _ h9, hsm _ h10, hsm _ (List.mem_of_getElem? (he.inv.why.why i t h8).1)⟩
def DerQ (l m : List Qd) (T : Int) (x : Qd) (r : SV) (O : Hps) (nx : Nat) : Prop :=
 (¬ (x ∈ m ∧ x ∉ l) ∧ r = .tup [.val (.slice none 0 0), .int .i64 282] ∧ O = [] ∧ nx = 1) ∨
 (x ∈ m ∧ x ∉ l ∧ ∃ D, Zd6 l T x D ∧ r = .tup [.sl (.loc 1) 0 49 D.length none, .int .i64 0] ∧ O = [(1, .rows 49 (D.map YK))] ∧ nx = 2)
theorem Z3f {l m : List Qd} {x : Qd} {most : Int} (hv : (ZZ l).2 = 0) (hc : IsCl l (topM most) (some m)) (r : SV) (O : Hps) (nx : Nat) (h : WhyQ l x most r O nx) : DerQ l m (topM most) x r O nx := by
 rcases h with ⟨h, _⟩ | ⟨_, h, h1⟩ | ⟨_, hx, w, he, h⟩
 · exact (h hv).elim
 · exact .inl ⟨fun h2 => h2.2 h, h1⟩
 · have hcl := Z6A he.inv he.done
   have e := Z6z hc hcl
   unfold Z8M at e
   rcases h with ⟨h, _⟩ | ⟨h, h2, h3⟩ | ⟨h, n, hn, h3⟩
   · rw [if_neg (by omega)] at e; cases e
   · rw [if_pos h] at e
     injection e with e
     exact .inl ⟨fun h4 => h2 (by have := h4.1; rw [e, Vk] at this; exact this), h3⟩
   · rw [if_pos h] at e
     injection e with e
     exact .inr ⟨by rw [e, Vk]; exact List.mem_of_getElem? hn, hx, _, ⟨w, n, he, hn, rfl⟩, h3⟩
theorem ZbW {l : List Qd} {x : Qd} {most : Int} (hv : (ZZ l).2 = 0) (hx : x ∉ l) (hc : IsCl l (topM most) none) (r : SV) (O : Hps) (nx : Nat) (h : WhyQ l x most r O nx) : r = .tup [.val (.slice none 0 0), .int .i64 1] ∧ O = [] ∧ nx = 1 := by
 rcases h with ⟨h, _⟩ | ⟨_, h, _⟩ | ⟨_, _, w, he, h⟩
 · exact (h hv).elim
 · exact (hx h).elim
 · have e := Z6z hc (Z6A he.inv he.done)
   unfold Z8M at e
   rcases h with ⟨_, h3⟩ | ⟨h, _⟩ | ⟨h, _⟩
   · exact h3
   · rw [if_pos h] at e; cases e
   · rw [if_pos h] at e; cases e
abbrev Z49 (m l : List Qd) : List Qd := Xn Zw true false false m l
theorem ZbX {m l : List Qd} (hm : Rise Zw m) (hl : Rise Zw l) (x : Qd) : x ∈ Z49 m l ↔ x ∈ m ∧ x ∉ l := by
 obtain ⟨_, h2⟩ := YS triQ true false false _ m l (Nat.le_refl _) hm hl
 rw [h2]
 constructor
 · rintro (h3 | h3 | h3)
   · exact h3.2
   · exact absurd h3.1 (by decide)
   · exact absurd h3.1 (by decide)
 · exact fun h => .inl ⟨rfl, h⟩
set_option maxHeartbeats 16000000 in
theorem Z7U (l : List Qd) (q : Qd) (most : Int) (hl : l.length ≤ 65536) (hq : Z6L l) : Does Tryz.prog tab 4 1 [.sl (.loc 0) 0 16 l.length none, .agg (Zf q), .int .i64 most] [] [(0, .rows 16 (l.map Zf))] (ValK 1 (.bool true)) := by
 have hK := Zbo l (by unfold Wx; omega)
 have hR := Z9x l (by unfold Wx; omega)
 have hV := Z39 l [] (by unfold Wx; omega) hq
 have hX := Z3a l [] q none (by simp; omega)
 have hW := Z5a l most hl hq
 have hY := fun x => Zd4 l [Yl, Yl] none x most (by omega) hq (by simp; omega)
 have htop : topM most ≤ 1048576 := by unfold topM; split <;> omega
 rw [List.append_nil] at hV hX
 refine Does.enter Z2 (g := 4) (fn := Tryz.f4) Tryz.call4 Tryz.func4 rfl 191 rfl rfl [.tmp 6] rfl ?_
 intro w0 F η0 h0
 conv => whnf
 repeat' ((first | refine AU ?_ | (refine IW (fun h => ?_) (fun h => ?_) <;> try (exfalso; omega))) <;> conv => whnf)
 refine CALL.aA [0] (hR) ?_
 rintro r O nx ⟨rfl, rfl, rfl⟩
 conv => whnf
 repeat' ((first | refine DRAWN.of (id := 24) Z2 Z8 Zp (by kernel_rfl) ?_ | refine DRAWN.of (id := 29) Z2 Z8 Zq (by kernel_rfl) ?_ | refine ADD.mk (fun _ _ => ?_) | refine AD ?_ | refine FORK.mk ?_ ?_ | refine AU ?_ | (refine IW (fun h => ?_) (fun h => ?_) <;> try (exfalso; omega))) <;> conv => whnf)
 apply Z8j (X := List Qd) (n := 4) (fun m => (ZZ l).2 = 0 ∧ IsCl l (topM most) (some m)) (fun m => [(0, .sl (.loc 0) 0 16 l.length none), (2, .int .i64 most), (4, .ptr (.loc 1) 0 0 0), (7, .sl (.loc 2) 0 16 l.length none), (18, .sl (.loc 3) 0 16 (Z49 m l).length none), (20, .int .i64 (-1))]) (fun m => [(1, .box (Zf q)), (2, .rows 16 ((l ++ [Yl, Yl]).map Zf)), (3, .rows 16 ((Z49 m l).map Zf))])
 · intro hk
   refine CALL.aA [0] (hW) ?_
   rintro r O nx (⟨hv, rfl, rfl, rfl⟩ | ⟨hv, c, hc, hcc⟩)
   · conv => whnf
     repeat' ((first | refine DRAWN.of (id := 24) Z2 Z8 Zp (by kernel_rfl) ?_ | refine DRAWN.of (id := 29) Z2 Z8 Zq (by kernel_rfl) ?_ | refine ADD.mk (fun _ _ => ?_) | refine AD ?_ | refine FORK.mk ?_ ?_ | refine AU ?_ | (refine IW (fun h => ?_) (fun h => ?_) <;> try (exfalso; omega))) <;> conv => whnf)
     refine CALL.aA [0] (hV) ?_
     rintro r O nx ⟨rfl, rfl, rfl⟩
     conv => whnf
     repeat' ((first | refine DRAWN.of (id := 24) Z2 Z8 Zp (by kernel_rfl) ?_ | refine DRAWN.of (id := 29) Z2 Z8 Zq (by kernel_rfl) ?_ | refine ADD.mk (fun _ _ => ?_) | refine AD ?_ | refine FORK.mk ?_ ?_ | refine AU ?_ | (refine IW (fun h => ?_) (fun h => ?_) <;> try (exfalso; omega))) <;> conv => whnf)
     refine CALL.aA [0] (hX) ?_
     rintro r O nx ⟨n1, b1, -, rfl, rfl, rfl⟩
     conv => whnf
     repeat' ((first | refine DRAWN.of (id := 24) Z2 Z8 Zp (by kernel_rfl) ?_ | refine DRAWN.of (id := 29) Z2 Z8 Zq (by kernel_rfl) ?_ | refine ADD.mk (fun _ _ => ?_) | refine AD ?_ | refine FORK.mk ?_ ?_ | refine AU ?_ | (refine IW (fun h => ?_) (fun h => ?_) <;> try (exfalso; omega))) <;> conv => whnf)
     refine CALL.aA [2] (hY q) ?_
     rintro r O nx (⟨_, rfl, rfl, rfl⟩ | ⟨h1, _⟩ | ⟨h1, _⟩)
     · conv => whnf
       repeat' ((first | refine DRAWN.of (id := 24) Z2 Z8 Zp (by kernel_rfl) ?_ | refine DRAWN.of (id := 29) Z2 Z8 Zq (by kernel_rfl) ?_ | refine ADD.mk (fun _ _ => ?_) | refine AD ?_ | refine FORK.mk ?_ ?_ | refine AU ?_ | (refine IW (fun h => ?_) (fun h => ?_) <;> try (exfalso; omega))) <;> conv => whnf)
       all_goals exact FIN.valueK h0 rfl (congrArg SV.bool (by simp))
     · exact (hv h1).elim
     · exact (hv h1).elim
   · have hr := (Jw hv).1
     have hF := Z0E l [] q none (by simp; omega) hr
     rw [Z07 triQ hr, List.append_nil] at hF
     rcases hcc with (⟨rfl, rfl, rfl, rfl⟩ | ⟨rfl, rfl, rfl, rfl⟩ | ⟨m, rfl, rfl, rfl, rfl⟩)
     · conv => whnf
       repeat' ((first | refine DRAWN.of (id := 24) Z2 Z8 Zp (by kernel_rfl) ?_ | refine DRAWN.of (id := 29) Z2 Z8 Zq (by kernel_rfl) ?_ | refine ADD.mk (fun _ _ => ?_) | refine AD ?_ | refine FORK.mk ?_ ?_ | refine AU ?_ | (refine IW (fun h => ?_) (fun h => ?_) <;> try (exfalso; omega))) <;> conv => whnf)
       refine CALL.aA [0] (hV) ?_
       rintro r O nx ⟨rfl, rfl, rfl⟩
       conv => whnf
       repeat' ((first | refine DRAWN.of (id := 24) Z2 Z8 Zp (by kernel_rfl) ?_ | refine DRAWN.of (id := 29) Z2 Z8 Zq (by kernel_rfl) ?_ | refine ADD.mk (fun _ _ => ?_) | refine AD ?_ | refine FORK.mk ?_ ?_ | refine AU ?_ | (refine IW (fun h => ?_) (fun h => ?_) <;> try (exfalso; omega))) <;> conv => whnf)
       refine CALL.aA [0] (hF) ?_
       rintro r O nx ⟨rfl, rfl, rfl⟩
       conv => whnf
       repeat' ((first | refine DRAWN.of (id := 24) Z2 Z8 Zp (by kernel_rfl) ?_ | refine DRAWN.of (id := 29) Z2 Z8 Zq (by kernel_rfl) ?_ | refine ADD.mk (fun _ _ => ?_) | refine AD ?_ | refine FORK.mk ?_ ?_ | refine AU ?_ | (refine IW (fun h => ?_) (fun h => ?_) <;> try (exfalso; omega))) <;> conv => whnf)
       · refine CALL.aA [2] (hY q) ?_
         rintro r O nx (⟨h1, _⟩ | ⟨_, _, rfl, rfl, rfl⟩ | ⟨_, h1, _⟩)
         · exact (h1 hv).elim
         · conv => whnf
           repeat' ((first | refine DRAWN.of (id := 24) Z2 Z8 Zp (by kernel_rfl) ?_ | refine DRAWN.of (id := 29) Z2 Z8 Zq (by kernel_rfl) ?_ | refine ADD.mk (fun _ _ => ?_) | refine AD ?_ | refine FORK.mk ?_ ?_ | refine AU ?_ | (refine IW (fun h => ?_) (fun h => ?_) <;> try (exfalso; omega))) <;> conv => whnf)
           all_goals exact FIN.valueK h0 rfl rfl
         · exact (h1 h.2).elim
       have hql := ‹(ZZ l).2 = 0 → q ∉ l› hv
       refine CALL.aA [2] ((hY q).mono (ZbW hv hql hc)) ?_
       rintro r O nx ⟨rfl, rfl, rfl⟩
       conv => whnf
       repeat' ((first | refine DRAWN.of (id := 24) Z2 Z8 Zp (by kernel_rfl) ?_ | refine DRAWN.of (id := 29) Z2 Z8 Zq (by kernel_rfl) ?_ | refine ADD.mk (fun _ _ => ?_) | refine AD ?_ | refine FORK.mk ?_ ?_ | refine AU ?_ | (refine IW (fun h => ?_) (fun h => ?_) <;> try (exfalso; omega))) <;> conv => whnf)
       all_goals exact FIN.valueK h0 rfl rfl
     · have hM := Z3e l [] l [] none none (by simp; omega)
       rw [Z7T ⟨VM (Nat.le_refl 1) hr, VM (Nat.le_refl 1) hr⟩, List.append_nil] at hM
       conv => whnf
       repeat' ((first | refine DRAWN.of (id := 24) Z2 Z8 Zp (by kernel_rfl) ?_ | refine DRAWN.of (id := 29) Z2 Z8 Zq (by kernel_rfl) ?_ | refine ADD.mk (fun _ _ => ?_) | refine AD ?_ | refine FORK.mk ?_ ?_ | refine AU ?_ | (refine IW (fun h => ?_) (fun h => ?_) <;> try (exfalso; omega))) <;> conv => whnf)
       refine CALL.aA [0] (hV) ?_
       rintro r O nx ⟨rfl, rfl, rfl⟩
       conv => whnf
       repeat' ((first | refine DRAWN.of (id := 24) Z2 Z8 Zp (by kernel_rfl) ?_ | refine DRAWN.of (id := 29) Z2 Z8 Zq (by kernel_rfl) ?_ | refine ADD.mk (fun _ _ => ?_) | refine AD ?_ | refine FORK.mk ?_ ?_ | refine AU ?_ | (refine IW (fun h => ?_) (fun h => ?_) <;> try (exfalso; omega))) <;> conv => whnf)
       refine CALL.aA [0] (hF) ?_
       rintro r O nx ⟨rfl, rfl, rfl⟩
       conv => whnf
       repeat' ((first | refine DRAWN.of (id := 24) Z2 Z8 Zp (by kernel_rfl) ?_ | refine DRAWN.of (id := 29) Z2 Z8 Zq (by kernel_rfl) ?_ | refine ADD.mk (fun _ _ => ?_) | refine AD ?_ | refine FORK.mk ?_ ?_ | refine AU ?_ | (refine IW (fun h => ?_) (fun h => ?_) <;> try (exfalso; omega))) <;> conv => whnf)
       · refine CALL.aA [2] (hY q) ?_
         rintro r O nx (⟨h1, _⟩ | ⟨_, _, rfl, rfl, rfl⟩ | ⟨_, h1, _⟩)
         · exact (h1 hv).elim
         · conv => whnf
           repeat' ((first | refine DRAWN.of (id := 24) Z2 Z8 Zp (by kernel_rfl) ?_ | refine DRAWN.of (id := 29) Z2 Z8 Zq (by kernel_rfl) ?_ | refine ADD.mk (fun _ _ => ?_) | refine AD ?_ | refine FORK.mk ?_ ?_ | refine AU ?_ | (refine IW (fun h => ?_) (fun h => ?_) <;> try (exfalso; omega))) <;> conv => whnf)
           all_goals exact FIN.valueK h0 rfl rfl
         · exact (h1 h.2).elim
       have hql := ‹(ZZ l).2 = 0 → q ∉ l› hv
       refine CALL.aA [0, 0] (hM) ?_
       rintro r O nx ⟨rfl, rfl, rfl⟩
       conv => whnf
       repeat' ((first | refine DRAWN.of (id := 24) Z2 Z8 Zp (by kernel_rfl) ?_ | refine DRAWN.of (id := 29) Z2 Z8 Zq (by kernel_rfl) ?_ | refine ADD.mk (fun _ _ => ?_) | refine AD ?_ | refine FORK.mk ?_ ?_ | refine AU ?_ | (refine IW (fun h => ?_) (fun h => ?_) <;> try (exfalso; omega))) <;> conv => whnf)
       refine LOOP.goes ?_ (hk _ ⟨hv, hc⟩)
       exact GOES.kA h0 [1, 2, 3]
     · have hml := hc.2.2
       have hM := Z3e m [] l [] none none (by simp; omega)
       rw [Z7T ⟨VM (Nat.le_refl 1) hc.1, VM (Nat.le_refl 1) hr⟩, List.append_nil, List.append_nil] at hM
       conv => whnf
       repeat' ((first | refine DRAWN.of (id := 24) Z2 Z8 Zp (by kernel_rfl) ?_ | refine DRAWN.of (id := 29) Z2 Z8 Zq (by kernel_rfl) ?_ | refine ADD.mk (fun _ _ => ?_) | refine AD ?_ | refine FORK.mk ?_ ?_ | refine AU ?_ | (refine IW (fun h => ?_) (fun h => ?_) <;> try (exfalso; omega))) <;> conv => whnf)
       refine CALL.aA [0] (hV) ?_
       rintro r O nx ⟨rfl, rfl, rfl⟩
       conv => whnf
       repeat' ((first | refine DRAWN.of (id := 24) Z2 Z8 Zp (by kernel_rfl) ?_ | refine DRAWN.of (id := 29) Z2 Z8 Zq (by kernel_rfl) ?_ | refine ADD.mk (fun _ _ => ?_) | refine AD ?_ | refine FORK.mk ?_ ?_ | refine AU ?_ | (refine IW (fun h => ?_) (fun h => ?_) <;> try (exfalso; omega))) <;> conv => whnf)
       refine CALL.aA [0] (hF) ?_
       rintro r O nx ⟨rfl, rfl, rfl⟩
       conv => whnf
       repeat' ((first | refine DRAWN.of (id := 24) Z2 Z8 Zp (by kernel_rfl) ?_ | refine DRAWN.of (id := 29) Z2 Z8 Zq (by kernel_rfl) ?_ | refine ADD.mk (fun _ _ => ?_) | refine AD ?_ | refine FORK.mk ?_ ?_ | refine AU ?_ | (refine IW (fun h => ?_) (fun h => ?_) <;> try (exfalso; omega))) <;> conv => whnf)
       · refine CALL.aA [2] (hY q) ?_
         rintro r O nx (⟨h1, _⟩ | ⟨_, _, rfl, rfl, rfl⟩ | ⟨_, h1, _⟩)
         · exact (h1 hv).elim
         · conv => whnf
           repeat' ((first | refine DRAWN.of (id := 24) Z2 Z8 Zp (by kernel_rfl) ?_ | refine DRAWN.of (id := 29) Z2 Z8 Zq (by kernel_rfl) ?_ | refine ADD.mk (fun _ _ => ?_) | refine AD ?_ | refine FORK.mk ?_ ?_ | refine AU ?_ | (refine IW (fun h => ?_) (fun h => ?_) <;> try (exfalso; omega))) <;> conv => whnf)
           all_goals exact FIN.valueK h0 rfl rfl
         · exact (h1 h.2).elim
       have hql := ‹(ZZ l).2 = 0 → q ∉ l› hv
       refine CALL.aA [3, 0] (hM) ?_
       rintro r O nx ⟨rfl, rfl, rfl⟩
       conv => whnf
       repeat' ((first | refine DRAWN.of (id := 24) Z2 Z8 Zp (by kernel_rfl) ?_ | refine DRAWN.of (id := 29) Z2 Z8 Zq (by kernel_rfl) ?_ | refine ADD.mk (fun _ _ => ?_) | refine AD ?_ | refine FORK.mk ?_ ?_ | refine AU ?_ | (refine IW (fun h => ?_) (fun h => ?_) <;> try (exfalso; omega))) <;> conv => whnf)
       refine LOOP.goes ?_ (hk _ ⟨hv, hc⟩)
       exact GOES.kA h0 [1, 2, 4]
 · rintro m ⟨hv, hc⟩
   have hr := (Jw hv).1
   have hml := hc.2.2
   have hnl : (Z49 m l).length ≤ m.length + l.length := Jv true false false _ m l (Nat.le_refl _)
   have hfm := ZbX hc.1 hr
   have hfr : Rise Zw (Z49 m l) := (YS triQ true false false _ m l (Nat.le_refl _) hc.1 hr).1
   generalize Z49 m l = N at *
   refine LOOP.gok Z2 [0, 2, 4, 7, 18] [1, 2, 3] (X := Nat) (fun x => x ≤ N.length + 1 ∧ x ≤ 13) (fun x => [(20, .int .i64 ((x : Int) - 1))]) (fun x => []) 4 (fun x => 14 - x) 0 (by omega) ?_
   conv => whnf
   refine ⟨by exact GOES.kA h0 [1, 2, 3], ?_⟩
   rintro x ⟨hx1, hx2⟩
   obtain ⟨xq, hxq⟩ : ∃ xq, xq = if x = 0 then q else N.getD (x - 1) q := ⟨_, rfl⟩
   have hFn := Z0E N [] xq none (by simp; omega) hfr
   rw [Z07 triQ hfr, List.append_nil] at hFn
   by_cases hxl : x < N.length + 1 ∧ x < 13
   · have hgo := fun (j : Nat) (h : j < N.length) (k : Nat) (e : k = j) => show (N.map Zf)[k]? = some (Zf N[j]) by subst e; rw [List.getElem?_map, List.getElem?_eq_getElem h]; rfl
     rcases Nat.eq_zero_or_pos x with hx0 | hx0
     obtain rfl : xq = q := by simpa [hx0] using hxq
     rotate_left
     have hg : (N.map Zf)[0 + ((x : Int) - 1).toNat]? = some (Zf xq) := by
       rw [hgo (x - 1) (by omega) _ (by omega), hxq, if_neg (by omega), List.getD, List.getElem?_eq_getElem (by omega)]; rfl
     all_goals
       conv => whnf
       repeat' ((first | refine DRAWN.of (id := 24) Z2 Z8 Zp (by kernel_rfl) ?_ | refine DRAWN.of (id := 29) Z2 Z8 Zq (by kernel_rfl) ?_ | refine ADD.mk (fun _ _ => ?_) | refine AD ?_ | refine FORK.mk ?_ ?_ | (refine GET.at hg ?_; conv => whnf) | refine AU ?_ | (refine IW (fun h => ?_) (fun h => ?_) <;> try (exfalso; omega))) <;> conv => whnf)
       refine CALL.aA [2] ((hY xq).mono (Z3f hv hc)) ?_
       rintro r O nx (⟨hn, rfl, rfl, rfl⟩ | ⟨hm1, hl1, D, hD, rfl, rfl, rfl⟩)
       · rw [decide_eq_false (fun h => hn ((hfm xq).1 h))] at hFn
         conv => whnf
         repeat' ((first | refine DRAWN.of (id := 24) Z2 Z8 Zp (by kernel_rfl) ?_ | refine DRAWN.of (id := 29) Z2 Z8 Zq (by kernel_rfl) ?_ | refine ADD.mk (fun _ _ => ?_) | refine AD ?_ | refine FORK.mk ?_ ?_ | refine AU ?_ | (refine IW (fun h => ?_) (fun h => ?_) <;> try (exfalso; omega))) <;> conv => whnf)
         refine CALL.aA [2] ((hY xq).mono (Z3f hv hc)) ?_
         rintro r O nx (⟨-, rfl, rfl, rfl⟩ | ⟨hm1, hl1, _⟩)
         rotate_left
         · exact (hn ⟨hm1, hl1⟩).elim
         conv => whnf
         repeat' ((first | refine DRAWN.of (id := 24) Z2 Z8 Zp (by kernel_rfl) ?_ | refine DRAWN.of (id := 29) Z2 Z8 Zq (by kernel_rfl) ?_ | refine ADD.mk (fun _ _ => ?_) | refine AD ?_ | refine FORK.mk ?_ ?_ | refine AU ?_ | (refine IW (fun h => ?_) (fun h => ?_) <;> try (exfalso; omega))) <;> conv => whnf)
         refine CALL.aA [3] (hFn) ?_
         rintro r O nx ⟨rfl, rfl, rfl⟩
         conv => whnf
         repeat' ((first | refine DRAWN.of (id := 24) Z2 Z8 Zp (by kernel_rfl) ?_ | refine DRAWN.of (id := 29) Z2 Z8 Zq (by kernel_rfl) ?_ | refine ADD.mk (fun _ _ => ?_) | refine AD ?_ | refine FORK.mk ?_ ?_ | refine AU ?_ | (refine IW (fun h => ?_) (fun h => ?_) <;> try (exfalso; omega))) <;> conv => whnf)
         refine ⟨x + 1, by omega, by omega, ?_⟩
         conv => whnf
         exact GOES.kA h0 [1, 2, 3]
       · rw [decide_eq_true ((hfm xq).2 ⟨hm1, hl1⟩)] at hFn
         obtain ⟨⟨hD0, hDq⟩, hDl, hDh, hDt, hDs⟩ := Zd7 hv hq hl1 hD
         have hH := Z7Q l [] D [] none none (by omega) (by simp; omega) hDl (by simp; omega) hDs
         rw [hDh, List.append_nil, List.append_nil] at hH
         have hT := ZbO l D (by omega) (by omega) hr hDt
         have hgl := Z92 (k := 0 + (IntKind.i64.wrap ((D.length : Int) - 1)).toNat) (i := D.length - 1) (D := D) (by omega) (by rw [Z5 (by omega) (by omega)]; omega)
         conv => whnf
         repeat' ((first | refine DRAWN.of (id := 24) Z2 Z8 Zp (by kernel_rfl) ?_ | refine DRAWN.of (id := 29) Z2 Z8 Zq (by kernel_rfl) ?_ | refine ADD.mk (fun _ _ => ?_) | refine AD ?_ | refine FORK.mk ?_ ?_ | refine AU ?_ | (refine IW (fun h => ?_) (fun h => ?_) <;> try (exfalso; omega))) <;> conv => whnf)
         refine CALL.aA [2] ((hY xq).mono (Z3f hv hc)) ?_
         rintro r O nx (⟨hn, _⟩ | ⟨-, -, D2, hD2, rfl, rfl, rfl⟩)
         · exact (hn ⟨hm1, hl1⟩).elim
         obtain rfl := ZbV hv hD2 hD
         conv => whnf
         repeat' ((first | refine DRAWN.of (id := 24) Z2 Z8 Zp (by kernel_rfl) ?_ | refine DRAWN.of (id := 29) Z2 Z8 Zq (by kernel_rfl) ?_ | refine ADD.mk (fun _ _ => ?_) | refine AD ?_ | refine FORK.mk ?_ ?_ | refine AU ?_ | (refine IW (fun h => ?_) (fun h => ?_) <;> try (exfalso; omega))) <;> conv => whnf)
         refine CALL.aA [3] (hFn) ?_
         rintro r O nx ⟨rfl, rfl, rfl⟩
         conv => whnf
         repeat' ((first | refine DRAWN.of (id := 24) Z2 Z8 Zp (by kernel_rfl) ?_ | refine DRAWN.of (id := 29) Z2 Z8 Zq (by kernel_rfl) ?_ | refine ADD.mk (fun _ _ => ?_) | refine AD ?_ | refine FORK.mk ?_ ?_ | (rw [Z6 _ (Zv _)]; conv => whnf) | (refine GET.at hgl ?_; conv => whnf) | (refine GETG.at hgl ?_; conv => whnf) | refine AU ?_ | (refine IW (fun h => ?_) (fun h => ?_) <;> try (exfalso; omega))) <;> conv => whnf)
         · exfalso
           simp [hDq] at h
         refine CALL.aA [0, 5] (hH) ?_
         rintro r O nx ⟨rfl, rfl, rfl⟩
         conv => whnf
         repeat' ((first | refine DRAWN.of (id := 24) Z2 Z8 Zp (by kernel_rfl) ?_ | refine DRAWN.of (id := 29) Z2 Z8 Zq (by kernel_rfl) ?_ | refine ADD.mk (fun _ _ => ?_) | refine AD ?_ | refine FORK.mk ?_ ?_ | refine AU ?_ | (refine IW (fun h => ?_) (fun h => ?_) <;> try (exfalso; omega))) <;> conv => whnf)
         refine CALL.aA [0, 5] (hT) ?_
         rintro r O nx ⟨rfl, rfl, rfl⟩
         conv => whnf
         repeat' ((first | refine DRAWN.of (id := 24) Z2 Z8 Zp (by kernel_rfl) ?_ | refine DRAWN.of (id := 29) Z2 Z8 Zq (by kernel_rfl) ?_ | refine ADD.mk (fun _ _ => ?_) | refine AD ?_ | refine FORK.mk ?_ ?_ | refine AU ?_ | (refine IW (fun h => ?_) (fun h => ?_) <;> try (exfalso; omega))) <;> conv => whnf)
         refine LOOP.gok Z2 [0, 2, 4, 7, 18, 20, 22, 24] [1, 2, 3] (X := Nat) (fun k => k ≤ D.length) (fun k => [(28, .int .i64 (k : Int))]) (fun k => [(5, .rows 49 (D.map YK)), (6, .rows 49 (D.map YK))]) 7 (fun k => D.length - k) 0 (by omega) ?_
         conv => whnf
         refine ⟨by exact GOES.kA h0 [1, 2, 3, 4, 5, 6], ?_⟩
         intro k hk
         conv => whnf
         by_cases hkl : k < D.length
         · have gk := Z92 hkl (k := 0 + (k : Int).toNat) (by omega)
           repeat' ((first | refine DRAWN.of (id := 24) Z2 Z8 Zp (by kernel_rfl) ?_ | refine DRAWN.of (id := 29) Z2 Z8 Zq (by kernel_rfl) ?_ | refine ADD.mk (fun _ _ => ?_) | refine AD ?_ | refine FORK.mk ?_ ?_ | (refine GET.at gk ?_; conv => whnf) | refine AU ?_ | (refine IW (fun h => ?_) (fun h => ?_) <;> try (exfalso; omega))) <;> conv => whnf)
           · simp at h
           refine ⟨k + 1, by omega, by omega, ?_⟩
           conv => whnf
           exact GOES.kA h0 [1, 2, 3, 4, 5, 6]
         · repeat' ((first | refine AU ?_ | (refine IW (fun h => ?_) (fun h => ?_) <;> try (exfalso; omega))) <;> conv => whnf)
           refine ⟨x + 1, by omega, by omega, ?_⟩
           conv => whnf
           exact GOES.kA h0 [1, 2, 3]
   · conv => whnf
     repeat' ((first | refine DRAWN.of (id := 24) Z2 Z8 Zp (by kernel_rfl) ?_ | refine DRAWN.of (id := 29) Z2 Z8 Zq (by kernel_rfl) ?_ | refine ADD.mk (fun _ _ => ?_) | refine AD ?_ | refine FORK.mk ?_ ?_ | refine AU ?_ | (refine IW (fun h => ?_) (fun h => ?_) <;> try (exfalso; omega))) <;> conv => whnf)
     refine CALL.aA [0, 2] (hK) ?_
     rintro r O nx ⟨rfl, rfl, rfl⟩
     conv => whnf
     repeat' ((first | refine DRAWN.of (id := 24) Z2 Z8 Zp (by kernel_rfl) ?_ | refine DRAWN.of (id := 29) Z2 Z8 Zq (by kernel_rfl) ?_ | refine ADD.mk (fun _ _ => ?_) | refine AD ?_ | refine FORK.mk ?_ ?_ | refine AU ?_ | (refine IW (fun h => ?_) (fun h => ?_) <;> try (exfalso; omega))) <;> conv => whnf)
     exact FIN.valueK h0 rfl rfl
end Go.Proofs.YtjbbkimodgffiaaGreatDoor
