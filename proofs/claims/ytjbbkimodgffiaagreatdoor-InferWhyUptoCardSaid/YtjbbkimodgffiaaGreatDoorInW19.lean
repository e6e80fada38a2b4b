/- Part 19: LeastM, WhyM. Conditions: as each part says. -/
import Derived.Test.YtjbbkimodgffiaaGreatDoorInW8
set_option linter.unusedVariables false
set_option linter.unusedSimpArgs false
set_option maxRecDepth 20000
namespace Go.Our
open Go.Sx
end Go.Our
namespace Go.Our
open Go.Sx
abbrev numR (l : List (Int × Int)) : List (List SV) := Z1e KI intV l
theorem ZcZ (l : List (Int × Int)) : Zz (numR l) = true := Zb3 KI _ (fun _ => rfl) l
instance {l : List (Int × Int)} : Pl (numR l) := ⟨ZcZ l⟩
def numA (i : Int) (m : List (Int × Int)) : Int := (getA i m).getD 0
def incA (i : Int) (m : List (Int × Int)) : List (Int × Int) := setA i (numA i m + 1) m
theorem Z7N (i j : Int) (m : List (Int × Int)) : numA j (incA i m) = numA j m + if j = i then 1 else 0 := by
 unfold numA incA
 rw [US]
 by_cases h : j = i
 · subst h; simp [numA]
 · simp [h]
def plc (w : Wd) (q : Qd) : Int := (getA q w.place).getD 0
def WD (w : Wd) (i : Int) (s : St) (x : List (Int × Int) × List St) : List (Int × Int) × List St :=
 if numA i x.1 = 0 then x else (incA (plc w s.b) (incA (plc w s.a) x.1), x.2 ++ [s])
def XH (w : Wd) (n : Nat) : Nat → List (Int × Int) × List St
 | 0 => ([((n : Int), 1)], [])
 | k + 1 => WD w ((n - k : Nat) : Int) ((w.why[n - k]?).getD (V4 Jk)) (XH w n k)
def whyM (l : List Qd) (w : Wd) (n : Nat) : List St := (XH w n (n + 1 - l.length)).2.reverse
structure WhyR (w : Wd) (n k : Nat) (m : List (Int × Int)) (out : List St) : Prop where
 desc : out.Pairwise fun s t => plc w t.q < plc w s.q
 here : ∀ s ∈ out, ∃ i : Nat, n < i + k ∧ i ≤ n ∧ w.why[i]? = some s
 need : ∀ p, 0 ≤ numA p m ∧ (numA p m ≠ 0 ↔ p = n ∨ ∃ s ∈ out, p = plc w s.a ∨ p = plc w s.b)
 all : ∀ (i : Nat) s, n < i + k → i ≤ n → w.why[i]? = some s → numA i m ≠ 0 → s ∈ out
 got : ∀ s ∈ out, numA (plc w s.q) m ≠ 0
 head : k ≠ 0 → ∃ s t, out = s :: t ∧ w.why[n]? = some s
 few : ∀ p, numA p m ≤ 1 + 2 * k
 len : out.length ≤ k
theorem Zd0 (w : Wd) (n : Nat) : WhyR w n 0 (XH w n 0).1 (XH w n 0).2 := by
 have h : ∀ p, numA p (XH w n 0).1 = if p = n then 1 else 0 := fun p => by
   unfold XH numA
   simp only [getA]
   split <;> rfl
 refine ⟨List.Pairwise.nil, (fun s hs => nomatch hs), fun p => ?_, (fun i s h1 h2 => by omega), (fun s hs => nomatch hs), fun h => (h rfl).elim, fun p => ?_, Nat.le_refl _⟩
 · rw [h]
   refine ⟨by split <;> omega, ?_⟩
   constructor
   · intro h1
     refine .inl ?_
     split at h1
     · assumption
     · exact (h1 rfl).elim
   · rintro (h1 | ⟨s, hs, _⟩)
     · rw [if_pos h1]; decide
     · cases hs
 · rw [h]; split <;> omega
theorem Zd1 {w : Wd} {n k : Nat} {m : List (Int × Int)} {out : List St} (hk : k ≤ n) (hP : ∀ (i : Nat) s, w.why[i]? = some s → plc w s.q = (i : Int)) (h : WhyR w n k m out) {s : St} (hs : w.why[n - k]? = some s) (ha : plc w s.a < (n - k : Nat)) (hb : plc w s.b < (n - k : Nat)) :
   WhyR w n (k + 1) (WD w ((n - k : Nat) : Int) s (m, out)).1 (WD w ((n - k : Nat) : Int) s (m, out)).2 := by
 unfold WD
 by_cases hz : numA ((n - k : Nat) : Int) m = 0
 · rw [if_pos hz]
   refine ⟨h.desc, fun s hs => ?_, h.need, fun j t h1 h2 h3 h4 => ?_, h.got, fun _ => ?_, fun p => ?_, Nat.le_succ_of_le h.len⟩
   · obtain ⟨i, h1, h2, h3⟩ := h.here s hs
     exact ⟨i, by omega, h2, h3⟩
   · by_cases hj : n < j + k
     · exact h.all j t hj h2 h3 h4
     · obtain rfl : j = n - k := by omega
       exact (h4 hz).elim
   · by_cases hk0 : k = 0
     · subst hk0
       exact ((h.need n).2.2 (.inl rfl) hz).elim
     · exact h.head hk0
   · have := h.few p; dsimp only; omega
 · rw [if_neg hz]
   have hN : ∀ p, numA p (incA (plc w s.b) (incA (plc w s.a) m)) = numA p m + (if p = plc w s.a then 1 else 0) + (if p = plc w s.b then 1 else 0) := fun p => by rw [Z7N, Z7N]
   have hq := hP _ _ hs
   refine ⟨?_, fun t ht => ?_, fun p => ?_, fun j t h1 h2 h3 h4 => ?_, fun t ht => ?_, fun _ => ?_, fun p => ?_, by simp; exact h.len⟩
   · rw [List.pairwise_append]
     refine ⟨h.desc, List.pairwise_singleton _ _, fun x hx y hy => ?_⟩
     obtain rfl := List.mem_singleton.1 hy
     obtain ⟨i, h1, h2, h3⟩ := h.here x hx
     rw [hq, hP _ _ h3]; omega
   · rcases List.mem_append.1 ht with h1 | h1
     · obtain ⟨i, h1, h2, h3⟩ := h.here t h1
       exact ⟨i, by omega, h2, h3⟩
     · obtain rfl := List.mem_singleton.1 h1
       exact ⟨n - k, by omega, by omega, hs⟩
   · have hp := h.need p
     dsimp only
     rw [hN]
     refine ⟨by (repeat' split) <;> omega, ?_⟩
     simp only [List.mem_append, List.mem_singleton]
     constructor
     · intro h1
       by_cases h2 : numA p m = 0
       · refine .inr ⟨s, .inr rfl, ?_⟩
         by_cases h3 : p = plc w s.a
         · exact .inl h3
         · by_cases h4 : p = plc w s.b
           · exact .inr h4
           · rw [h2, if_neg h3, if_neg h4] at h1; exact (h1 rfl).elim
       · rcases hp.2.1 h2 with h3 | ⟨t, ht, h3⟩
         · exact .inl h3
         · exact .inr ⟨t, .inl ht, h3⟩
     · rintro (h1 | ⟨t, ht | rfl, h1⟩)
       · have := hp.2.2 (.inl h1)
         (repeat' split) <;> omega
       · have := hp.2.2 (.inr ⟨t, ht, h1⟩)
         (repeat' split) <;> omega
       · rcases h1 with h1 | h1
         · rw [if_pos h1]; split <;> omega
         · rw [if_pos h1]; split <;> omega
   · rw [List.mem_append, List.mem_singleton]
     by_cases hj : n < j + k
     · refine .inl (h.all j t hj h2 h3 ?_)
       dsimp only at h4
       rw [hN, if_neg (by omega), if_neg (by omega)] at h4
       simpa using h4
     · obtain rfl : j = n - k := by omega
       rw [hs] at h3
       exact .inr (Option.some.inj h3).symm
   · dsimp only
     rw [hN]
     have h0 := (h.need (plc w t.q)).1
     rcases List.mem_append.1 ht with h1 | h1
     · have := h.got t h1
       (repeat' split) <;> omega
     · obtain rfl := List.mem_singleton.1 h1
       rw [hq] at h0 ⊢
       (repeat' split) <;> omega
   · by_cases hk0 : k = 0
     · subst hk0
       have : out = [] := List.length_eq_zero_iff.1 (by have := h.len; omega)
       subst this
       exact ⟨s, [], rfl, hs⟩
     · obtain ⟨x, t, rfl, hx⟩ := h.head hk0
       exact ⟨x, t ++ [s], rfl, hx⟩
   · have := h.few p
     dsimp only
     rw [hN]
     (repeat' split) <;> omega
def Rev {α : Type} (l m : List α) (i : Nat) : Prop := m.length = l.length ∧ ∀ k, k < l.length → m[k]? = if k < i ∨ l.length ≤ k + i then l[l.length - 1 - k]? else l[k]?
theorem Zd2 {α : Type} (l : List α) : Rev l l 0 := ⟨rfl, fun k hk => by rw [if_neg (by omega)]⟩
theorem Zd3 {α : Type} {l m : List α} {i : Nat} (h : Rev l m i) (hi : i + i + 1 < l.length) (x y : α) (hx : m[l.length - 1 - i]? = some x) (hy : m[i]? = some y) : Rev l ((m.set i x).set (l.length - 1 - i) y) (i + 1) := by
 obtain ⟨h1, h2⟩ := h
 rw [h2 _ (by omega), if_neg (by omega)] at hx hy
 refine ⟨by simp [h1], fun k hk => ?_⟩
 rw [List.getElem?_set, List.getElem?_set]
 simp only [List.length_set, h1]
 by_cases e1 : l.length - 1 - i = k
 · subst e1
   rw [if_pos rfl, if_pos (by omega), if_pos (by omega), show l.length - 1 - (l.length - 1 - i) = i by omega, hy]
 · rw [if_neg e1]
   by_cases e2 : i = k
   · subst e2
     rw [if_pos rfl, if_pos (by omega), if_pos (by omega), hx]
   · rw [if_neg e2, h2 k hk]
     by_cases e3 : k < i ∨ l.length ≤ k + i
     · rw [if_pos e3, if_pos (by omega)]
     · rw [if_neg e3, if_neg (by omega)]
theorem Zep {α : Type} {l m : List α} {i : Nat} (h : Rev l m i) (hi : l.length ≤ i + i + 1) : m = l.reverse := by
 obtain ⟨h1, h2⟩ := h
 apply List.ext_getElem?
 intro k
 by_cases hk : k < l.length
 · rw [h2 k hk, List.getElem?_reverse hk]
   split
   · rfl
   · congr 1; omega
 · rw [List.getElem?_eq_none (by omega), List.getElem?_eq_none (by simp; omega)]
theorem Z6O {l : List Qd} {D : List St} (f : St → Int) (hasc : D.Pairwise fun s t => f s < f t) (hd : ∀ s ∈ D, (Zm s.r s.a s.b).2 = true ∧ (Zm s.r s.a s.b).1 = s.q ∧ (s.a ∈ l ∨ ∃ t ∈ D, t.q = s.a ∧ f t < f s) ∧ (s.b ∈ l ∨ ∃ t ∈ D, t.q = s.b ∧ f t < f s)) :
   ∀ (D2 D1 : List St) (known : List Qd), D1 ++ D2 = D → (∀ q, (q ∈ l ∨ ∃ t ∈ D1, t.q = q) → q ∈ known) → V5 known D2 = true
 | [], _, _, _, _ => rfl
 | s :: D2, D1, known, e, hk => by
   obtain ⟨h1, h2, h3, h4⟩ := hd s (by rw [← e]; simp)
   have hp := hasc
   rw [← e, List.pairwise_append] at hp
   obtain ⟨p1, p2, p3⟩ := hp
   have hin : ∀ q, (q ∈ l ∨ ∃ t ∈ D, t.q = q ∧ f t < f s) → q ∈ known := fun q hq => by
     refine hk q (hq.imp_right ?_)
     rintro ⟨t, ht, h5, h6⟩
     rw [← e, List.mem_append, List.mem_cons] at ht
     rcases ht with ht | rfl | ht
     · exact ⟨t, ht, h5⟩
     · omega
     · have := (List.pairwise_cons.1 p2).1 t ht; omega
   unfold V5
   rw [Z8z ⟨h1, h2, hin _ h3, hin _ h4⟩, Bool.true_and]
   refine Z6O f hasc hd D2 (D1 ++ [s]) (s.q :: known) (by rw [← e]; simp) fun q hq => ?_
   rcases hq with h5 | ⟨t, ht, rfl⟩
   · exact List.mem_cons_of_mem _ (hk q (.inl h5))
   · rcases List.mem_append.1 ht with h5 | h5
     · exact List.mem_cons_of_mem _ (hk _ (.inr ⟨t, h5, rfl⟩))
     · rw [List.mem_singleton.1 h5]; exact List.mem_cons_self ..
structure Tidy (l : List Qd) (D : List St) : Prop where
 one : ∀ i k (hi : i < D.length) (hk : k < D.length), i ≠ k → D[k].q ≠ D[i].q
 new : ∀ s ∈ D, s.q ∉ l
 used : ∀ i (hi : i + 1 < D.length), ∃ k, ∃ hk : k < D.length, i < k ∧ (D[k].a = D[i].q ∨ D[k].b = D[i].q)
theorem Z7O {l : List Qd} (h : l.Nodup) : (ZR l).all = l := by
 have key : ∀ (m : List Qd) (w : Wd), WdOK w → (w.all ++ m).Nodup → (m.foldl (fun w q => putM w (V4 q)) w).all = w.all ++ m := by
   intro m
   induction m with
   | nil => intro w _ _; simp
   | cons q m ih =>
     intro w hw hn
     rw [List.foldl_cons]
     have hq : q ∉ w.all := fun hq => by
       rw [List.nodup_append] at hn
       exact hn.2.2 q hq q (List.mem_cons_self ..) rfl
     have hg : getA (V4 q).q w.place = none := by
       cases hg : getA (V4 q).q w.place with
       | none => rfl
       | some v => exact (hq ((hw.mem q).2 (by rw [show getA q w.place = some v from hg]; rfl))).elim
     have he : (putM w (V4 q)).all = w.all ++ [q] := by rw [Z3W hg]; rfl
     rw [ih _ (Z2O hw _) (by rw [he, List.append_assoc]; exact hn), he, List.append_assoc]; rfl
 exact (key l V3 Uu (by simpa [V3] using h)).trans (by simp [V3])
structure Shown (l : List Qd) (w : Wd) : Prop where
 inv : CInv l w
 pre : w.all.take l.length = l
theorem Z53 {l : List Qd} {w : Wd} (h : CInv l w) (hl : l.Nodup) : Shown l w := by
 refine ⟨h, ?_⟩
 obtain ⟨t, ht⟩ := h.pre
 rw [Z7O hl] at ht
 rw [← ht]; simp
theorem Shown.place {l : List Qd} {w : Wd} (h : Shown l w) {i : Nat} {q : Qd} (hq : w.all[i]? = some q) : plc w q = (i : Int) := by unfold plc; rw [h.inv.why.here i q hq]; rfl
theorem Shown.whyP {l : List Qd} {w : Wd} (h : Shown l w) (i : Nat) (s : St) (hs : w.why[i]? = some s) : plc w s.q = (i : Int) := h.place (h.inv.why.why i s hs).1
theorem Shown.mem {l : List Qd} {w : Wd} (h : Shown l w) {q : Qd} (hq : q ∈ w.all) : ∃ i : Nat, w.all[i]? = some q ∧ plc w q = i := by
 obtain ⟨i, hi, rfl⟩ := List.mem_iff_getElem.1 hq
 exact ⟨i, List.getElem?_eq_getElem hi, h.place (List.getElem?_eq_getElem hi)⟩
theorem Shown.inj {l : List Qd} {w : Wd} (h : Shown l w) {q q' : Qd} (hq : q ∈ w.all) (hq' : q' ∈ w.all) (e : plc w q = plc w q') : q = q' := by
 obtain ⟨i, h1, h2⟩ := h.mem hq
 obtain ⟨j, h3, h4⟩ := h.mem hq'
 obtain rfl : i = j := by omega
 rw [h1] at h3; exact Option.some.inj h3
theorem Shown.old {l : List Qd} {w : Wd} (h : Shown l w) {q : Qd} (hq : q ∈ w.all) : q ∈ l ↔ plc w q < l.length := by
 obtain ⟨i, h1, h2⟩ := h.mem hq
 rw [h2]
 constructor
 · intro hl
   rw [← h.pre] at hl
   obtain ⟨j, hj, e⟩ := List.mem_iff_getElem.1 hl
   rw [List.length_take] at hj
   rw [List.getElem_take] at e
   have := h.place (List.getElem?_eq_some_iff.2 ⟨by omega, e⟩)
   omega
 · intro hi
   have hi : i < l.length := by omega
   rw [← h.pre]
   exact List.mem_of_getElem? (i := i) (by rw [List.getElem?_take, if_pos hi]; exact h1)
theorem Shown.step {l : List Qd} {w : Wd} (h : Shown l w) {i : Nat} {s : St} (hi : l.length ≤ i) (hs : w.why[i]? = some s) : (Zm s.r s.a s.b).2 = true ∧ (Zm s.r s.a s.b).1 = s.q ∧ s.a ∈ w.all ∧ s.b ∈ w.all ∧ plc w s.a < i ∧ plc w s.b < i := by
 obtain ⟨h1, h2⟩ := h.inv.why.why i s hs
 have hq := h.place h1
 rcases h2 with h2 | ⟨h2, h3, h4, h5⟩
 · have := (h.old (List.mem_of_getElem? h1)).1 h2; omega
 · have key : ∀ x ∈ w.all.take i, plc w x < i := fun x hx => by
     obtain ⟨j, hj, rfl⟩ := List.mem_iff_getElem.1 hx
     rw [List.length_take] at hj
     rw [List.getElem_take]
     have := h.place (List.getElem?_eq_getElem (l := w.all) (i := j) (by omega))
     omega
   exact ⟨h4, h5, List.mem_of_mem_take h2, List.mem_of_mem_take h3, key _ h2, key _ h3⟩
theorem Z54 {l : List Qd} {w : Wd} {n : Nat} (h : Shown l w) (hn : n < w.all.length) : ∀ k, k ≤ n + 1 - l.length → WhyR w n k (XH w n k).1 (XH w n k).2
 | 0, _ => Zd0 w n
 | k + 1, hk => by
   have hl := h.inv.ok.len
   have hs : w.why[n - k]? = some w.why[n - k] := List.getElem?_eq_getElem (by omega)
   obtain ⟨_, _, _, _, h5, h6⟩ := h.step (by omega) hs
   have := Zd1 (by omega) h.whyP (Z54 h hn k (by omega)) hs h5 h6
   unfold XH
   rw [hs]
   exact this
theorem Zeq {l : List Qd} {w : Wd} {n : Nat} {x : Qd} (h : Shown l w) (hx : w.all[n]? = some x) (hxl : x ∉ l) :
   (∃ s, (whyM l w n).getLast? = some s ∧ s.q = x) ∧ V5 l (whyM l w n) = true ∧ Tidy l (whyM l w n) := by
 have hn : n < w.all.length := (List.getElem?_eq_some_iff.1 hx).1
 have hpx := h.place hx
 have hln : l.length ≤ n := by
   rcases Nat.lt_or_ge n l.length with h1 | h1
   · exact (hxl ((h.old (List.mem_of_getElem? hx)).2 (by omega))).elim
   · exact h1
 have R := Z54 h hn (n + 1 - l.length) (Nat.le_refl _)
 unfold whyM
 generalize (XH w n (n + 1 - l.length)).1 = m at R
 generalize (XH w n (n + 1 - l.length)).2 = out at R ⊢
 have hidx : ∀ s ∈ out, ∃ i : Nat, l.length ≤ i ∧ i ≤ n ∧ w.why[i]? = some s ∧ plc w s.q = i := fun s hs => by
   obtain ⟨i, h1, h2, h3⟩ := R.here s hs
   exact ⟨i, by omega, h2, h3, h.whyP i s h3⟩
 have hmem : ∀ s ∈ out, s.q ∈ w.all := fun s hs => by
   obtain ⟨i, _, _, h3, _⟩ := hidx s hs
   exact List.mem_of_getElem? (h.inv.why.why i s h3).1
 have hlen := h.inv.ok.len
 have hasc : out.reverse.Pairwise fun s t => plc w s.q < plc w t.q := List.pairwise_reverse.2 R.desc
 have hnew : ∀ s ∈ out.reverse, s.q ∉ l := fun s hs => by
   have hs := List.mem_reverse.1 hs
   obtain ⟨i, h1, _, _, h4⟩ := hidx s hs
   intro hl
   have := (h.old (hmem s hs)).1 hl
   omega
 obtain ⟨s0, t0, e0, hs0⟩ := R.head (by omega)
 have hq0 : s0.q = x := by
   have := (h.inv.why.why n s0 hs0).1
   rw [hx] at this; exact (Option.some.inj this).symm
 have look : ∀ s ∈ out, ∀ q, (q = s.a ∨ q = s.b) → q ∈ l ∨ ∃ t ∈ out.reverse, t.q = q ∧ plc w t.q < plc w s.q := fun s hs q hq => by
   obtain ⟨i, h1, h2, h3, h4⟩ := hidx s hs
   obtain ⟨_, _, ha, hb, h5, h6⟩ := h.step h1 h3
   have hqa : q ∈ w.all := by rcases hq with rfl | rfl <;> assumption
   have hqi : plc w q < i := by rcases hq with rfl | rfl <;> assumption
   by_cases hl : q ∈ l
   · exact .inl hl
   · obtain ⟨j, h7, h8⟩ := h.mem hqa
     have hj : l.length ≤ j := by
       rcases Nat.lt_or_ge j l.length with h9 | h9
       · exact (hl ((h.old hqa).2 (by omega))).elim
       · exact h9
     have hwj : w.why[j]? = some w.why[j] := List.getElem?_eq_getElem (by have := (List.getElem?_eq_some_iff.1 h7).1; omega)
     have hjq := (h.inv.why.why j _ hwj).1
     rw [h7] at hjq
     refine .inr ⟨w.why[j], List.mem_reverse.2 (R.all j _ (by omega) (by omega) hwj ?_), (Option.some.inj hjq).symm, by rw [← Option.some.inj hjq]; omega⟩
     rw [← h8]
     exact (R.need _).2.2 (.inr ⟨s, hs, by rcases hq with rfl | rfl <;> simp⟩)
 refine ⟨⟨s0, by rw [List.getLast?_reverse, e0]; rfl, hq0⟩, ?_, ?_, hnew, ?_⟩
 · refine Z6O (fun s => plc w s.q) hasc (fun s hs => ?_) _ [] l rfl (fun q hq => hq.elim id fun ⟨t, ht, _⟩ => by cases ht)
   have hs := List.mem_reverse.1 hs
   obtain ⟨i, h1, h2, h3, h4⟩ := hidx s hs
   obtain ⟨h5, h6, _⟩ := h.step h1 h3
   exact ⟨h5, h6, look s hs _ (.inl rfl), look s hs _ (.inr rfl)⟩
 · intro i k hi hk hik e
   rw [List.pairwise_iff_getElem] at hasc
   rcases Nat.lt_trichotomy i k with h1 | h1 | h1
   · have := hasc i k hi hk h1; rw [e] at this; omega
   · exact hik h1
   · have := hasc k i hk hi h1; rw [e] at this; omega
 · intro i hi
   have hm : out.reverse[i] ∈ out := List.mem_reverse.1 (List.getElem_mem _)
   have hasc' := hasc
   rw [List.pairwise_iff_getElem] at hasc
   rcases (R.need _).2.1 (R.got _ hm) with h1 | ⟨t, ht, h1⟩
   · exfalso
     have h2 : out.reverse[out.reverse.length - 1]'(by omega) = s0 := by
       have h3 : out.reverse.getLast? = some s0 := by rw [List.getLast?_reverse, e0]; rfl
       rw [List.getLast?_eq_getElem?, List.getElem?_eq_getElem (by omega)] at h3
       exact Option.some.inj h3
     have := hasc i (out.reverse.length - 1) (by omega) (by omega) (by omega)
     rw [h2, h1, hq0, hpx] at this
     omega
   · obtain ⟨j, h2, h3, h4, h5⟩ := hidx t ht
     obtain ⟨_, _, ha, hb, h6, h7⟩ := h.step h2 h4
     obtain ⟨k, hk, e⟩ := List.mem_iff_getElem.1 (List.mem_reverse.2 ht)
     refine ⟨k, hk, ?_, ?_⟩
     · rcases Nat.lt_or_ge i k with h8 | h8
       · exact h8
       · exfalso
         have h9 : plc w out.reverse[k].q ≤ plc w out.reverse[i].q := by
           rcases Nat.lt_or_eq_of_le h8 with h9 | rfl
           · have := hasc k i hk (by omega) h9; omega
           · exact Int.le_refl _
         rw [e] at h9
         rcases h1 with h1 | h1 <;> omega
     · rw [e]
       exact h1.imp (fun h1 => (h.inj (hmem _ hm) ha h1).symm) (fun h1 => (h.inj (hmem _ hm) hb h1).symm)
end Go.Our
