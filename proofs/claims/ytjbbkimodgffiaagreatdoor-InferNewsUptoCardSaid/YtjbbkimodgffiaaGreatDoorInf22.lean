/- Part 22: SxFast, Asks. Conditions: as each part says. -/
import Derived.Test.YtjbbkimodgffiaaGreatDoorInf8
set_option linter.unusedVariables false
set_option linter.unusedSimpArgs false
namespace Go.Sx
open Go
def bitF (d i : Nat) : Bool := Nat.beq (Nat.land (Nat.shiftRight d i) 1) 1
theorem Zcw (d i : Nat) : bitF d i = d.testBit i := by
 have h : d.testBit i = decide ((d >>> i) % 2 = 1) := by rw [Nat.testBit_eq_decide_div_mod_eq, Nat.shiftRight_eq_div_pow]
 rw [h]
 have e : Nat.land (Nat.shiftRight d i) 1 = (d >>> i) % 2 := Nat.and_one_is_mod _
 unfold bitF
 rw [e, Bool.eq_iff_iff, decide_eq_true_iff, Nat.beq_eq]
def ZaO : List Edge → Nat → Nat
 | [], s => s
 | e :: r, s => match Region.binds .any e with
   | true => ZaO r (Nat.lor s (Nat.pow 2 e.on))
   | false => ZaO r s
def Z1x (o : Oper) : Nat := ZaO o.after.toList 0
theorem Z17 : ∀ (r : List Edge) (s k : Nat), (ZaO r s).testBit k = true ↔ s.testBit k = true ∨ ∃ e ∈ r, Region.binds .any e = true ∧ e.on = k
 | [], s, k => by simp [ZaO]
 | e :: r, s, k => by
   unfold ZaO
   split
   · rename_i hb
     rw [Z17 r]
     have e1 : (Nat.lor s (Nat.pow 2 e.on)).testBit k = (s.testBit k || decide (e.on = k)) := by
       show (s ||| 2 ^ e.on).testBit k = _
       rw [Nat.testBit_or, Nat.testBit_two_pow]
     rw [e1, Bool.or_eq_true, decide_eq_true_iff]
     simp only [List.mem_cons, exists_eq_or_imp, hb, true_and, or_assoc]
   · rename_i hb
     rw [Z17 r]
     simp only [List.mem_cons, exists_eq_or_imp, hb, Bool.false_eq_true, false_and, false_or]
theorem WX (o : Oper) (k : Nat) : (Z1x o).testBit k = true ↔ ∃ e ∈ o.after, Region.binds .any e = true ∧ e.on = k := by
 unfold Z1x; rw [Z17]; simp
structure Rep (ops : Array Oper) (l : Array Bool) (d : Nat) : Prop where
 size : l.size = ops.size
 at' : ∀ j, l.getD j false = d.testBit j
theorem Rep.atT {ops : Array Oper} {l : Array Bool} {d j : Nat} (h : Rep ops l d) (hj : j < ops.size) : l.getD j true = d.testBit j := by
 rw [← h.at' j]; simp [Array.getD, h.size, hj]
theorem Rep.set {ops : Array Oper} {l : Array Bool} {d i : Nat} (h : Rep ops l d) (hi : i < ops.size) : Rep ops (l.setIfInBounds i true) (Nat.lor d (Nat.pow 2 i)) := by
 refine ⟨by simp [h.size], fun j => ?_⟩
 show _ = (d ||| 2 ^ i).testBit j
 rw [Nat.testBit_or, Nat.testBit_two_pow]
 by_cases hij : i = j
 · subst hij
   have := h.size
   simp [Array.getD, this, hi]
 · rw [getD_set_ne false hij, h.at' j]; simp [hij]
theorem ZdO {ops : Array Oper} {l : Array Bool} {d : Nat} (h : Rep ops l d) (o : Oper) : Nat.beq (Nat.land (Z1x o) d) (Z1x o) = o.after.all fun e => !Region.binds .any e || l.getD e.on false := by
 rw [Bool.eq_iff_iff, Nat.beq_eq, Array.all_eq_true_iff_forall_mem]
 constructor
 · intro he e hm
   rw [h.at' e.on]
   by_cases hb : Region.binds .any e = true
   · have h1 := (WX o e.on).2 ⟨e, hm, hb, rfl⟩
     rw [← he] at h1
     have h2 : ((Z1x o) &&& d).testBit e.on = true := h1
     rw [Nat.testBit_and, Bool.and_eq_true] at h2
     simp [h2.2]
   · simp [hb]
 · intro hall
   refine Nat.eq_of_testBit_eq fun k => ?_
   show ((Z1x o) &&& d).testBit k = _
   rw [Nat.testBit_and]
   cases hk : (Z1x o).testBit k with
   | false => rfl
   | true =>
     obtain ⟨e, hm, hb, rfl⟩ := (WX o k).1 hk
     have := hall e hm
     rw [hb, h.at' e.on] at this
     simpa using this
abbrev Ent3 := Nat × Nat × Oper
def tabF : List Oper → Nat → List Ent3
 | [], _ => []
 | o :: r, n => (n, Z1x o, o) :: tabF r (Nat.succ n)
def Vk (d : Nat) : List Ent3 → List Nat
 | [] => []
 | (i, nd, _) :: r => match bitF d i with
   | true => Vk d r
   | false => match Nat.beq (Nat.land nd d) nd with
     | true => i :: Vk d r
     | false => Vk d r
def Z5N (ops : Array Oper) (oi : Oper) (i d : Nat) : List Ent3 → Bool
 | [] => true
 | (j, nd, oj) :: r => match Nat.beq j i with
   | true => Z5N ops oi i d r
   | false => match bitF d j with
     | true => Z5N ops oi i d r
     | false => match bitF nd i with
       | true => Z5N ops oi i d r
       | false => match oi.apart ops oj with
         | true => Z5N ops oi i d r
         | false => false
theorem Z7n {ops : Array Oper} {l : Array Bool} {d : Nat} (h : Rep ops l d) : ∀ (r : List Oper) (n : Nat), n + r.length = ops.size → (∀ k, k < r.length → ops[n + k]? = r[k]?) →
   Vk d (tabF r n) = (List.range' n r.length).filter fun i => !l.getD i true && ((ops[i]?).map (·.after.all fun e => !Region.binds .any e || l.getD e.on false)).getD false
 | [], n, _, _ => rfl
 | o :: r, n, hn, hk => by
   have h0 : ops[n]? = some o := by have := hk 0 (by simp); simpa using this
   have hlt : n < ops.size := by simp at hn; omega
   have ih := Z7n h r (n + 1) (by simp at hn; omega) fun k hk' => by
     have := hk (k + 1) (by simp; omega)
     rw [List.getElem?_cons_succ] at this
     rw [← this]; congr 1; omega
   have e1 : (List.range' n (o :: r).length) = n :: List.range' (n + 1) r.length := by rw [List.length_cons, List.range'_succ]
   rw [e1, List.filter_cons, h0, ← ih]
   simp only [tabF, Vk, Zcw, ZdO h o, h.atT hlt, Option.map_some, Option.getD_some]
   cases d.testBit n <;> cases (o.after.all fun e => !Region.binds .any e || l.getD e.on false) <;> simp
theorem Ul {ops : Array Oper} {l : Array Bool} {d : Nat} (h : Rep ops l d) : Vk d (tabF ops.toList 0) = Region.ready .any ops l := by
 rw [Z7n h ops.toList 0 (by simp) (fun k _ => by simp)]
 unfold Region.ready
 rw [List.range_eq_range']; simp
theorem Z4F {ops : Array Oper} {l : Array Bool} {d i : Nat} {oi : Oper} (h : Rep ops l d) : ∀ (r : List Oper) (n : Nat), n + r.length = ops.size → Z5N ops oi i d (tabF r n) = true →
   ∀ k (hk : k < r.length), (n + k == i || l.getD (n + k) true || r[k].after.any (fun e => Region.binds .any e && e.on == i) || oi.apart ops r[k]) = true
 | [], n, _, _, k, hk => by simp at hk
 | o :: r, n, hn, hf, k, hk => by
   have hlt : n < ops.size := by simp at hn; omega
   simp only [tabF, Z5N, Zcw] at hf
   have hstep : Z5N ops oi i d (tabF r (n + 1)) = true ∧ (n == i || l.getD n true || o.after.any (fun e => Region.binds .any e && e.on == i) || oi.apart ops o) = true := by
     split at hf
     · rename_i hb; exact ⟨hf, by simp [Nat.eq_of_beq_eq_true hb]⟩
     · split at hf
       · rename_i hb; exact ⟨hf, by rw [h.atT hlt, hb]; simp⟩
       · split at hf
         · rename_i hb
           refine ⟨hf, ?_⟩
           obtain ⟨e, hm, he, hon⟩ := (WX o i).1 hb
           have : o.after.any (fun e => Region.binds .any e && e.on == i) = true := by rw [Array.any_eq_true']; exact ⟨e, hm, by simp [he, hon]⟩
           rw [this]; simp
         · split at hf
           · rename_i hb; exact ⟨hf, by rw [hb]; simp⟩
           · cases hf
   cases k with
   | zero => simpa using hstep.2
   | succ k =>
     have := Z4F h r (n + 1) (by simp at hn; omega) hstep.1 k (by simpa using hk)
     rw [show n + (k + 1) = n + 1 + k by omega]
     simpa using this
theorem Zfb {ops : Array Oper} {l : Array Bool} {d i : Nat} {oi : Oper} (h : Rep ops l d) (hi : ops[i]? = some oi) (hf : Z5N ops oi i d (tabF ops.toList 0) = true) : Region.free .any ops l i = true := by
 unfold Region.free
 rw [hi]
 simp only
 rw [List.all_eq_true]
 intro j hj
 rw [List.mem_range] at hj
 have := Z4F h ops.toList 0 (by simp) hf j (by simpa using hj)
 rw [Nat.zero_add] at this
 have e : ops[j]? = some ops.toList[j] := by simp [hj]
 rw [e]
 simp only [Bool.or_eq_true] at this ⊢
 rcases this with ((h1 | h1) | h1) | h1
 · exact .inl (.inl h1)
 · exact .inl (.inr h1)
 · exact .inr (.inl h1)
 · exact .inr (.inr h1)
def Z9E (ops : Array Oper) (t : List Ent3) (i d : Nat) : Bool := match nth ops.toList i with | some oi => Z5N ops oi i d t | none => false
def one (i : Nat) : List Nat → Bool
 | [a] => Nat.beq a i
 | _ => false
def two (i j : Nat) : List Nat → Bool
 | [a, b] => match Nat.beq a i with | true => Nat.beq b j | false => false
 | _ => false
def Zfc (i j k : Nat) : List Nat → Bool
 | [a, b, c] => match Nat.beq a i with | true => (match Nat.beq b j with | true => Nat.beq c k | false => false) | false => false
 | _ => false
theorem Zep {i : Nat} {l : List Nat} (h : one i l = true) : l = [i] := by
 unfold one at h
 split at h
 · rw [Nat.eq_of_beq_eq_true h]
 · cases h
theorem Zg1 {i j : Nat} {l : List Nat} (h : two i j l = true) : l = [i, j] := by
 unfold two at h
 split at h
 · split at h
   · rename_i h1; rw [Nat.eq_of_beq_eq_true h1, Nat.eq_of_beq_eq_true h]
   · cases h
 · cases h
theorem ZdP {i j k : Nat} {l : List Nat} (h : Zfc i j k l = true) : l = [i, j, k] := by
 unfold Zfc at h
 split at h
 · split at h
   · split at h
     · rename_i h1 _ h2; rw [Nat.eq_of_beq_eq_true h1, Nat.eq_of_beq_eq_true h2, Nat.eq_of_beq_eq_true h]
     · cases h
   · cases h
 · cases h
def Jo (ops : Array Oper) (ms : List Nat) (t : List Ent3) : Plan → Nat → Bool
 | .nil, d => (Vk d t).isEmpty
 | .take i m rest, d =>
   (match m with
    | 0 => one i (Vk d t)
    | 1 => (Vk d t).contains i && Z9E ops t i d && (Zy rest).all (fun k => k != i)
    | 2 => (Vk d t).contains i && Z9E ops t i d && (Zy rest).all (fun k => k != i && (ms.getD k 0).testBit i)
    | _ => one i (Vk d t)) &&
   Jo ops ms t rest (Nat.lor d (Nat.pow 2 i))
 | .fork i mi j mj a b, d => two i j (Vk d t) && VK mi && VK mj && a.depth == b.depth && Jo ops ms t a (Nat.lor d (Nat.pow 2 i)) && Jo ops ms t b (Nat.lor d (Nat.pow 2 j))
 | .fork3 i mi j mj k mk a b c, d => Zfc i j k (Vk d t) && VK mi && VK mj && VK mk && a.depth == b.depth && a.depth == c.depth && Jo ops ms t a (Nat.lor d (Nat.pow 2 i)) && Jo ops ms t b (Nat.lor d (Nat.pow 2 j)) && Jo ops ms t c (Nat.lor d (Nat.pow 2 k))
 | .join p, d => Jo ops ms t p d
theorem JB {ops : Array Oper} {l : Array Bool} {i : Nat} (h : i ∈ Region.ready .any ops l) : i < ops.size := by
 unfold Region.ready at h
 exact List.mem_range.1 (List.mem_filter.1 h).1
theorem Z7o {ops : Array Oper} {l : Array Bool} {d i : Nat} (h : Rep ops l d) (hi : i < ops.size) (hf : Z9E ops (tabF ops.toList 0) i d = true) : Region.free .any ops l i = true := by
 unfold Z9E at hf
 split at hf
 · rename_i oi ho
   refine Zfb h ?_ hf
   rw [JK] at ho
   simpa using ho
 · cases hf
theorem YZ {ops : Array Oper} {ms : List Nat} : ∀ (p : Plan) (l : Array Bool) (d : Nat), Rep ops l d → Jo ops ms (tabF ops.toList 0) p d = true → Yo ops ms p l = true
 | .nil, l, d, h, hs => by rw [Jo, Ul h] at hs; exact hs
 | .join p, l, d, h, hs => by rw [Jo] at hs; rw [Yo]; exact YZ p l d h hs
 | .fork i mi j mj a b, l, d, h, hs => by
   rw [Jo, Ul h] at hs
   simp only [Bool.and_eq_true] at hs
   obtain ⟨⟨⟨⟨⟨h1, h2⟩, h3⟩, h4⟩, h5⟩, h6⟩ := hs
   have e := Zg1 h1
   have li := JB (ops := ops) (l := l) (i := i) (by rw [e]; simp)
   have lj := JB (ops := ops) (l := l) (i := j) (by rw [e]; simp)
   rw [Yo, e, h2, h3, h4, YZ a _ _ (h.set li) h5, YZ b _ _ (h.set lj) h6]
   simp
 | .fork3 i mi j mj k mk a b c, l, d, h, hs => by
   rw [Jo, Ul h] at hs
   simp only [Bool.and_eq_true] at hs
   obtain ⟨⟨⟨⟨⟨⟨⟨⟨h1, h2⟩, h3⟩, h3'⟩, h4⟩, h4'⟩, h5⟩, h6⟩, h7⟩ := hs
   have e := ZdP h1
   have li := JB (ops := ops) (l := l) (i := i) (by rw [e]; simp)
   have lj := JB (ops := ops) (l := l) (i := j) (by rw [e]; simp)
   have lk := JB (ops := ops) (l := l) (i := k) (by rw [e]; simp)
   rw [Yo, e, h2, h3, h3', h4, h4', YZ a _ _ (h.set li) h5, YZ b _ _ (h.set lj) h6, YZ c _ _ (h.set lk) h7]
   simp
 | .take i 0 rest, l, d, h, hs => by
   rw [Jo, Ul h, Bool.and_eq_true] at hs
   obtain ⟨h1, h2⟩ := hs
   have e := Zep h1
   have li := JB (ops := ops) (l := l) (i := i) (by rw [e]; simp)
   rw [Yo, YZ rest _ _ (h.set li) h2, e]; simp
 | .take i 1 rest, l, d, h, hs => by
   rw [Jo, Ul h, Bool.and_eq_true] at hs
   obtain ⟨h1, h2⟩ := hs
   simp only [Bool.and_eq_true] at h1
   have li := JB (ops := ops) (l := l) (i := i) (by simpa using h1.1.1)
   rw [Yo, YZ rest _ _ (h.set li) h2, Bool.and_true]
   simp only [Bool.and_eq_true]
   exact ⟨⟨h1.1.1, Z7o h li h1.1.2⟩, h1.2⟩
 | .take i 2 rest, l, d, h, hs => by
   rw [Jo, Ul h, Bool.and_eq_true] at hs
   obtain ⟨h1, h2⟩ := hs
   simp only [Bool.and_eq_true] at h1
   have li := JB (ops := ops) (l := l) (i := i) (by simpa using h1.1.1)
   rw [Yo, YZ rest _ _ (h.set li) h2, Bool.and_true]
   simp only [Bool.and_eq_true]
   exact ⟨⟨h1.1.1, Z7o h li h1.1.2⟩, h1.2⟩
 | .take i (m + 3) rest, l, d, h, hs => by
   have hs : (one i (Vk d (tabF ops.toList 0)) && Jo ops ms (tabF ops.toList 0) rest (Nat.lor d (Nat.pow 2 i))) = true := hs
   rw [Ul h, Bool.and_eq_true] at hs
   obtain ⟨h1, h2⟩ := hs
   have e := Zep h1
   have li := JB (ops := ops) (l := l) (i := i) (by rw [e]; simp)
   show ((Region.ready .any ops l == [i]) && Yo ops ms rest (l.setIfInBounds i true)) = true
   rw [YZ rest _ _ (h.set li) h2, e]; simp
def Zcx (ops : Array Oper) (steps : Plan) : Bool :=
 Region.noSelect ops && steps.depth == ops.size && Jo ops (Z0Q ops.toList []) (tabF ops.toList 0) steps 0
theorem rep0 (ops : Array Oper) : Rep ops (Array.replicate ops.size false) 0 := ⟨by simp, fun j => by simp [Array.getD]⟩
theorem Zcy {ops : Array Oper} {steps : Plan} (h : Zcx ops steps = true) : Z52 ops steps = true := by
 unfold Zcx at h
 unfold Z52
 rw [Bool.and_eq_true] at h ⊢
 exact ⟨h.1, YZ _ _ _ (rep0 ops) h.2⟩
theorem DRAWN.ofF {M : Mx} (hT : TabOK M.P M.C.T) (hP : M.P.follows .mixedOrders = true) {id : Nat} {ops : Array Oper} {fr : Fr} {O : Hps} {nx : Nat} {Q : Post} (steps : Plan) (hord : Zcx ops steps = true)
   (h : runD M ops.toList steps fr O nx fun fr O nx => Q .normal fr O nx) : DRAWN M id ops fr O nx Q := DRAWN.of hT hP steps (Zcy hord) h
end Go.Sx
namespace Go.Sx
open Go
theorem JOIN.to {M : Mx} {ops : List Oper} {p : Plan} {K : Fr → Hps → Nat → Prop} {f g : Fr} {O O' : Hps} {n n' : Nat} (r : runD M ops p g O' n' K) (hO : O = O') (hn : n = n') (h : ∀ t, lkp t g = lkp t f) : JOIN (fun fr => runD M ops p fr O n K) f := by
 subst hO hn; exact ⟨g, h, r⟩
theorem Z8B {t : Nat} : ∀ (g fr : Fr), lkp t (g ++ fr) = match lkp t g with | some v => some v | none => lkp t fr
 | [], fr => rfl
 | (d, v) :: g, fr => by
   rw [List.cons_append, Zg, Zg, Z8B g fr]
   by_cases h : t = d
   · rw [if_pos h, if_pos h]
   · rw [if_neg h, if_neg h]
theorem JOIN.to3 {M : Mx} {ops : List Oper} {p : Plan} {K : Fr → Hps → Nat → Prop} {fr g : Fr} {O O' : Hps} {n n' d e f : Nat} {x y z : SV} (r : runD M ops p (g ++ fr) O' n' K) (hO : O = O') (hn : n = n') (h : ∀ t, lkp t g = lkp t [(d, x), (e, y), (f, z)]) : JOIN (fun fr => runD M ops p fr O n K) ((d, x) :: (e, y) :: (f, z) :: fr) :=
 JOIN.to r hO hn fun t => by
   show _ = lkp t ([(d, x), (e, y), (f, z)] ++ fr)
   rw [Z8B, Z8B, h t]
theorem FORK.boxes {M : Mx} {ops : List Oper} {p : Plan} {fr : Fr} {O : Hps} {nx : Nat} {K : Fr → Hps → Nat → Prop} (g1 g2 : Fr) (o1 o2 : Hps) (n : Nat)
   (arms : runD M ops p (g1 ++ fr) (o1 ++ O) n K → runD M ops p (g2 ++ fr) (o2 ++ O) n K →
     FORK (oneD M ops 1 3 fr O nx fun fr O nx => runD M ops (.fork 2 3 3 3 (.take 3 3 (.take 4 0 (.take 5 0 (.join p)))) (.take 2 3 (.take 4 0 (.take 5 0 (.join p))))) fr O nx K)
     (FORK (oneD M ops 2 3 fr O nx fun fr O nx => runD M ops (.fork 1 3 3 3 (.take 3 3 (.take 4 0 (.take 5 0 (.join p)))) (.fork 1 3 4 0 (.take 4 0 (.take 5 0 (.join p))) (.take 1 2 (.take 5 0 (.join p))))) fr O nx K)
     (oneD M ops 3 3 fr O nx fun fr O nx => runD M ops (.fork 1 3 2 3 (.take 2 3 (.take 4 0 (.take 5 0 (.join p)))) (.fork 1 3 4 0 (.take 4 0 (.take 5 0 (.join p))) (.take 1 2 (.take 5 0 (.join p))))) fr O nx K)))
   (r1 : runD M ops p (g1 ++ fr) (o1 ++ O) n K) (r2 : runD M ops p (g2 ++ fr) (o2 ++ O) n K) :
     FORK (oneD M ops 1 3 fr O nx fun fr O nx => runD M ops (.fork 2 3 3 3 (.take 3 3 (.take 4 0 (.take 5 0 (.join p)))) (.take 2 3 (.take 4 0 (.take 5 0 (.join p))))) fr O nx K)
     (FORK (oneD M ops 2 3 fr O nx fun fr O nx => runD M ops (.fork 1 3 3 3 (.take 3 3 (.take 4 0 (.take 5 0 (.join p)))) (.fork 1 3 4 0 (.take 4 0 (.take 5 0 (.join p))) (.take 1 2 (.take 5 0 (.join p))))) fr O nx K)
     (oneD M ops 3 3 fr O nx fun fr O nx => runD M ops (.fork 1 3 2 3 (.take 2 3 (.take 4 0 (.take 5 0 (.join p)))) (.fork 1 3 4 0 (.take 4 0 (.take 5 0 (.join p))) (.take 1 2 (.take 5 0 (.join p))))) fr O nx K)) := arms r1 r2
theorem FORK.swap {M : Mx} {ops : List Oper} {p : Plan} {fr : Fr} {O : Hps} {nx : Nat} {K : Fr → Hps → Nat → Prop} (g : Fr) (a b : Nat) (x y : Hp)
   (arms : runD M ops p (g ++ fr) (setK b y (setK a x O)) nx K → FORK (oneD M ops 1 3 fr O nx fun fr O nx => runD M ops (.take 2 0 (.take 3 0 (.join p))) fr O nx K) (oneD M ops 2 0 fr O nx fun fr O nx => runD M ops (.take 1 2 (.take 3 0 (.join p))) fr O nx K))
   (r : runD M ops p (g ++ fr) (setK b y (setK a x O)) nx K) : FORK (oneD M ops 1 3 fr O nx fun fr O nx => runD M ops (.take 2 0 (.take 3 0 (.join p))) fr O nx K) (oneD M ops 2 0 fr O nx fun fr O nx => runD M ops (.take 1 2 (.take 3 0 (.join p))) fr O nx K) := arms r
end Go.Sx
