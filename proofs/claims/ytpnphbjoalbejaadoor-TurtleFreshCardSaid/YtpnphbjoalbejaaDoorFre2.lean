/- TurtleFresh: the row and its card out of the walk. Conditions: none beyond the statement's own. -/
import Derived.Test.YtpnphbjoalbejaaDoorProg
import Derived.Test.YtpnphbjoalbejaaDoorRows
import Derived.Lib.LaidTab
import Derived.LaidSub
import Derived.IntWalk
import Derived.Lib.Bytealg
import Derived.Lib.Strings
import Derived.Lib.ItoaNum
import Derived.RangeFuncNested
import Derived.Shelf.Strconv.Itoa3
import Derived.Test.YtpnphbjoalbejaaDoorCards
import Derived.Test.YtpnphbjoalbejaaDoorTie
import Derived.Test.YtpnphbjoalbejaaDoorFre1
/- Regions whose order is drawn, walked in one order by the engine. Conditions: none. -/
set_option linter.unusedVariables false
set_option linter.unusedSimpArgs false
namespace Go.Sx
open Go

/-! ### Values that a reading settles -/
def Det (v : SV) : Prop := ∀ η u u', Den η v u → Den η v u' → u = u'
def DetL (vs : List SV) : Prop := ∀ η us us', DenL η vs us → DenL η vs us' → us = us'
mutual
def detV : SV → Bool
  | .bool _ | .int _ _ | .str _ | .ptr _ _ _ _ | .val _ | .mp _ | .yf _ => true
  | .dfs _ => false
  | .sl _ r _ _ _ => Nat.beq r 0
  | .agg cs => detVL cs
  | .tup vs => detVL vs
  | .ifc _ v => detV v
  | .fn _ a b => detVL a && detVL b
  | .arr _ _ => false
  | .any => false
  | .nb _ => false
def detVL : List SV → Bool
  | [] => true
  | c :: cs => detV c && detVL cs
end
mutual
theorem Det.of : ∀ {v : SV}, detV v = true → Det v
  | .bool _, _ => fun η u u' h h' => by simp only [Den] at h h'; rw [h, h']
  | .int _ _, _ => fun η u u' h h' => by simp only [Den] at h h'; rw [h, h']
  | .str _, _ => fun η u u' h h' => by simp only [Den] at h h'; rw [h, h']
  | .val _, _ => fun η u u' h h' => by simp only [Den] at h h'; rw [h.1, h'.1]
  | .mp b, _ => fun η u u' h h' => by
    simp only [Den] at h h'
    obtain ⟨e, h1, rfl⟩ := h
    obtain ⟨e', h2, rfl⟩ := h'
    rw [h1] at h2; injection h2 with h2; injection h2 with h2; rw [h2]
  | .ptr b r es c, _ => fun η u u' h h' => by
    simp only [Den] at h h'
    obtain ⟨e, h1, rfl⟩ := h
    obtain ⟨e', h2, rfl⟩ := h'
    rw [h1] at h2; injection h2 with h2; injection h2 with h2; rw [h2]
  | .sl b r es len lim, hd => fun η u u' h h' => by
    simp only [detV] at hd
    have hd := beq_eq hd
    simp only [Den] at h h'
    rcases h with ⟨h1, rfl, _⟩ | ⟨e, o, h1, rfl, _, _, h2⟩
    · rcases h' with ⟨h1', rfl, _⟩ | ⟨e', o', h1', rfl, _, _, h2'⟩
      · rfl
      · rw [h1] at h1'; cases h1'
    · rcases h' with ⟨h1', rfl, _⟩ | ⟨e', o', h1', rfl, _, _, h2'⟩
      · rw [h1] at h1'; cases h1'
      · rw [h1] at h1'; injection h1' with h1'; injection h1' with h1'; subst h1'
        rw [h2 (.inr hd), h2' (.inr hd)]
  | .agg cs, hd => fun η u u' h h' => by
    simp only [detV] at hd
    simp only [Den] at h h'
    obtain ⟨us, rfl, h1, _⟩ := h
    obtain ⟨us', rfl, h2, _⟩ := h'
    rw [DetL.of hd η us us' h1 h2]
  | .tup cs, hd => fun η u u' h h' => by
    simp only [detV] at hd
    simp only [Den] at h h'
    obtain ⟨us, rfl, h1⟩ := h
    obtain ⟨us', rfl, h2⟩ := h'
    rw [DetL.of hd η us us' h1 h2]
  | .ifc t v, hd => fun η u u' h h' => by
    simp only [detV] at hd
    simp only [Den] at h h'
    obtain ⟨us, rfl, h1⟩ := h
    obtain ⟨us', rfl, h2⟩ := h'
    rw [Det.of hd η us us' h1 h2]
  | .fn f a b, hd => fun η u u' h h' => by
    simp only [detV, Bool.and_eq_true] at hd
    simp only [Den] at h h'
    obtain ⟨us, vs, rfl, h1, h3⟩ := h
    obtain ⟨us', vs', rfl, h2, h4⟩ := h'
    rw [DetL.of hd.1 η us us' h1 h2, DetL.of hd.2 η vs vs' h3 h4]
  | .arr _ _, hd => by simp [detV] at hd
  | .any, hd => by simp [detV] at hd
  | .nb _, hd => by simp [detV] at hd
  | .dfs _, hd => by simp [detV] at hd
  | .yf b, _ => fun η u u' h h' => by
    simp only [Den] at h h'
    obtain ⟨e, h1, rfl⟩ := h
    obtain ⟨e', h2, rfl⟩ := h'
    rw [h1] at h2; injection h2 with h2; injection h2 with h2; rw [h2]
theorem DetL.of : ∀ {vs : List SV}, detVL vs = true → DetL vs
  | [], _ => fun η us us' h h' => by simp only [DenL] at h h'; rw [h, h']
  | c :: cs, hd => fun η us us' h h' => by
    simp only [detVL, Bool.and_eq_true] at hd
    simp only [DenL] at h h'
    obtain ⟨u, r, rfl, h1, h2⟩ := h
    obtain ⟨u', r', rfl, h1', h2'⟩ := h'
    rw [Det.of hd.1 η u u' h1 h1', DetL.of hd.2 η r r' h2 h2']
end

/-! ### The walk -/
def sharedOf : Hps → List (Blk × Hp)
  | [] => []
  | (i, h) :: r => (.loc i, h) :: sharedOf r
/-- All that is known, only to be looked at. -/
def cxRead (C : Cx) (O : Hps) : Cx := ⟨C.T, C.N, sharedOf O ++ C.S, C.ro⟩
def cxBlind (C : Cx) : Cx := ⟨{ C.T with globs := [], gplain := rfl }, C.N, [], C.ro⟩
def shMx (M : Mx) (O : Hps) (η : Env) (w : World) : Mx := ⟨M.P, cxRead M.C O, w, fun _ => False, η⟩
def blMx (M : Mx) (η : Env) (w : World) : Mx := ⟨M.P, cxBlind M.C, w, fun _ => False, η⟩
def settled : SV → Prop → Prop
  | .bool _, K | .int _ _, K | .str _, K | .ptr _ _ _ _, K | .val _, K => K
  | .agg cs, K => match detVL cs with | true => K | false => NEED (Det (.agg cs)) K
  | .tup cs, K => match detVL cs with | true => K | false => NEED (Det (.tup cs)) K
  | v, K => NEED (Det v) K
def stepQ (N : Nat) (C : Cx) (o : Oper) (fr : Fr) (nx : Nat) (K : SV → Prop) : Prop :=
  match dstOk N o.dst with
  | false => STOP "slot"
  | true => match o.op with
    | .move x => match lookF fr x with | some v => K v | none => STOP "operand"
    | .assign x => match lookF fr x with | some v => K v | none => STOP "operand"
    | op => match stores op with
      | true => STOP "writes"
      | false => (opR C (lookF fr) [] nx op).gv fun v => settled v (K v)
/-- An operation that adds to what is known and changes nothing of it. -/
structure ADD (M : Mx) (o : Oper) (fr : Fr) (O : Hps) (nx : Nat) (K : SV → Hps → Nat → Prop) : Prop where
  out : ∀ η w, stepO (shMx M O η w) o (lookF fr) [] nx fun v O2 nx => K v (O2 ++ O) nx
def carry (M : Mx) (m : Nat) (o : Oper) (fr : Fr) (O : Hps) (nx : Nat) (K : SV → Hps → Nat → Prop) : Prop :=
  match m with
  | 0 => stepO M o (lookF fr) O nx K
  | 1 => stepQ M.C.N (cxBlind M.C) o fr nx fun v => K v O nx
  | 2 => stepQ M.C.N (cxRead M.C O) o fr nx fun v => K v O nx
  | _ => ADD M o fr O nx K
/-- Operations in a given order, each with its mode: 0 as ever, 1 from its operands alone, 2 reading, 3 adding; where two may come up and neither is quiet, both ways. -/
inductive Plan where
  | nil
  | take (i m : Nat) (t : Plan)
  | fork (i mi j mj : Nat) (a b : Plan)
  | fork3 (i mi j mj k mk : Nat) (a b c : Plan)
def planOf : List (Nat × Nat) → Plan
  | [] => .nil
  | (i, m) :: r => .take i m (planOf r)
def Plan.depth : Plan → Nat
  | .nil => 0
  | .take _ _ t => t.depth + 1
  | .fork _ _ _ _ a _ => a.depth + 1
  | .fork3 _ _ _ _ _ _ a _ _ => a.depth + 1
structure FORK (A B : Prop) : Prop where
  a : A
  b : B
/-- One operation of such a region, if it is wanted. -/
def oneD (M : Mx) (ops : List Oper) (i m : Nat) (fr : Fr) (O : Hps) (nx : Nat) (K : Fr → Hps → Nat → Prop) : Prop :=
  match nth ops i with
  | none => STOP "order"
  | some o => match o.guard with
    | none => carry M m o fr O nx fun v O nx => putK o.dst v fr fun fr => K fr O nx
    | some (j, want) =>
      match slotOf ops j with
      | none => STOP "guard"
      | some s => match lkp s fr with
        | some (.bool b) => IF b
          (fun J => match want with
           | true => carry M m o ((s, .bool true) :: fr) O nx fun v O nx => putK o.dst v ((s, .bool true) :: fr) fun fr => J fr O nx
           | false => match dstOk M.C.N o.dst with | true => putK o.dst undefS ((s, .bool true) :: fr) fun fr => J fr O nx | false => STOP "slot")
          (fun J => match want with
           | false => carry M m o ((s, .bool false) :: fr) O nx fun v O nx => putK o.dst v ((s, .bool false) :: fr) fun fr => J fr O nx
           | true => match dstOk M.C.N o.dst with | true => putK o.dst undefS ((s, .bool false) :: fr) fun fr => J fr O nx | false => STOP "slot")
          K
        | some (.tup []) => match dstOk M.C.N o.dst with | true => putK o.dst undefS fr fun fr => K fr O nx | false => STOP "slot"
        | _ => STOP "guard"
def runD (M : Mx) (ops : List Oper) : Plan → Fr → Hps → Nat → (Fr → Hps → Nat → Prop) → Prop
  | .nil, fr, O, nx, K => K fr O nx
  | .take i m rest, fr, O, nx, K => oneD M ops i m fr O nx fun fr O nx => runD M ops rest fr O nx K
  | .fork i mi j mj a b, fr, O, nx, K => FORK (oneD M ops i mi fr O nx fun fr O nx => runD M ops a fr O nx K) (oneD M ops j mj fr O nx fun fr O nx => runD M ops b fr O nx K)
  | .fork3 i mi j mj k mk a b c, fr, O, nx, K => FORK (oneD M ops i mi fr O nx fun fr O nx => runD M ops a fr O nx K) (FORK (oneD M ops j mj fr O nx fun fr O nx => runD M ops b fr O nx K) (oneD M ops k mk fr O nx fun fr O nx => runD M ops c fr O nx K))

/-! ### The order -/
def afterMask (acc : List Nat) (o : Oper) : Nat := o.after.foldl (fun s e => if Region.binds .any e then s ||| 2 ^ e.on ||| acc.getD e.on 0 else s) 0
def masks : List Oper → List Nat → List Nat
  | [], acc => acc
  | o :: r, acc => masks r (acc ++ [afterMask acc o])
def killIf (i : Nat) : Nat → List Nat → List Nat
  | 0, l => i :: l
  | _, l => l
def modeOK (m : Nat) : Bool := m == 0 || m == 3
def killsOf : Plan → List Nat
  | .nil => []
  | .take i 0 t => i :: killsOf t
  | .take _ _ t => killsOf t
  | .fork i mi j mj a b => killIf i mi (killIf j mj (killsOf a ++ killsOf b))
  | .fork3 i mi j mj k mk a b c => killIf i mi (killIf j mj (killIf k mk (killsOf a ++ (killsOf b ++ killsOf c))))
def stepsOK (ops : Array Oper) (ms : List Nat) : Plan → Array Bool → Bool
  | .nil, l => (Region.ready .any ops l).isEmpty
  | .take i m rest, l =>
    (match m with
     | 0 => Region.ready .any ops l == [i]
     | 1 => (Region.ready .any ops l).contains i && Region.free .any ops l i && (killsOf rest).all (fun k => k != i)
     | 2 => (Region.ready .any ops l).contains i && Region.free .any ops l i && (killsOf rest).all (fun k => k != i && (ms.getD k 0).testBit i)
     | _ => Region.ready .any ops l == [i]) &&
    stepsOK ops ms rest (l.setIfInBounds i true)
  | .fork i mi j mj a b, l => Region.ready .any ops l == [i, j] && modeOK mi && modeOK mj && a.depth == b.depth && stepsOK ops ms a (l.setIfInBounds i true) && stepsOK ops ms b (l.setIfInBounds j true)
  | .fork3 i mi j mj k mk a b c, l => Region.ready .any ops l == [i, j, k] && modeOK mi && modeOK mj && modeOK mk && a.depth == b.depth && a.depth == c.depth && stepsOK ops ms a (l.setIfInBounds i true) && stepsOK ops ms b (l.setIfInBounds j true) && stepsOK ops ms c (l.setIfInBounds k true)
def orderOK (ops : Array Oper) (steps : Plan) : Bool :=
  Region.noSelect ops && steps.depth == ops.size && stepsOK ops (masks ops.toList []) steps (Array.replicate ops.size false)
end Go.Sx
/- Regions whose order is drawn: the walk in one order is sound for every order. Conditions: none. -/
set_option linter.unusedVariables false
set_option linter.unusedSimpArgs false
namespace Go.Sx
open Go

/-! ### What an operation waits for -/
theorem masks_spec : ∀ (os : List Oper) (acc : List Nat), (masks os acc).take acc.length = acc ∧ ∀ j o, os[j]? = some o → (masks os acc)[acc.length + j]? = some (afterMask ((masks os acc).take (acc.length + j)) o)
  | [], acc => ⟨by simp [masks], fun j o h => by simp at h⟩
  | o :: os, acc => by
    simp only [masks]
    obtain ⟨h1, h2⟩ := masks_spec os (acc ++ [afterMask acc o])
    simp only [List.length_append, List.length_singleton] at h1 h2
    have h0 : (masks os (acc ++ [afterMask acc o])).take acc.length = acc := by
      have := congrArg (List.take acc.length) h1
      rw [List.take_take] at this
      simpa using this
    refine ⟨h0, fun j o' hj => ?_⟩
    cases j with
    | zero =>
      simp at hj; subst hj
      rw [Nat.add_zero, h0]
      have := congrArg (fun l : List Nat => l[acc.length]?) h1
      simpa [List.getElem?_take] using this
    | succ j =>
      have := h2 j o' (by simpa using hj)
      rw [show acc.length + (j + 1) = acc.length + 1 + j by omega]
      exact this
theorem afterMask_spec {acc : List Nat} {o : Oper} {i : Nat} (h : (afterMask acc o).testBit i = true) : ∃ e ∈ o.after, Region.binds .any e = true ∧ (e.on = i ∨ (acc.getD e.on 0).testBit i = true) := by
  unfold afterMask at h
  rw [← Array.foldl_toList] at h
  have key : ∀ (es : List Edge) (s : Nat), (es.foldl (fun s e => if Region.binds .any e then s ||| 2 ^ e.on ||| acc.getD e.on 0 else s) s).testBit i = true →
      s.testBit i = true ∨ ∃ e ∈ es, Region.binds .any e = true ∧ (e.on = i ∨ (acc.getD e.on 0).testBit i = true) := by
    intro es
    induction es with
    | nil => intro s h; exact .inl h
    | cons e es ih =>
      intro s h
      simp only [List.foldl_cons] at h
      rcases ih _ h with h | ⟨e', he', h⟩
      · split at h
        · rename_i hb
          simp only [Nat.testBit_or, Bool.or_eq_true] at h
          rcases h with (h | h) | h
          · exact .inl h
          · refine .inr ⟨e, List.mem_cons_self .., hb, .inl ?_⟩
            rw [Nat.testBit_two_pow] at h
            simpa using h
          · exact .inr ⟨e, List.mem_cons_self .., hb, .inr h⟩
        · exact .inl h
      · exact .inr ⟨e', List.mem_cons_of_mem _ he', h⟩
  rcases key _ _ h with h | ⟨e, he, h⟩
  · simp at h
  · exact ⟨e, by simpa using he, h⟩
theorem waits_closed {ops : Array Oper} {l : Array Bool} (hc : Closed .any ops l) {i : Nat} : ∀ (k : Nat), ((masks ops.toList []).getD k 0).testBit i = true → l.getD k false = true → l.getD i false = true := by
  intro k
  induction k using Nat.strongRecOn with
  | _ k ih =>
    intro h hk
    cases hg : (masks ops.toList [])[k]? with
    | none => rw [List.getD_eq_getElem?_getD, hg] at h; simp at h
    | some m =>
      have hlt : k < ops.size := by
        rcases Nat.lt_or_ge k ops.size with h' | h'
        · exact h'
        · rw [← hc.1] at h'
          simp [Array.getElem?_eq_none h'] at hk
      have ho : ops[k]? = some ops[k] := Array.getElem?_eq_getElem hlt
      have hm := (masks_spec ops.toList []).2 k ops[k] (by simp)
      simp only [List.length_nil, Nat.zero_add] at hm
      rw [List.getD_eq_getElem?_getD, hm, Option.getD_some] at h
      obtain ⟨e, he, hb, h⟩ := afterMask_spec h
      have hon := hc.2 k _ ho hk e he hb
      rcases h with rfl | h
      · exact hon
      · rw [List.getD_eq_getElem?_getD, List.getElem?_take] at h
        split at h
        · rename_i hlt'
          exact ih e.on hlt' (by rw [List.getD_eq_getElem?_getD]; exact h) hon
        · simp at h

/-! ### Worlds that agree -/
def agree (w w' : World) : Prop := ∀ k, k < w.heap.size → w'.heap[k]? = w.heap[k]?
theorem agree.refl (w : World) : agree w w := fun _ _ => rfl
theorem agree.trans {a b c : World} (h : agree a b) (k : agree b c) : agree a c := fun n hn => by
  have h1 := h n hn
  have hlt : n < b.heap.size := by
    rw [Array.getElem?_eq_getElem hn] at h1
    exact (Array.getElem?_eq_some_iff.1 h1).1
  rw [k n hlt, h1]
section
variable {M : Mx} {η : Env} {w : World} {O : Hps} {nx : Nat}
theorem lkpB_shared {C : Cx} : ∀ {O : Hps} {j : Nat}, lkpB (.loc j) (sharedOf O ++ C.S) = hLook C O (.loc j)
  | [], j => by simp [sharedOf, hLook, lkp]
  | (i, h) :: r, j => by
    have ih := lkpB_shared (C := C) (O := r) (j := j)
    simp only [sharedOf, List.cons_append, lkpB, blkEq, hLook, lkp]
    cases e : Nat.beq j i
    · simp only [e]; rw [ih]; rfl
    · simp only [e]
theorem lkS_shared {C : Cx} {O : Hps} {b : Blk} : lkS (cxRead C O) b = hLook C O b := by
  cases b with
  | glob g => rfl
  | loc j => exact lkpB_shared
theorem HeapOK.read (H : HeapOK M η w O nx) {w' : World} (hag : agree w w') : HeapOK (shMx M O η w') η w' [] nx := by
  refine ⟨List.prefix_rfl, H.len, ⟨fun i h hi => by simp [lkp] at hi, fun i j h h' n hi => by simp [lkp] at hi⟩, FrW.refl _ _, fun b h hb => ?_⟩
  have hb' : hLook M.C O b = some h := by rw [← lkS_shared]; exact hb
  have hsat := H.look hb'
  have hag' : ∀ k, feet η w b h k → w'.heap[k]? = w.heap[k]? := fun k f => hag _ (hsat.feet_lt f)
  have hs' := hsat.keep hag'
  exact ⟨hs', fun k f => ⟨hs'.feet_lt f, fun h => h⟩⟩
theorem HeapOK.blind (hl : η.length = nx) (w : World) : HeapOK (blMx M η w) η w [] nx :=
  ⟨List.prefix_rfl, hl, ⟨fun i h hi => by simp [lkp] at hi, fun i j h h' n hi => by simp [lkp] at hi⟩, FrW.refl _ _, fun b h hb => by cases b <;> simp [blMx, cxBlind, lkS, lkpB, lkp] at hb⟩
theorem HeapOK.join (H : HeapOK M η w O nx) {η' : Env} {w' : World} {O2 : Hps} {nx2 : Nat} (H2 : HeapOK (shMx M O η w) η' w' O2 nx2) : HeapOK M η' w' (O2 ++ O) nx2 ∧ agree w w' := by
  have hag : agree w w' := fun k hk => H2.fr.block k hk (fun h => h)
  have hp : η <+: η' := H2.pre
  have old : ∀ {i : Nat} {h : Hp}, lkp i O = some h → HpSat η' w' true (.loc i) h ∧ ∀ k, feet η' w' (.loc i) h k → feet η w (.loc i) h k ∧ k < w.heap.size := by
    intro i h hi
    obtain ⟨hsat, hF⟩ := H.own.1 i h hi
    have hk : ∀ k, feet η w (.loc i) h k → w'.heap[k]? = w.heap[k]? := fun k f => hag _ (hsat.feet_lt f)
    refine ⟨(hsat.keep (w' := w') hk).mono hp, fun k f => ?_⟩
    have f' := H.stands hp hi hk f
    exact ⟨f', hsat.feet_lt f'⟩
  refine ⟨⟨H.pre.trans hp, H2.len, ⟨fun i h hi => ?_, fun i j h h' k hi hj hij f f' => ?_⟩, H.fr.trans H2.fr (fun n hn => hn.elim), H.sok⟩, hag⟩
  · rcases lkp_append hi with hi | ⟨_, hi⟩
    · obtain ⟨h1, h2⟩ := H2.own.1 i h hi
      refine ⟨h1, fun k f => .inr ?_⟩
      rcases h2 k f with h3 | h3
      · exact h3.elim
      · exact Nat.le_trans H.fr.size h3
    · obtain ⟨h1, h2⟩ := old hi
      exact ⟨h1, fun k f => (H.own.1 i h hi).2 k (h2 k f).1⟩
  · rcases lkp_append hi with hi | ⟨_, hi⟩
    · rcases lkp_append hj with hj | ⟨_, hj⟩
      · exact H2.own.2 i j h h' k hi hj hij f f'
      · have h1 := ((old hj).2 k f').2
        rcases (H2.own.1 i h hi).2 k f with h3 | h3
        · exact h3.elim
        · have h3 : w.heap.size ≤ k := h3
          omega
    · rcases lkp_append hj with hj | ⟨_, hj⟩
      · have h1 := ((old hi).2 k f).2
        rcases (H2.own.1 j h' hj).2 k f' with h3 | h3
        · exact h3.elim
        · have h3 : w.heap.size ≤ k := h3
          omega
      · exact H.own.2 i j h h' k hi hj hij ((old hi).2 k f).1 ((old hj).2 k f').1

/-! ### Quiet operations -/
theorem settled_iff {v : SV} {K : Prop} (h : settled v K) : Det v ∧ K := by
  cases v with
  | agg cs =>
    simp only [settled] at h
    split at h
    · rename_i e; exact ⟨Det.of (by simpa only [detV] using e), h⟩
    · exact ⟨h.p, h.k⟩
  | tup cs =>
    simp only [settled] at h
    split at h
    · rename_i e; exact ⟨Det.of (by simpa only [detV] using e), h⟩
    · exact ⟨h.p, h.k⟩
  | _ => first | exact ⟨h.p, h.k⟩ | exact ⟨Det.of rfl, h⟩
theorem stepQ_yields {P : Program} {C' : Cx} (hT : TabOK P C'.T) {N : World → Prop} {o : Oper} {a : Act} {fr : Fr} {nx N0 : Nat} {K : SV → Prop} (hf : FrOK η a fr)
    (hN : ∀ w', N w' → HeapOK ⟨P, C', w', fun _ => False, η⟩ η w' [] nx) (hw : N w) (h : stepQ N0 C' o fr nx K) :
    dstOk N0 o.dst = true ∧ ∃ u v, (∀ w', N w' → (execOp a.eval o).run P w' = .ok (.value u) w' ∨ ((execOp a.eval o).run P w' = .ok .skip w' ∧ u = undef)) ∧ Den η v u ∧ K v := by
  unfold stepQ at h
  split at h
  · exact h.out.elim
  rename_i hd
  refine ⟨hd, ?_⟩
  split at h
  · rename_i x ho
    split at h
    case h_2 => exact h.out.elim
    rename_i v hv
    exact ⟨a.eval x, v, fun w' _ => .inl (by simp [execOp, ho]), lookF_den hf hv, h⟩
  · rename_i x ho
    split at h
    case h_2 => exact h.out.elim
    rename_i v hv
    exact ⟨a.eval x, v, fun w' _ => .inl (by simp [execOp, ho]), lookF_den hf hv, h⟩
  · split at h
    · exact h.out.elim
    rename_i hst
    obtain ⟨v, hok, h⟩ := Res.gv_ok h
    obtain ⟨hdet, h⟩ := settled_iff h
    have one : ∀ w', N w' → ∃ u, ((execOp a.eval o).run P w' = .ok (.value u) w' ∨ ((execOp a.eval o).run P w' = .ok .skip w' ∧ u = undef)) ∧ Den η v u := by
      intro w' hw'
      have H := hN w' hw'
      obtain ⟨u, w'', η'', h1, h2, h3, h4, h5⟩ := op_sound (M := ⟨P, C', w', fun _ => False, η⟩) (w := w') (ρ := a.eval) ⟨H, hT, fun x sv hx => lookF_den hf hx⟩ o (hok [] nx)
      have he : η'' = η := (h2.eq_of_length (by rw [H.len, h3.len])).symm
      subst he
      have hww := h5 hst rfl
      subst hww
      exact ⟨u, h1, h4⟩
    obtain ⟨u, h1, h2⟩ := one w hw
    refine ⟨u, v, fun w' hw' => ?_, h2, h⟩
    obtain ⟨u', h3, h4⟩ := one w' hw'
    rw [hdet η u u' h2 h4]
    exact h3
end
end Go.Sx
/- Regions whose order is drawn: the walk in one order is sound for every order. Conditions: none. -/
set_option linter.unusedVariables false
set_option linter.unusedSimpArgs false
namespace Go.Sx
open Go
/-- Until one of these has come up, what stood in that world stands. -/
def SS (ks : List Nat) (wc : World) (l : Array Bool) (w : World) : Prop := (∀ k ∈ ks, l.getD k false = false) → agree wc w
section
variable {M : Mx} {ops : Array Oper} {Q : Exit → Act → World → Prop}
theorem killsOf_quiet {i m : Nat} {rest : Plan} (h : m ≠ 0) : killsOf (.take i m rest) = killsOf rest := by
  cases m with
  | zero => exact (h rfl).elim
  | succ m => rfl
theorem killsOf_kill {i : Nat} {rest : Plan} : killsOf (.take i 0 rest) = i :: killsOf rest := rfl
theorem getD_false_of_true {l : Array Bool} {i : Nat} (h : l.getD i true = false) : l.getD i false = false := by
  rcases Nat.lt_or_ge i l.size with h' | h'
  · simp [h'] at h ⊢; exact h
  · simp [Array.getElem?_eq_none h'] at h
theorem models_put {η : Env} {fr : Fr} {O : Hps} {nx : Nat} {a : Act} {w : World} (hm : Models M η fr O nx a w) {o : Oper} (hd : dstOk M.C.N o.dst = true) {u : Value} {v : SV} (hv : Den η v u) {Kp : Fr → Prop} (hk : putK o.dst v fr Kp) :
    ∃ fr', Kp fr' ∧ Models M η fr' O nx (a.put o.dst u) w := hm.put hd List.prefix_rfl hm.heap hv hk
/-- A quiet operation, taken first. -/
theorem quiet_first (hQ : ∀ c a w, ¬ Q (.panic c) a w) (hs : Region.noSelect ops = true) {i n : Nat} {o : Oper} {l : Array Bool} {ks : List Nat} (ho : ops[i]? = some o) (hready : i ∈ Region.ready .any ops l) (hfree : Region.free .any ops l i = true) (hne : ∀ k ∈ ks, k ≠ i) (hc : Closed .any ops l)
    {N : World → Prop} {wc : World} (hN : ∀ l w, Closed .any ops l → l.getD i true = false → SS ks wc l w → N w) {a : Act} {w : World} {u : Value} (hy : YieldsN M.P ops N o u a) (hag : agree wc w)
    (h : wpH M.fence M.P .any ops Q (SS ks wc) n (l.setIfInBounds i true) (a.put o.dst u) w) : wpH M.fence M.P .any ops Q (SS ks wc) (n + 1) l a w := by
  refine wpH_first M.all ho (Region.noSelect_spec hs) (fun c a w hq => (hQ _ _ _ hq).elim) hN (fun l' w' hc' hun hr hS hk => hS fun k hk' => ?_) n l a w hc (Region.free_spec ho hfree) hready hy (fun _ => hag) (fun _ => hag) h
  rw [getD_set_ne false (Ne.symm (hne k hk'))]; exact hk k hk'
theorem HeapOK.drawn {η : Env} {w : World} {O : Hps} {nx : Nat} (H : HeapOK M η w O nx) {n : Nat} (hn : w.drawn ≤ n) : HeapOK M η { w with drawn := n } O nx :=
  ⟨H.pre, H.len, H.own.still rfl, ⟨H.fr.os, H.fr.tape, H.fr.output, Nat.le_trans H.fr.drawn hn, H.fr.size, H.fr.block⟩, H.sok⟩
theorem modeOK_of {m : Nat} (h : modeOK m = true) : m = 0 ∨ m = 3 := by
  unfold modeOK at h
  simpa using h
theorem killIf_mem {i m : Nat} {l : List Nat} {x : Nat} (h : x ∈ l) : x ∈ killIf i m l := by
  cases m with
  | zero => exact List.mem_cons_of_mem _ h
  | succ m => exact h
theorem killIf_self {i : Nat} {l : List Nat} : i ∈ killIf i 0 l := List.mem_cons_self ..
/-- One operation, in a mode that may write or in one that adds: whatever comes of it. -/
theorem oneD_op (hT : TabOK M.P M.C.T) {i m : Nat} (hmode : m = 0 ∨ m = 3) {fr : Fr} {O : Hps} {nx : Nat} {Kn : Fr → Hps → Nat → Prop} (h : oneD M ops.toList i m fr O nx Kn) {η : Env} {a : Act} {w : World} (hm : Models M η fr O nx a w) {R : Act → World → Prop}
    (hR : ∀ {fr : Fr} {O : Hps} {nx : Nat} {η : Env} {a : Act} {w' : World}, Kn fr O nx → Models M η fr O nx a w' → (m = 3 → agree w w') → R a w') : wpOpIn M.fence 0 M.P ops Q i R a w := by
  unfold oneD at h
  split at h
  · exact h.out.elim
  rename_i o ho
  have ho : ops[i]? = some o := by rw [nth_get] at ho; simpa using ho
  have skip : ∀ {fr' : Fr}, Models M η fr' O nx a w → Region.wanted o (yielded ops a.tmps) ≠ true → (match dstOk M.C.N o.dst with | true => putK o.dst undefS fr' fun fr => Kn fr O nx | false => STOP "slot") → wpOpIn M.fence 0 M.P ops Q i R a w := by
    intro fr' hm' hw h
    split at h
    case h_2 => exact h.out.elim
    rename_i hd
    obtain ⟨fr2, h1, h2⟩ := models_put hm' hd (denNone η) h
    unfold wpOpIn
    simp only [ho]
    rw [if_neg hw]; exact ⟨fun f _ => M.all f, hR h1 h2 fun _ => agree.refl w⟩
  have go : ∀ {fr' : Fr}, Models M η fr' O nx a w → Region.wanted o (yielded ops a.tmps) = true → (carry M m o fr' O nx fun v O nx => putK o.dst v fr' fun fr => Kn fr O nx) → wpOpIn M.fence 0 M.P ops Q i R a w := by
    intro fr' hm' hw h
    unfold wpOpIn
    simp only [ho]
    rw [if_pos hw]
    rcases hmode with rfl | rfl
    · have h : stepO M o (lookF fr') O nx fun v O nx => putK o.dst v fr' fun fr => Kn fr O nx := h
      refine (stepO_wp hT hm' (fun x sv hx => lookF_den hm'.frame hx) h fun u v O' nx' η' w' hd hp hH hv hk => ?_)
      obtain ⟨fr2, h1, h2⟩ := hm'.put hd hp hH hv hk
      exact hR h1 h2 fun h => by cases h
    · have h : ADD M o fr' O nx fun v O nx => putK o.dst v fr' fun fr => Kn fr O nx := h
      have hm2 : Models (shMx M O η w) η fr' [] nx a w := ⟨hm'.heap.read (agree.refl w), hm'.size, hm'.nds, hm'.defers, hm'.ro, hm'.frame⟩
      refine (stepO_wp (M := shMx M O η w) hT hm2 (fun x sv hx => lookF_den hm'.frame hx) (h.out η w) fun u v O2 nx2 η' w' hd hp hH hv hk => ?_)
      obtain ⟨hJ, hag2⟩ := hm'.heap.join hH
      obtain ⟨fr2, h1, h2⟩ := hm'.put hd hp hJ hv hk
      exact hR h1 h2 fun _ => hag2
  split at h
  · rename_i hg
    exact go hm (wanted_none hg) h
  · rename_i j want hg
    split at h
    · exact h.out.elim
    rename_i s hsl
    split at h
    · rename_i b hb
      have hbv := denBool (hm.frame s _ hb)
      have hy := yielded_of hsl hbv
      cases b with
      | true =>
        have h := h.t rfl
        have hm' : Models M η ((s, .bool true) :: fr) O nx a w := hm.know hb rfl rfl hbv
        cases want with
        | true => exact go hm' ((wanted_some hg).2 hy) h
        | false => exact skip hm' (fun hw => by rw [wanted_some hg, hy] at hw; cases hw) h
      | false =>
        have h := h.f rfl
        have hm' : Models M η ((s, .bool false) :: fr) O nx a w := hm.know hb rfl rfl hbv
        cases want with
        | false => exact go hm' ((wanted_some hg).2 hy) h
        | true => exact skip hm' (fun hw => by rw [wanted_some hg, hy] at hw; cases hw) h
    · rename_i hb
      have hbv := hm.frame s _ hb
      simp only [Den, DenL] at hbv
      obtain ⟨vs, hbv, rfl⟩ := hbv
      exact skip hm (fun hw => by rw [wanted_some hg] at hw; exact yielded_not hsl (by rw [hbv]; simp) hw) h
    · exact h.out.elim
/-- One arm of a fork. -/
theorem arm (hT : TabOK M.P M.C.T) {fk t : Plan} {d : Nat} {fr : Fr} {O : Hps} {nx : Nat} {K : Fr → Hps → Nat → Prop} {η : Env} {a : Act} {w wc : World} {l : Array Bool} (hm : Models M η fr O nx a w) (hag : agree wc w) (hc : Closed .any ops l)
    {x m : Nat} (hmo : modeOK m = true) (hx : x ∈ Region.ready .any ops l) (hxk : m = 0 → x ∈ killsOf fk) (hsub : ∀ k ∈ killsOf t, k ∈ killsOf fk) (hd : t.depth = d)
    (ih : ∀ {fr : Fr} {O : Hps} {nx : Nat} {η : Env} {a : Act} {w wc : World}, runD M ops.toList t fr O nx K → Models M η fr O nx a w → agree wc w → wpH M.fence M.P .any ops Q (SS (killsOf t) wc) t.depth (l.setIfInBounds x true) a w)
    (hrun : oneD M ops.toList x m fr O nx fun fr O nx => runD M ops.toList t fr O nx K) :
    wpOpIn M.fence 0 M.P ops Q x (fun a' w' => SS (killsOf fk) wc (l.setIfInBounds x true) w' ∧ wpH M.fence M.P .any ops Q (SS (killsOf fk) wc) d (l.setIfInBounds x true) a' w') a w := by
  have hin : x < l.size := by
    obtain ⟨h1, o, ho, _⟩ := mem_ready.1 hx
    rw [hc.1]; exact (Array.getElem?_eq_some_iff.1 ho).1
  have hset : (l.setIfInBounds x true).getD x false = true := by simp [hin]
  refine oneD_op hT (modeOK_of hmo) hrun hm fun {fr O nx η a w'} hk hm' hag' => ?_
  rcases modeOK_of hmo with h0 | h3
  · have hno : ∀ l' w', Grows (l.setIfInBounds x true) l' → SS (killsOf fk) wc l' w' := by
      intro l' w' hg hk
      have h1 := hk x (hxk h0)
      rw [hg x hset] at h1; cases h1
    refine ⟨hno _ _ (fun _ h => h), ?_⟩
    have := ih hk hm' (agree.refl _)
    rw [hd] at this
    exact wpH_mono (l0 := l.setIfInBounds x true) (fun l' w' hg _ => hno l' w' hg) _ _ _ _ (fun _ h => h) this
  · have hag2 : agree wc w' := hag.trans (hag' h3)
    refine ⟨fun _ => hag2, ?_⟩
    have := ih hk hm' hag2
    rw [hd] at this
    exact wpH_mono (l0 := l.setIfInBounds x true) (fun l' w'' hg hS hk => hS fun k hkt => hk k (hsub k hkt)) _ _ _ _ (fun _ h => h) this
theorem runD_sound (hT : TabOK M.P M.C.T) (hQ : ∀ c a w, ¬ Q (.panic c) a w) (hs : Region.noSelect ops = true) : ∀ (steps : Plan) {fr : Fr} {O : Hps} {nx : Nat} {K : Fr → Hps → Nat → Prop}, runD M ops.toList steps fr O nx K →
    ∀ {l : Array Bool}, stepsOK ops (masks ops.toList []) steps l = true → Closed .any ops l → ∀ {η : Env} {a : Act} {w : World}, Models M η fr O nx a w → (∀ η fr O nx a w, Models M η fr O nx a w → K fr O nx → Q .normal a w) →
    ∀ {wc : World}, agree wc w → wpH M.fence M.P .any ops Q (SS (killsOf steps) wc) steps.depth l a w
  | .nil, fr, O, nx, K, h, l, hl, hc, η, a, w, hm, hq, wc, hag => by
    simp only [stepsOK, List.isEmpty_iff] at hl
    exact ⟨hl, hq η fr O nx a w hm h⟩
  | .take i m rest, fr, O, nx, K, h, l, hl, hc, η, a, w, hm, hq, wc, hag => by
    have IH := @runD_sound hT hQ hs rest
    unfold runD oneD at h
    split at h
    · exact h.out.elim
    rename_i o ho
    have ho : ops[i]? = some o := by rw [nth_get] at ho; simpa using ho
    simp only [stepsOK, Bool.and_eq_true] at hl
    obtain ⟨hl1, hl2⟩ := hl
    have hready : i ∈ Region.ready .any ops l := by
      revert hl1
      split <;> intro hl1
      · rw [beq_iff_eq.1 hl1]; exact List.mem_singleton.2 rfl
      · simp only [Bool.and_eq_true] at hl1; simpa using hl1.1.1
      · simp only [Bool.and_eq_true] at hl1; simpa using hl1.1.1
      · rw [beq_iff_eq.1 hl1]; exact List.mem_singleton.2 rfl
    have hc' := hc.set hready
    have hin : i < l.size := by rw [hc.1]; exact (Array.getElem?_eq_some_iff.1 ho).1
    have hset : (l.setIfInBounds i true).getD i false = true := by simp [hin]
    have modes : ∀ {p : Prop}, (m = 0 → p) → (m = 1 → p) → (m = 2 → p) → (3 ≤ m → p) → p := by
      intro p h0 h1 h2 h3
      match m, h0, h1, h2, h3 with
      | 0, h0, _, _, _ => exact h0 rfl
      | 1, _, h1, _, _ => exact h1 rfl
      | 2, _, _, h2, _ => exact h2 rfl
      | m + 3, _, _, _, h3 => exact h3 (by omega)
    -- an operation that waits for nobody's leave: but this one may come up
    have alone : Region.ready .any ops l = [i] → ∀ {a : Act} {w : World}, agree wc w → wpOpIn M.fence 0 M.P ops Q i (fun a' w' => SS (killsOf (.take i m rest)) wc (l.setIfInBounds i true) w' ∧ wpH M.fence M.P .any ops Q (SS (killsOf (.take i m rest)) wc) rest.depth (l.setIfInBounds i true) a' w') a w →
        wpH M.fence M.P .any ops Q (SS (killsOf (.take i m rest)) wc) (Plan.take i m rest).depth l a w := fun hr a w hag h => wpH_one hr h
    -- what follows an operation that writes
    have afterKill : m = 0 → ∀ {fr : Fr} {O : Hps} {nx : Nat} {η : Env} {a : Act} {w : World}, runD M ops.toList rest fr O nx K → Models M η fr O nx a w →
        SS (killsOf (.take i m rest)) wc (l.setIfInBounds i true) w ∧ wpH M.fence M.P .any ops Q (SS (killsOf (.take i m rest)) wc) rest.depth (l.setIfInBounds i true) a w := by
      intro h0 fr O nx η a w hrun hm
      subst h0
      rw [killsOf_kill]
      have hno : ∀ l' w', Grows (l.setIfInBounds i true) l' → SS (i :: killsOf rest) wc l' w' := by
        intro l' w' hg hk
        have h1 := hk i (List.mem_cons_self ..)
        rw [hg i hset] at h1; cases h1
      exact ⟨hno _ _ (fun _ h => h), wpH_mono (l0 := l.setIfInBounds i true) (fun l' w' hg _ => hno l' w' hg) _ _ _ _ (fun _ h => h) (IH hrun hl2 hc' hm hq (agree.refl w))⟩
    -- what follows one that does not
    have afterElse : m ≠ 0 → ∀ {fr : Fr} {O : Hps} {nx : Nat} {η : Env} {a : Act} {w : World}, runD M ops.toList rest fr O nx K → Models M η fr O nx a w → agree wc w →
        SS (killsOf (.take i m rest)) wc (l.setIfInBounds i true) w ∧ wpH M.fence M.P .any ops Q (SS (killsOf (.take i m rest)) wc) rest.depth (l.setIfInBounds i true) a w := by
      intro h0 fr O nx η a w hrun hm hag
      rw [killsOf_quiet h0]
      exact ⟨fun _ => hag, IH hrun hl2 hc' hm hq hag⟩
    have quiet1 : m = 1 → Region.free .any ops l i = true ∧ ∀ k ∈ killsOf rest, k ≠ i := by
      intro h1; subst h1
      simp only [Bool.and_eq_true, List.all_eq_true, bne_iff_ne] at hl1
      exact ⟨hl1.1.2, hl1.2⟩
    have quiet2 : m = 2 → Region.free .any ops l i = true ∧ ∀ k ∈ killsOf rest, k ≠ i ∧ ((masks ops.toList []).getD k 0).testBit i = true := by
      intro h1; subst h1
      simp only [Bool.and_eq_true, List.all_eq_true, bne_iff_ne] at hl1
      exact ⟨hl1.1.2, hl1.2⟩
    have alone0 : m = 0 → Region.ready .any ops l = [i] := by intro h1; subst h1; exact beq_iff_eq.1 hl1
    have alone3 : 3 ≤ m → Region.ready .any ops l = [i] := by
      intro h1
      match m, h1, hl1 with
      | m + 3, _, hl1 => exact beq_iff_eq.1 hl1
    -- it is passed over
    have skip : ∀ {fr' : Fr}, Models M η fr' O nx a w → Region.wanted o (yielded ops a.tmps) ≠ true → (match dstOk M.C.N o.dst with | true => putK o.dst undefS fr' fun fr => runD M ops.toList rest fr O nx K | false => STOP "slot") →
        wpH M.fence M.P .any ops Q (SS (killsOf (.take i m rest)) wc) (Plan.take i m rest).depth l a w := by
      intro fr' hm' hw h
      split at h
      case h_2 => exact h.out.elim
      rename_i hd
      obtain ⟨fr2, h1, h2⟩ := models_put hm' hd (denNone η) h
      have hwf : Region.wanted o (yielded ops a.tmps) = false := by simpa using hw
      have op : ∀ {K' : Act → World → Prop}, K' (a.put o.dst undef) w → wpOpIn M.fence 0 M.P ops Q i K' a w := by
        intro K' hk
        unfold wpOpIn
        simp only [ho]
        rw [if_neg hw]; exact ⟨fun f _ => M.all f, hk⟩
      refine modes (fun h0 => alone (alone0 h0) hag (op (afterKill h0 h1 h2))) (fun h0 => ?_) (fun h0 => ?_) (fun h0 => alone (alone3 h0) hag (op (afterElse (by omega) h1 h2 hag)))
      · have hn : m ≠ 0 := by omega
        have := (afterElse hn h1 h2 hag).2
        rw [killsOf_quiet hn] at this ⊢
        exact quiet_first hQ hs ho hready (quiet1 h0).1 (quiet1 h0).2 hc (N := fun _ => True) (fun _ _ _ _ _ => trivial) (.inr ⟨hwf, rfl⟩) hag this
      · have hn : m ≠ 0 := by omega
        have := (afterElse hn h1 h2 hag).2
        rw [killsOf_quiet hn] at this ⊢
        exact quiet_first hQ hs ho hready (quiet2 h0).1 (fun k hk => ((quiet2 h0).2 k hk).1) hc (N := fun _ => True) (fun _ _ _ _ _ => trivial) (.inr ⟨hwf, rfl⟩) hag this
    -- it is carried out
    have go : ∀ {fr' : Fr}, Models M η fr' O nx a w → Region.wanted o (yielded ops a.tmps) = true → (carry M m o fr' O nx fun v O nx => putK o.dst v fr' fun fr => runD M ops.toList rest fr O nx K) →
        wpH M.fence M.P .any ops Q (SS (killsOf (.take i m rest)) wc) (Plan.take i m rest).depth l a w := by
      intro fr' hm' hw h
      have op : ∀ {K' : Act → World → Prop}, o.wpIn M.fence 0 M.P a w K' Q → wpOpIn M.fence 0 M.P ops Q i K' a w := by
        intro K' hk
        unfold wpOpIn
        simp only [ho]
        rw [if_pos hw]; exact hk
      refine modes (fun h0 => ?_) (fun h0 => ?_) (fun h0 => ?_) (fun h0 => ?_)
      · have h : stepO M o (lookF fr') O nx fun v O nx => putK o.dst v fr' fun fr => runD M ops.toList rest fr O nx K := by subst h0; exact h
        refine alone (alone0 h0) hag (op (stepO_wp hT hm' (fun x sv hx => lookF_den hm'.frame hx) h fun u v O' nx' η' w' hd hp hH hv hk => ?_))
        obtain ⟨fr2, h1, h2⟩ := hm'.put hd hp hH hv hk
        exact afterKill h0 h1 h2
      · have h : stepQ M.C.N (cxBlind M.C) o fr' nx fun v => putK o.dst v fr' fun fr => runD M ops.toList rest fr O nx K := by subst h0; exact h
        obtain ⟨hd, u, v, hy, hv, hk⟩ := stepQ_yields (P := M.P) (C' := cxBlind M.C) ⟨hT.und, hT.info, hT.zero, hT.zsh, hT.flat, hT.key⟩ (N := fun _ => True) (w := w) hm'.frame (fun w' _ => HeapOK.blind (M := M) hm'.heap.len w') trivial h
        obtain ⟨fr2, h1, h2⟩ := models_put hm' hd hv hk
        have hn : m ≠ 0 := by omega
        have := (afterElse hn h1 h2 hag).2
        rw [killsOf_quiet hn] at this ⊢
        exact quiet_first hQ hs ho hready (quiet1 h0).1 (quiet1 h0).2 hc (N := fun _ => True) (fun _ _ _ _ _ => trivial) (.inl ⟨hw, fun w' h => hy w' h⟩) hag this
      · have h : stepQ M.C.N (cxRead M.C O) o fr' nx fun v => putK o.dst v fr' fun fr => runD M ops.toList rest fr O nx K := by subst h0; exact h
        obtain ⟨hd, u, v, hy, hv, hk⟩ := stepQ_yields (P := M.P) (C' := cxRead M.C O) hT (N := agree w) hm'.frame (fun w' h => hm'.heap.read h) (agree.refl w) h
        obtain ⟨fr2, h1, h2⟩ := models_put hm' hd hv hk
        have hn : m ≠ 0 := by omega
        have := IH h1 hl2 hc' h2 hq (agree.refl w)
        rw [killsOf_quiet hn]
        refine wpH_mono (S' := SS (killsOf rest) w) (l0 := l) (fun l' w' _ hS hk => hag.trans (hS hk)) _ _ _ _ (fun _ h => h) ?_
        refine quiet_first hQ hs ho hready (quiet2 h0).1 (fun k hk => ((quiet2 h0).2 k hk).1) hc (N := agree w) (fun l' w' hcl hun hS => hS fun k hk => ?_) (.inl ⟨hw, fun w' h => hy w' h⟩) (agree.refl w) this
        cases hlk : l'.getD k false with
        | false => rfl
        | true =>
          have := waits_closed hcl k ((quiet2 h0).2 k hk).2 hlk
          rw [getD_false_of_true hun] at this; cases this
      · have h : ADD M o fr' O nx fun v O nx => putK o.dst v fr' fun fr => runD M ops.toList rest fr O nx K := by
          match m, h0, h with
          | m + 3, _, h => exact h
        have hm2 : Models (shMx M O η w) η fr' [] nx a w := ⟨hm'.heap.read (agree.refl w), hm'.size, hm'.nds, hm'.defers, hm'.ro, hm'.frame⟩
        refine alone (alone3 h0) hag (op (stepO_wp (M := shMx M O η w) hT hm2 (fun x sv hx => lookF_den hm'.frame hx) (h.out η w) fun u v O2 nx2 η' w' hd hp hH hv hk => ?_))
        obtain ⟨hJ, hag2⟩ := hm'.heap.join hH
        obtain ⟨fr2, h1, h2⟩ := hm'.put hd hp hJ hv hk
        exact afterElse (by omega) h1 h2 (hag.trans hag2)
    split at h
    · rename_i hg
      exact go hm (wanted_none hg) h
    · rename_i j want hg
      split at h
      · exact h.out.elim
      rename_i s hsl
      split at h
      · rename_i b hb
        have hbv := denBool (hm.frame s _ hb)
        have hy := yielded_of hsl hbv
        cases b with
        | true =>
          have h := h.t rfl
          have hm' : Models M η ((s, .bool true) :: fr) O nx a w := hm.know hb rfl rfl hbv
          cases want with
          | true => exact go hm' ((wanted_some hg).2 hy) h
          | false => exact skip hm' (fun hw => by rw [wanted_some hg, hy] at hw; cases hw) h
        | false =>
          have h := h.f rfl
          have hm' : Models M η ((s, .bool false) :: fr) O nx a w := hm.know hb rfl rfl hbv
          cases want with
          | false => exact go hm' ((wanted_some hg).2 hy) h
          | true => exact skip hm' (fun hw => by rw [wanted_some hg, hy] at hw; cases hw) h
      · rename_i hb
        have hbv := hm.frame s _ hb
        simp only [Den, DenL] at hbv
        obtain ⟨vs, hbv, rfl⟩ := hbv
        exact skip hm (fun hw => by rw [wanted_some hg] at hw; exact yielded_not hsl (by rw [hbv]; simp) hw) h
      · exact h.out.elim
  | .fork i mi j mj p q, fr, O, nx, K, h, l, hl, hc, η, a, w, hm, hq, wc, hag => by
    simp only [stepsOK, Bool.and_eq_true, beq_iff_eq] at hl
    obtain ⟨⟨⟨⟨⟨hr, hmi⟩, hmj⟩, hdep⟩, hlp⟩, hlq⟩ := hl
    unfold runD at h
    have hi : i ∈ Region.ready .any ops l := by rw [hr]; simp
    have hj : j ∈ Region.ready .any ops l := by rw [hr]; simp
    refine ⟨fun h0 => (by rw [hr] at h0; cases h0), fun x hx => ?_⟩
    rw [hr] at hx
    rcases List.mem_cons.1 hx with rfl | hx
    · exact arm hT hm hag hc hmi hi (fun h0 => by subst h0; exact killIf_self) (fun k hk => killIf_mem (killIf_mem (List.mem_append_left _ hk))) rfl (fun hk hm' hag => runD_sound hT hQ hs p hk hlp (hc.set hi) hm' hq hag) h.a
    · have hx := List.mem_singleton.1 hx
      subst hx
      exact arm hT hm hag hc hmj hj (fun h0 => by subst h0; exact killIf_mem killIf_self) (fun k hk => killIf_mem (killIf_mem (List.mem_append_right _ hk))) hdep.symm (fun hk hm' hag => runD_sound hT hQ hs q hk hlq (hc.set hj) hm' hq hag) h.b
  | .fork3 i mi j mj k mk p q r, fr, O, nx, K, h, l, hl, hc, η, a, w, hm, hq, wc, hag => by
    simp only [stepsOK, Bool.and_eq_true, beq_iff_eq] at hl
    obtain ⟨⟨⟨⟨⟨⟨⟨⟨hr, hmi⟩, hmj⟩, hmk⟩, hdep⟩, hdep2⟩, hlp⟩, hlq⟩, hlr⟩ := hl
    unfold runD at h
    have hi : i ∈ Region.ready .any ops l := by rw [hr]; simp
    have hj : j ∈ Region.ready .any ops l := by rw [hr]; simp
    have hk' : k ∈ Region.ready .any ops l := by rw [hr]; simp
    refine ⟨fun h0 => (by rw [hr] at h0; cases h0), fun x hx => ?_⟩
    rw [hr] at hx
    rcases List.mem_cons.1 hx with rfl | hx
    · exact arm hT hm hag hc hmi hi (fun h0 => by subst h0; exact killIf_self) (fun k hk => killIf_mem (killIf_mem (killIf_mem (List.mem_append_left _ hk)))) rfl (fun hk hm' hag => runD_sound hT hQ hs p hk hlp (hc.set hi) hm' hq hag) h.a
    · rcases List.mem_cons.1 hx with rfl | hx
      · exact arm hT hm hag hc hmj hj (fun h0 => by subst h0; exact killIf_mem killIf_self) (fun k hk => killIf_mem (killIf_mem (killIf_mem (List.mem_append_right _ (List.mem_append_left _ hk))))) hdep.symm (fun hk hm' hag => runD_sound hT hQ hs q hk hlq (hc.set hj) hm' hq hag) h.b.a
      · have hx := List.mem_singleton.1 hx
        subst hx
        exact arm hT hm hag hc hmk hk' (fun h0 => by subst h0; exact killIf_mem (killIf_mem killIf_self)) (fun k hk => killIf_mem (killIf_mem (killIf_mem (List.mem_append_right _ (List.mem_append_right _ hk))))) hdep2.symm (fun hk hm' hag => runD_sound hT hQ hs r hk hlr (hc.set hk') hm' hq hag) h.b.b
/-- A region whose order is drawn: it is walked in one order. -/
theorem DRAWN.of {M : Mx} (hT : TabOK M.P M.C.T) (hP : M.P.follows .mixedOrders = true) {id : Nat} {ops : Array Oper} {fr : Fr} {O : Hps} {nx : Nat} {Q : Post} (steps : Plan) (hord : orderOK ops steps = true)
    (h : runD M ops.toList steps fr O nx fun fr O nx => Q .normal fr O nx) : DRAWN M id ops fr O nx Q := by
  simp only [orderOK, Bool.and_eq_true, beq_iff_eq] at hord
  obtain ⟨⟨hs, hlen⟩, hord⟩ := hord
  refine ⟨fun η a w hm => wpIn_region_any hP (wpAny_of_wpH (S := SS (killsOf steps) { w with drawn := w.drawn + 1 }) _ _ _ _ ?_)⟩
  have hm' : Models M η fr O nx a { w with drawn := w.drawn + 1 } := ⟨hm.heap.drawn (Nat.le_succ _), hm.size, hm.nds, hm.defers, hm.ro, hm.frame⟩
  have hc0 : Closed .any ops (Array.replicate ops.size false) := by
    refine ⟨by simp, fun j o hj hl => ?_⟩
    rcases Nat.lt_or_ge j ops.size with h' | h'
    · simp [h'] at hl
    · simp [h'] at hl
  have key := runD_sound (Q := liftQ M Q) hT (fun c a w hq => hq) hs steps h hord hc0 hm' (fun η fr O nx a w hm hq => ⟨η, fr, O, nx, hm, hq⟩) (agree.refl _)
  rw [hlen] at key
  exact key
end
end Go.Sx
/- What the engine knows of the types of this program. Made by gen_tab.py. Conditions: none. -/
set_option maxRecDepth 100000
namespace Go.Proofs.YtpnphbjoalbejaaDoor
open Go.Sx
def tabSh (t : TypeId) : Sh := match Nat.ble t 61 with | true => (match Nat.ble t 30 with | true => (match Nat.ble t 14 with | true => (match Nat.ble t 6 with | true => (match Nat.ble t 2 with | true => (match Nat.ble t 0 with | true => .plain | false => (match Nat.ble t 1 with | true => .func | false => .int .i64)) | false => (match Nat.ble t 4 with | true => (match Nat.ble t 3 with | true => .int .i64 | false => .bool) | false => (match Nat.ble t 5 with | true => .int .u8 | false => .int .u8))) | false => (match Nat.ble t 10 with | true => (match Nat.ble t 8 with | true => (match Nat.ble t 7 with | true => .struct [(0, 2), (1, 3), (2, 4), (3, 6)] | false => .struct [(0, 2), (1, 3), (2, 4), (3, 6)]) | false => (match Nat.ble t 9 with | true => .str | false => .str)) | false => (match Nat.ble t 12 with | true => (match Nat.ble t 11 with | true => .str | false => .int .u64) | false => (match Nat.ble t 13 with | true => .struct [(0, 9), (1, 12)] | false => .struct [(0, 9), (1, 12)])))) | false => (match Nat.ble t 22 with | true => (match Nat.ble t 18 with | true => (match Nat.ble t 16 with | true => (match Nat.ble t 15 with | true => .ptr 48 | false => .ptr 51) | false => (match Nat.ble t 17 with | true => .ptr 60 | false => .struct [(0, 17)])) | false => (match Nat.ble t 20 with | true => (match Nat.ble t 19 with | true => .struct [(0, 17)] | false => .iface) | false => (match Nat.ble t 21 with | true => .int .i32 | false => .slice 9))) | false => (match Nat.ble t 26 with | true => (match Nat.ble t 24 with | true => (match Nat.ble t 23 with | true => .func | false => .func) | false => (match Nat.ble t 25 with | true => .map 9 3 | false => .func)) | false => (match Nat.ble t 28 with | true => (match Nat.ble t 27 with | true => .slice 5 | false => .func) | false => (match Nat.ble t 29 with | true => .array 24 5 | false => .int .u64))))) | false => (match Nat.ble t 45 with | true => (match Nat.ble t 37 with | true => (match Nat.ble t 33 with | true => (match Nat.ble t 31 with | true => .func | false => (match Nat.ble t 32 with | true => .func | false => .plain)) | false => (match Nat.ble t 35 with | true => (match Nat.ble t 34 with | true => .func | false => .func) | false => (match Nat.ble t 36 with | true => .func | false => .array 20 30))) | false => (match Nat.ble t 41 with | true => (match Nat.ble t 39 with | true => (match Nat.ble t 38 with | true => .int .u32 | false => .array 65 5) | false => (match Nat.ble t 40 with | true => .func | false => .int .u64)) | false => (match Nat.ble t 43 with | true => (match Nat.ble t 42 with | true => .func | false => .func) | false => (match Nat.ble t 44 with | true => .array 32 5 | false => .array 64 5)))) | false => (match Nat.ble t 53 with | true => (match Nat.ble t 49 with | true => (match Nat.ble t 47 with | true => (match Nat.ble t 46 with | true => .func | false => .struct [(0, 17), (1, 17), (2, 17), (3, 9)]) | false => (match Nat.ble t 48 with | true => .struct [(0, 17), (1, 17), (2, 17), (3, 9)] | false => .array 0 16)) | false => (match Nat.ble t 51 with | true => (match Nat.ble t 50 with | true => .struct [(0, 49)] | false => .struct [(0, 49)]) | false => (match Nat.ble t 52 with | true => .func | false => .int .u8))) | false => (match Nat.ble t 57 with | true => (match Nat.ble t 55 with | true => (match Nat.ble t 54 with | true => .int .u8 | false => .func) | false => (match Nat.ble t 56 with | true => .ptr 5 | false => .int .i32)) | false => (match Nat.ble t 59 with | true => (match Nat.ble t 58 with | true => .int .i32 | false => .struct [(0, 12), (1, 12), (2, 38), (3, 53), (4, 5), (5, 5), (6, 54), (7, 55), (8, 56), (9, 57), (10, 58)]) | false => (match Nat.ble t 60 with | true => .struct [(0, 12), (1, 12), (2, 38), (3, 53), (4, 5), (5, 5), (6, 54), (7, 55), (8, 56), (9, 57), (10, 58)] | false => .plain)))))) | false => .other
def tabSize (t : TypeId) : Nat := match Nat.ble t 61 with | true => (match Nat.ble t 30 with | true => (match Nat.ble t 14 with | true => (match Nat.ble t 6 with | true => (match Nat.ble t 2 with | true => (match Nat.ble t 0 with | true => 1 | false => (match Nat.ble t 1 with | true => 1 | false => 1)) | false => (match Nat.ble t 4 with | true => (match Nat.ble t 3 with | true => 1 | false => 1) | false => (match Nat.ble t 5 with | true => 1 | false => 1))) | false => (match Nat.ble t 10 with | true => (match Nat.ble t 8 with | true => (match Nat.ble t 7 with | true => 4 | false => 4) | false => (match Nat.ble t 9 with | true => 1 | false => 1)) | false => (match Nat.ble t 12 with | true => (match Nat.ble t 11 with | true => 1 | false => 1) | false => (match Nat.ble t 13 with | true => 2 | false => 2)))) | false => (match Nat.ble t 22 with | true => (match Nat.ble t 18 with | true => (match Nat.ble t 16 with | true => (match Nat.ble t 15 with | true => 1 | false => 1) | false => (match Nat.ble t 17 with | true => 1 | false => 1)) | false => (match Nat.ble t 20 with | true => (match Nat.ble t 19 with | true => 1 | false => 1) | false => (match Nat.ble t 21 with | true => 1 | false => 1))) | false => (match Nat.ble t 26 with | true => (match Nat.ble t 24 with | true => (match Nat.ble t 23 with | true => 1 | false => 1) | false => (match Nat.ble t 25 with | true => 1 | false => 1)) | false => (match Nat.ble t 28 with | true => (match Nat.ble t 27 with | true => 1 | false => 1) | false => (match Nat.ble t 29 with | true => 24 | false => 1))))) | false => (match Nat.ble t 45 with | true => (match Nat.ble t 37 with | true => (match Nat.ble t 33 with | true => (match Nat.ble t 31 with | true => 1 | false => (match Nat.ble t 32 with | true => 1 | false => 1)) | false => (match Nat.ble t 35 with | true => (match Nat.ble t 34 with | true => 1 | false => 1) | false => (match Nat.ble t 36 with | true => 1 | false => 20))) | false => (match Nat.ble t 41 with | true => (match Nat.ble t 39 with | true => (match Nat.ble t 38 with | true => 1 | false => 65) | false => (match Nat.ble t 40 with | true => 1 | false => 1)) | false => (match Nat.ble t 43 with | true => (match Nat.ble t 42 with | true => 1 | false => 1) | false => (match Nat.ble t 44 with | true => 32 | false => 64)))) | false => (match Nat.ble t 53 with | true => (match Nat.ble t 49 with | true => (match Nat.ble t 47 with | true => (match Nat.ble t 46 with | true => 1 | false => 4) | false => (match Nat.ble t 48 with | true => 4 | false => 0)) | false => (match Nat.ble t 51 with | true => (match Nat.ble t 50 with | true => 0 | false => 0) | false => (match Nat.ble t 52 with | true => 1 | false => 1))) | false => (match Nat.ble t 57 with | true => (match Nat.ble t 55 with | true => (match Nat.ble t 54 with | true => 1 | false => 1) | false => (match Nat.ble t 56 with | true => 1 | false => 1)) | false => (match Nat.ble t 59 with | true => (match Nat.ble t 58 with | true => 1 | false => 11) | false => (match Nat.ble t 60 with | true => 11 | false => 1)))))) | false => 0
def tabZero (t : TypeId) : List SV := match Nat.ble t 61 with | true => (match Nat.ble t 30 with | true => (match Nat.ble t 14 with | true => (match Nat.ble t 6 with | true => (match Nat.ble t 2 with | true => (match Nat.ble t 0 with | true => [] | false => (match Nat.ble t 1 with | true => [.val .nilFunc] | false => [.int .i64 (0)])) | false => (match Nat.ble t 4 with | true => (match Nat.ble t 3 with | true => [.int .i64 (0)] | false => [.bool false]) | false => (match Nat.ble t 5 with | true => [.int .u8 (0)] | false => [.int .u8 (0)]))) | false => (match Nat.ble t 10 with | true => (match Nat.ble t 8 with | true => (match Nat.ble t 7 with | true => [.int .i64 (0), .int .i64 (0), .bool false, .int .u8 (0)] | false => [.int .i64 (0), .int .i64 (0), .bool false, .int .u8 (0)]) | false => (match Nat.ble t 9 with | true => [.str []] | false => [.str []])) | false => (match Nat.ble t 12 with | true => (match Nat.ble t 11 with | true => [.str []] | false => [.int .u64 (0)]) | false => (match Nat.ble t 13 with | true => [.str [], .int .u64 (0)] | false => [.str [], .int .u64 (0)])))) | false => (match Nat.ble t 22 with | true => (match Nat.ble t 18 with | true => (match Nat.ble t 16 with | true => (match Nat.ble t 15 with | true => [.val (.pointer none)] | false => [.val (.pointer none)]) | false => (match Nat.ble t 17 with | true => [.val (.pointer none)] | false => [.val (.pointer none)])) | false => (match Nat.ble t 20 with | true => (match Nat.ble t 19 with | true => [.val (.pointer none)] | false => [.val .nilIface]) | false => (match Nat.ble t 21 with | true => [.int .i32 (0)] | false => [.val (.slice none 0 0)]))) | false => (match Nat.ble t 26 with | true => (match Nat.ble t 24 with | true => (match Nat.ble t 23 with | true => [.val .nilFunc] | false => [.val .nilFunc]) | false => (match Nat.ble t 25 with | true => [.val (.map none)] | false => [.val .nilFunc])) | false => (match Nat.ble t 28 with | true => (match Nat.ble t 27 with | true => [.val (.slice none 0 0)] | false => [.val .nilFunc]) | false => (match Nat.ble t 29 with | true => [.int .u8 (0), .int .u8 (0), .int .u8 (0), .int .u8 (0), .int .u8 (0), .int .u8 (0), .int .u8 (0), .int .u8 (0), .int .u8 (0), .int .u8 (0), .int .u8 (0), .int .u8 (0), .int .u8 (0), .int .u8 (0), .int .u8 (0), .int .u8 (0), .int .u8 (0), .int .u8 (0), .int .u8 (0), .int .u8 (0), .int .u8 (0), .int .u8 (0), .int .u8 (0), .int .u8 (0)] | false => [.int .u64 (0)]))))) | false => (match Nat.ble t 45 with | true => (match Nat.ble t 37 with | true => (match Nat.ble t 33 with | true => (match Nat.ble t 31 with | true => [.val .nilFunc] | false => (match Nat.ble t 32 with | true => [.val .nilFunc] | false => [])) | false => (match Nat.ble t 35 with | true => (match Nat.ble t 34 with | true => [.val .nilFunc] | false => [.val .nilFunc]) | false => (match Nat.ble t 36 with | true => [.val .nilFunc] | false => [.int .u64 (0), .int .u64 (0), .int .u64 (0), .int .u64 (0), .int .u64 (0), .int .u64 (0), .int .u64 (0), .int .u64 (0), .int .u64 (0), .int .u64 (0), .int .u64 (0), .int .u64 (0), .int .u64 (0), .int .u64 (0), .int .u64 (0), .int .u64 (0), .int .u64 (0), .int .u64 (0), .int .u64 (0), .int .u64 (0)]))) | false => (match Nat.ble t 41 with | true => (match Nat.ble t 39 with | true => (match Nat.ble t 38 with | true => [.int .u32 (0)] | false => []) | false => (match Nat.ble t 40 with | true => [.val .nilFunc] | false => [.int .u64 (0)])) | false => (match Nat.ble t 43 with | true => (match Nat.ble t 42 with | true => [.val .nilFunc] | false => [.val .nilFunc]) | false => (match Nat.ble t 44 with | true => [.int .u8 (0), .int .u8 (0), .int .u8 (0), .int .u8 (0), .int .u8 (0), .int .u8 (0), .int .u8 (0), .int .u8 (0), .int .u8 (0), .int .u8 (0), .int .u8 (0), .int .u8 (0), .int .u8 (0), .int .u8 (0), .int .u8 (0), .int .u8 (0), .int .u8 (0), .int .u8 (0), .int .u8 (0), .int .u8 (0), .int .u8 (0), .int .u8 (0), .int .u8 (0), .int .u8 (0), .int .u8 (0), .int .u8 (0), .int .u8 (0), .int .u8 (0), .int .u8 (0), .int .u8 (0), .int .u8 (0), .int .u8 (0)] | false => [.int .u8 (0), .int .u8 (0), .int .u8 (0), .int .u8 (0), .int .u8 (0), .int .u8 (0), .int .u8 (0), .int .u8 (0), .int .u8 (0), .int .u8 (0), .int .u8 (0), .int .u8 (0), .int .u8 (0), .int .u8 (0), .int .u8 (0), .int .u8 (0), .int .u8 (0), .int .u8 (0), .int .u8 (0), .int .u8 (0), .int .u8 (0), .int .u8 (0), .int .u8 (0), .int .u8 (0), .int .u8 (0), .int .u8 (0), .int .u8 (0), .int .u8 (0), .int .u8 (0), .int .u8 (0), .int .u8 (0), .int .u8 (0), .int .u8 (0), .int .u8 (0), .int .u8 (0), .int .u8 (0), .int .u8 (0), .int .u8 (0), .int .u8 (0), .int .u8 (0), .int .u8 (0), .int .u8 (0), .int .u8 (0), .int .u8 (0), .int .u8 (0), .int .u8 (0), .int .u8 (0), .int .u8 (0), .int .u8 (0), .int .u8 (0), .int .u8 (0), .int .u8 (0), .int .u8 (0), .int .u8 (0), .int .u8 (0), .int .u8 (0), .int .u8 (0), .int .u8 (0), .int .u8 (0), .int .u8 (0), .int .u8 (0), .int .u8 (0), .int .u8 (0), .int .u8 (0)])))) | false => (match Nat.ble t 53 with | true => (match Nat.ble t 49 with | true => (match Nat.ble t 47 with | true => (match Nat.ble t 46 with | true => [.val .nilFunc] | false => [.val (.pointer none), .val (.pointer none), .val (.pointer none), .str []]) | false => (match Nat.ble t 48 with | true => [.val (.pointer none), .val (.pointer none), .val (.pointer none), .str []] | false => [])) | false => (match Nat.ble t 51 with | true => (match Nat.ble t 50 with | true => [] | false => []) | false => (match Nat.ble t 52 with | true => [.val .nilFunc] | false => [.int .u8 (0)]))) | false => (match Nat.ble t 57 with | true => (match Nat.ble t 55 with | true => (match Nat.ble t 54 with | true => [.int .u8 (0)] | false => [.val .nilFunc]) | false => (match Nat.ble t 56 with | true => [.val (.pointer none)] | false => [.int .i32 (0)])) | false => (match Nat.ble t 59 with | true => (match Nat.ble t 58 with | true => [.int .i32 (0)] | false => [.int .u64 (0), .int .u64 (0), .int .u32 (0), .int .u8 (0), .int .u8 (0), .int .u8 (0), .int .u8 (0), .val .nilFunc, .val (.pointer none), .int .i32 (0), .int .i32 (0)]) | false => (match Nat.ble t 60 with | true => [.int .u64 (0), .int .u64 (0), .int .u32 (0), .int .u8 (0), .int .u8 (0), .int .u8 (0), .int .u8 (0), .val .nilFunc, .val (.pointer none), .int .i32 (0), .int .i32 (0)] | false => [.val (.pointer none)])))))) | false => []
def tabBytes (t : TypeId) : Nat := match Nat.ble t 61 with | true => (match Nat.ble t 30 with | true => (match Nat.ble t 14 with | true => (match Nat.ble t 6 with | true => (match Nat.ble t 2 with | true => (match Nat.ble t 0 with | true => 0 | false => (match Nat.ble t 1 with | true => 8 | false => 8)) | false => (match Nat.ble t 4 with | true => (match Nat.ble t 3 with | true => 8 | false => 1) | false => (match Nat.ble t 5 with | true => 1 | false => 1))) | false => (match Nat.ble t 10 with | true => (match Nat.ble t 8 with | true => (match Nat.ble t 7 with | true => 24 | false => 24) | false => (match Nat.ble t 9 with | true => 16 | false => 16)) | false => (match Nat.ble t 12 with | true => (match Nat.ble t 11 with | true => 16 | false => 8) | false => (match Nat.ble t 13 with | true => 24 | false => 24)))) | false => (match Nat.ble t 22 with | true => (match Nat.ble t 18 with | true => (match Nat.ble t 16 with | true => (match Nat.ble t 15 with | true => 8 | false => 8) | false => (match Nat.ble t 17 with | true => 8 | false => 8)) | false => (match Nat.ble t 20 with | true => (match Nat.ble t 19 with | true => 8 | false => 16) | false => (match Nat.ble t 21 with | true => 4 | false => 24))) | false => (match Nat.ble t 26 with | true => (match Nat.ble t 24 with | true => (match Nat.ble t 23 with | true => 8 | false => 8) | false => (match Nat.ble t 25 with | true => 8 | false => 8)) | false => (match Nat.ble t 28 with | true => (match Nat.ble t 27 with | true => 24 | false => 8) | false => (match Nat.ble t 29 with | true => 24 | false => 8))))) | false => (match Nat.ble t 45 with | true => (match Nat.ble t 37 with | true => (match Nat.ble t 33 with | true => (match Nat.ble t 31 with | true => 8 | false => (match Nat.ble t 32 with | true => 8 | false => 0)) | false => (match Nat.ble t 35 with | true => (match Nat.ble t 34 with | true => 8 | false => 8) | false => (match Nat.ble t 36 with | true => 8 | false => 160))) | false => (match Nat.ble t 41 with | true => (match Nat.ble t 39 with | true => (match Nat.ble t 38 with | true => 4 | false => 65) | false => (match Nat.ble t 40 with | true => 8 | false => 8)) | false => (match Nat.ble t 43 with | true => (match Nat.ble t 42 with | true => 8 | false => 8) | false => (match Nat.ble t 44 with | true => 32 | false => 64)))) | false => (match Nat.ble t 53 with | true => (match Nat.ble t 49 with | true => (match Nat.ble t 47 with | true => (match Nat.ble t 46 with | true => 8 | false => 40) | false => (match Nat.ble t 48 with | true => 40 | false => 0)) | false => (match Nat.ble t 51 with | true => (match Nat.ble t 50 with | true => 0 | false => 0) | false => (match Nat.ble t 52 with | true => 8 | false => 1))) | false => (match Nat.ble t 57 with | true => (match Nat.ble t 55 with | true => (match Nat.ble t 54 with | true => 1 | false => 8) | false => (match Nat.ble t 56 with | true => 8 | false => 4)) | false => (match Nat.ble t 59 with | true => (match Nat.ble t 58 with | true => 4 | false => 48) | false => (match Nat.ble t 60 with | true => 48 | false => 8)))))) | false => 0
def tabFlat (t : TypeId) : Option (List CK) := match Nat.ble t 61 with | true => (match Nat.ble t 30 with | true => (match Nat.ble t 14 with | true => (match Nat.ble t 6 with | true => (match Nat.ble t 2 with | true => (match Nat.ble t 0 with | true => none | false => (match Nat.ble t 1 with | true => none | false => none)) | false => (match Nat.ble t 4 with | true => (match Nat.ble t 3 with | true => none | false => none) | false => (match Nat.ble t 5 with | true => none | false => none))) | false => (match Nat.ble t 10 with | true => (match Nat.ble t 8 with | true => (match Nat.ble t 7 with | true => none | false => none) | false => (match Nat.ble t 9 with | true => none | false => none)) | false => (match Nat.ble t 12 with | true => (match Nat.ble t 11 with | true => none | false => none) | false => (match Nat.ble t 13 with | true => none | false => none)))) | false => (match Nat.ble t 22 with | true => (match Nat.ble t 18 with | true => (match Nat.ble t 16 with | true => (match Nat.ble t 15 with | true => none | false => none) | false => (match Nat.ble t 17 with | true => none | false => none)) | false => (match Nat.ble t 20 with | true => (match Nat.ble t 19 with | true => none | false => none) | false => (match Nat.ble t 21 with | true => none | false => none))) | false => (match Nat.ble t 26 with | true => (match Nat.ble t 24 with | true => (match Nat.ble t 23 with | true => none | false => none) | false => (match Nat.ble t 25 with | true => none | false => none)) | false => (match Nat.ble t 28 with | true => (match Nat.ble t 27 with | true => none | false => none) | false => (match Nat.ble t 29 with | true => some [.int .u8, .int .u8, .int .u8, .int .u8, .int .u8, .int .u8, .int .u8, .int .u8, .int .u8, .int .u8, .int .u8, .int .u8, .int .u8, .int .u8, .int .u8, .int .u8, .int .u8, .int .u8, .int .u8, .int .u8, .int .u8, .int .u8, .int .u8, .int .u8] | false => none))))) | false => (match Nat.ble t 45 with | true => (match Nat.ble t 37 with | true => (match Nat.ble t 33 with | true => (match Nat.ble t 31 with | true => none | false => (match Nat.ble t 32 with | true => none | false => none)) | false => (match Nat.ble t 35 with | true => (match Nat.ble t 34 with | true => none | false => none) | false => (match Nat.ble t 36 with | true => none | false => some [.int .u64, .int .u64, .int .u64, .int .u64, .int .u64, .int .u64, .int .u64, .int .u64, .int .u64, .int .u64, .int .u64, .int .u64, .int .u64, .int .u64, .int .u64, .int .u64, .int .u64, .int .u64, .int .u64, .int .u64]))) | false => (match Nat.ble t 41 with | true => (match Nat.ble t 39 with | true => (match Nat.ble t 38 with | true => none | false => none) | false => (match Nat.ble t 40 with | true => none | false => none)) | false => (match Nat.ble t 43 with | true => (match Nat.ble t 42 with | true => none | false => none) | false => (match Nat.ble t 44 with | true => some [.int .u8, .int .u8, .int .u8, .int .u8, .int .u8, .int .u8, .int .u8, .int .u8, .int .u8, .int .u8, .int .u8, .int .u8, .int .u8, .int .u8, .int .u8, .int .u8, .int .u8, .int .u8, .int .u8, .int .u8, .int .u8, .int .u8, .int .u8, .int .u8, .int .u8, .int .u8, .int .u8, .int .u8, .int .u8, .int .u8, .int .u8, .int .u8] | false => some [.int .u8, .int .u8, .int .u8, .int .u8, .int .u8, .int .u8, .int .u8, .int .u8, .int .u8, .int .u8, .int .u8, .int .u8, .int .u8, .int .u8, .int .u8, .int .u8, .int .u8, .int .u8, .int .u8, .int .u8, .int .u8, .int .u8, .int .u8, .int .u8, .int .u8, .int .u8, .int .u8, .int .u8, .int .u8, .int .u8, .int .u8, .int .u8, .int .u8, .int .u8, .int .u8, .int .u8, .int .u8, .int .u8, .int .u8, .int .u8, .int .u8, .int .u8, .int .u8, .int .u8, .int .u8, .int .u8, .int .u8, .int .u8, .int .u8, .int .u8, .int .u8, .int .u8, .int .u8, .int .u8, .int .u8, .int .u8, .int .u8, .int .u8, .int .u8, .int .u8, .int .u8, .int .u8, .int .u8, .int .u8])))) | false => (match Nat.ble t 53 with | true => (match Nat.ble t 49 with | true => (match Nat.ble t 47 with | true => (match Nat.ble t 46 with | true => none | false => none) | false => (match Nat.ble t 48 with | true => none | false => none)) | false => (match Nat.ble t 51 with | true => (match Nat.ble t 50 with | true => none | false => none) | false => (match Nat.ble t 52 with | true => none | false => none))) | false => (match Nat.ble t 57 with | true => (match Nat.ble t 55 with | true => (match Nat.ble t 54 with | true => none | false => none) | false => (match Nat.ble t 56 with | true => none | false => none)) | false => (match Nat.ble t 59 with | true => (match Nat.ble t 58 with | true => none | false => none) | false => (match Nat.ble t 60 with | true => none | false => none)))))) | false => none
def tabKey (t : TypeId) : Option (Bool × List CK) := match Nat.ble t 61 with | true => (match Nat.ble t 30 with | true => (match Nat.ble t 14 with | true => (match Nat.ble t 6 with | true => (match Nat.ble t 2 with | true => (match Nat.ble t 0 with | true => none | false => (match Nat.ble t 1 with | true => none | false => none)) | false => (match Nat.ble t 4 with | true => (match Nat.ble t 3 with | true => none | false => none) | false => (match Nat.ble t 5 with | true => none | false => none))) | false => (match Nat.ble t 10 with | true => (match Nat.ble t 8 with | true => (match Nat.ble t 7 with | true => none | false => none) | false => (match Nat.ble t 9 with | true => some (false, [.str]) | false => none)) | false => (match Nat.ble t 12 with | true => (match Nat.ble t 11 with | true => none | false => none) | false => (match Nat.ble t 13 with | true => none | false => none)))) | false => (match Nat.ble t 22 with | true => (match Nat.ble t 18 with | true => (match Nat.ble t 16 with | true => (match Nat.ble t 15 with | true => none | false => none) | false => (match Nat.ble t 17 with | true => none | false => none)) | false => (match Nat.ble t 20 with | true => (match Nat.ble t 19 with | true => none | false => none) | false => (match Nat.ble t 21 with | true => none | false => none))) | false => (match Nat.ble t 26 with | true => (match Nat.ble t 24 with | true => (match Nat.ble t 23 with | true => none | false => none) | false => (match Nat.ble t 25 with | true => none | false => none)) | false => (match Nat.ble t 28 with | true => (match Nat.ble t 27 with | true => none | false => none) | false => (match Nat.ble t 29 with | true => none | false => none))))) | false => (match Nat.ble t 45 with | true => (match Nat.ble t 37 with | true => (match Nat.ble t 33 with | true => (match Nat.ble t 31 with | true => none | false => (match Nat.ble t 32 with | true => none | false => none)) | false => (match Nat.ble t 35 with | true => (match Nat.ble t 34 with | true => none | false => none) | false => (match Nat.ble t 36 with | true => none | false => none))) | false => (match Nat.ble t 41 with | true => (match Nat.ble t 39 with | true => (match Nat.ble t 38 with | true => none | false => none) | false => (match Nat.ble t 40 with | true => none | false => none)) | false => (match Nat.ble t 43 with | true => (match Nat.ble t 42 with | true => none | false => none) | false => (match Nat.ble t 44 with | true => none | false => none)))) | false => (match Nat.ble t 53 with | true => (match Nat.ble t 49 with | true => (match Nat.ble t 47 with | true => (match Nat.ble t 46 with | true => none | false => none) | false => (match Nat.ble t 48 with | true => none | false => none)) | false => (match Nat.ble t 51 with | true => (match Nat.ble t 50 with | true => none | false => none) | false => (match Nat.ble t 52 with | true => none | false => none))) | false => (match Nat.ble t 57 with | true => (match Nat.ble t 55 with | true => (match Nat.ble t 54 with | true => none | false => none) | false => (match Nat.ble t 56 with | true => none | false => none)) | false => (match Nat.ble t 59 with | true => (match Nat.ble t 58 with | true => none | false => none) | false => (match Nat.ble t 60 with | true => none | false => none)))))) | false => none
def uint64pow10Ints : List Int := [1, 10, 100, 1000, 10000, 100000, 1000000, 10000000, 100000000, 1000000000, 10000000000, 100000000000, 1000000000000, 10000000000000, 100000000000000, 1000000000000000, 10000000000000000, 100000000000000000, 1000000000000000000, 10000000000000000000]
def uint64pow10Vals : List Value := uint64pow10Ints.map fun x => .int .u64 x
def tab : Tab := { sh := tabSh, size := tabSize, zero := tabZero, bytes := tabBytes, flat := tabFlat, key := tabKey, globs := [(0, .tbl uint64pow10Vals)] }
theorem tabOK : TabOK Tryd.prog tab := by
  refine tabOK_of 62 (by kernel_rfl) (fun t ht => ?_)
  have h : Nat.ble t 61 = false := by
    cases e : Nat.ble t 61
    · rfl
    · have := Nat.le_of_ble_eq_true e; omega
  exact ⟨by simp only [tab, tabSh, h], by simp only [tab, tabZero, h], by simp only [tab, tabFlat, h], by simp only [tab, tabKey, h]⟩
theorem mixed : Tryd.prog.follows .mixedOrders = true := by kernel_rfl
end Go.Proofs.YtpnphbjoalbejaaDoor
/- What comes in, told to the engine; package variables; from a contract to a row's walk. Conditions: none. -/
set_option linter.unusedVariables false
set_option linter.unusedSimpArgs false
namespace Go.Sx
open Go
/-- A contract about what came in to be looked at, as a call. -/
theorem Does.callsS {P : Program} {T : Tab} {g : FuncId} {args : List SV} {r : SV} {vs : List Value} {w : World} {η0 : Env} {S : Hps} {k : Nat} (hk : η0.length = k) (sp : Does P T g k args [] S (ValK k r)) (eg : ∀ args w, (callFunc g args).run P w = .ok (.enter g args) w) (hd : DenL η0 args vs)
    (hs : ∀ p ∈ S, HpSat η0 w false (.loc p.1) p.2) (he : ∀ (i : Nat) (e : Ent), η0[i]? = some (some e) → e.g < w.heap.size)
    (hg : ∀ g h, lkp g T.globs = some h → HpSat [] w false (.glob g) h ∧ g < w.heap.size) :
    Calls P g ⟨vs⟩ w fun e w' => ∃ v η', e = .returned v ∧ Den η' r v ∧ FrW w w' fun _ => False := by
  have hmem : ∀ {S : Hps} {i : Nat} {h : Hp}, lkpB (.loc i) (shB S) = some h → (i, h) ∈ S := by
    intro S
    induction S with
    | nil => intro i h hh; simp [shB, lkpB] at hh
    | cons p S ih =>
      intro i h hh
      obtain ⟨j, h'⟩ := p
      simp only [shB, List.map_cons, lkpB, blkEq] at hh
      cases hb : Nat.beq i j with
      | true =>
        rw [hb] at hh
        have := beq_eq hb
        subst this
        injection hh with hh
        subst hh
        exact List.mem_cons_self ..
      | false =>
        rw [hb] at hh
        exact List.mem_cons_of_mem _ (ih hh)
  have hpl : ∀ g h, lkp g T.globs = some h → plainH h = true := by
    intro g h hh
    have := lkp_mem hh
    exact List.all_eq_true.1 T.gplain _ this
  have H : HeapOK ⟨P, ⟨T, 0, shB S, none⟩, w, fun _ => False, η0⟩ η0 w [] k := ⟨List.prefix_rfl, hk, ⟨fun i h hi => by simp [lkp] at hi, fun i j h h' n hi => by simp [lkp] at hi⟩, FrW.refl _ _, fun b h hb => by
    cases b with
    | loc i =>
      exact ⟨hs _ (hmem hb), fun n f => ⟨(hs _ (hmem hb)).feet_lt f, fun h => h⟩⟩
    | glob g =>
      obtain ⟨h1, h2⟩ := hg g h hb
      exact ⟨h1.plain (hpl g h hb), fun n f => ⟨(h1.plain (η' := η0) (hpl g h hb)).feet_lt f, fun h => h⟩⟩⟩
  have hF : (fun _ => False : Nat → Prop) = blocksOf η0 w [] := by
    funext n; simp [blocksOf, lkp]
  rcases sp.out ⟨P, ⟨T, 0, shB S, none⟩, w, fun _ => False, η0⟩ vs rfl rfl hF rfl H hd with ⟨g', h1, h2⟩ | ⟨v, w', h1, _⟩
  · rw [eg] at h1
    injection h1 with h1 _
    injection h1 with h1 _
    subst h1
    refine h2.mono fun e w' hee => ?_
    obtain ⟨v, rfl, r', O', nx', η', ⟨rfl, rfl, rfl⟩, _, h4, h5⟩ := hee
    exact ⟨v, η', rfl, h5, h4.fr⟩
  · rw [eg] at h1; cases h1
end Go.Sx
namespace Go.Our
open Go.RowKit Go.ChangeShapes Go.WideShapes Go.ChangeAt Go.Sx
section
variable {H : Type} {enc : TypeId × Value → H} {P : Program} {w : World}
/-- A slice that came in: what the engine may say of it. -/
def SliceIn (w : World) (v : Value) (es : Nat) (rs : List (List SV)) (en : Option Ent) : Prop :=
  (∀ x, en = some x → x.g < w.heap.size) ∧ ∀ (η : Env) (i : Nat), η[i]? = some en → Den η (.sl (.loc i) 0 es rs.length none) v ∧ HpSat η w false (.loc i) (.rows es rs)
theorem cell_of_cells {base : Nat} {a : Addr} {n : Nat} {cs : List Value} (h : w.cells? base a n = some cs) : cs.length = n ∧ ∀ j, j < n → w.cell? (a.add j) = cs[j]? := ⟨(World.cells?_some h).2.1, (World.cells?_some h).2.2⟩
theorem slice_in {α : Type} {t e : TypeId} {es : Nat} {v : Value} {d : DataW H} {p : List MemPlace} {r : Reach} {b0 : Nat} (cellsL : α → List Value) (dat : α → DataW H) (row : α → List SV) (hes : 0 < es)
    (hlen : ∀ a, (cellsL a).length = es ∧ (row a).length = es) (hrow : ∀ (η : Env) (a : α) (j : Nat) (sv : SV), (row a)[j]? = some sv → ∃ u, (cellsL a)[j]? = some u ∧ u.oneCell' = true ∧ Den η sv u)
    (ht : P.underlying t = some (.slice e)) (hc : P.cellsOf e = es) (el : ∀ fuel cs (x : DataW H × List MemPlace), DataW.trod enc P w 0 (fun _ => true) true fuel e cs = some x → ∃ a : α, cs = cellsL a ∧ x = (dat a, []))
    (ho : Value.okWide P w r b0 t v) (h : DataW.Trod enc P w 0 (fun _ => true) true t v d p) :
    ∃ (l : List α) (en : Option Ent), SliceIn w v es (l.map row) en ∧ ((l = [] ∧ d = .nil) ∨ ∃ z : List α, d = .slice (l.map dat) (z.map dat)) := by
  obtain ⟨fuel, hf⟩ := h
  obtain ⟨a0, l0, c0, rfl⟩ := okWide_slice ht ho
  have hcells : (Value.slice a0 l0 c0).cells.toList = [Value.slice a0 l0 c0] := rfl
  rw [hcells] at hf
  rcases DataW.trod_slice ht hf with ⟨hcs, hx⟩ | ⟨a, len, cap, elems, rest, n, _, hcs, hx, hb, hl, hm, hlen2, hel, hsp, hns⟩
  · injection hcs with hcs _
    injection hx with hx _
    injection hcs with h1 h2 h3
    subst h1 h2 h3 hx
    refine ⟨[], none, ⟨fun x hx => (by cases hx), fun η i hi => ?_⟩, .inl ⟨rfl, rfl⟩⟩
    refine ⟨?_, ?_⟩
    · unfold Den; exact .inl ⟨hi, rfl, rfl⟩
    · unfold HpSat; exact .inl ⟨hi, rfl⟩
  · injection hcs with hcs _
    injection hx with hx _
    injection hcs with h1 h2 h3
    subst h1 h2 h3
    simp only [Value.okWide, ht, Cell.okWide, Cell.ok] at ho
    obtain ⟨_, _, _, hspot, rw', cl, hsh, _⟩ := ho
    obtain ⟨ab, ao, asp⟩ := a
    simp only at hspot hsh
    subst hspot
    obtain ⟨arr, T, fz, hheap⟩ : ∃ arr T fz, w.heap[ab]? = some (.cells arr T fz) := by
      unfold World.shape? at hsh
      split at hsh
      · rename_i c e' f' hh; exact ⟨_, _, _, hh⟩
      · cases hsh
    -- each element
    have each : ∀ (i : Nat) y, (elems ++ rest)[i]? = some y → ∃ x : α, y = (dat x, []) ∧ ∀ j, j < es → w.cell? ⟨ab, ao + i * es + j, none⟩ = (cellsL x)[j]? := by
      intro i y hy
      have hb' : (w.cells? 0 ((⟨ab, ao, none⟩ : Addr).add (i * P.cellsOf e)) (P.cellsOf e)).bind (DataW.trod enc P w 0 (fun _ => true) true n e) = some y := by
        by_cases hi : i < l0
        · rw [hel i hi, ← hy, List.getElem?_append_left (by omega)]
        · obtain ⟨hrl, hr⟩ := hsp rfl
          have hlt := (List.getElem?_eq_some_iff.1 hy).1
          simp only [List.length_append] at hlt
          have := hr (i - l0) (by omega)
          rw [show l0 + (i - l0) = i by omega] at this
          rw [this, ← hy, List.getElem?_append_right (by omega), hlen2]
      obtain ⟨cs', hcs', hy'⟩ := Option.bind_eq_some_iff.1 hb'
      obtain ⟨x, rfl, rfl⟩ := el _ _ _ hy'
      refine ⟨x, rfl, fun j hj => ?_⟩
      rw [hc] at hcs'
      rw [← (cell_of_cells hcs').2 j hj]
      congr 1
      unfold Addr.add
      split <;> split <;> simp_all <;> omega
    have list : ∀ (ys : List (DataW H × List MemPlace)) (k : Nat), (∀ i y, ys[i]? = some y → (elems ++ rest)[k + i]? = some y) → ∃ xs : List α, ys.map (·.1) = xs.map dat ∧ xs.length = ys.length ∧ ∀ (i : Nat) x, xs[i]? = some x → ∀ j, j < es → w.cell? ⟨ab, ao + (k + i) * es + j, none⟩ = (cellsL x)[j]? := by
      intro ys
      induction ys with
      | nil => intro k _; exact ⟨[], rfl, rfl, fun i x hx => by simp at hx⟩
      | cons y ys ih =>
        intro k hk
        obtain ⟨x, hx1, hx2⟩ := each (k + 0) y (hk 0 y rfl)
        obtain ⟨xs, h1, h2, h3⟩ := ih (k + 1) fun i y' hy' => by rw [show k + 1 + i = k + (i + 1) by omega]; exact hk (i + 1) y' (by simpa using hy')
        refine ⟨x :: xs, by simp [h1, hx1], by simp [h2], fun i z hz j hj => ?_⟩
        cases i with
        | zero => simp at hz; subst hz; exact hx2 j hj
        | succ i => simp at hz; rw [show k + (i + 1) = k + 1 + i by omega]; exact h3 i z hz j hj
    obtain ⟨xs, h1, h2, h3⟩ := list elems 0 fun i y hy => by rw [Nat.zero_add, List.getElem?_append_left (List.getElem?_eq_some_iff.1 hy).1]; exact hy
    obtain ⟨zs, h4, _, _⟩ := list rest elems.length fun i y hy => by rw [List.getElem?_append_right (by omega)]; simpa using hy
    refine ⟨xs, some ⟨ab, ao, c0⟩, ⟨fun x hx => ?_, fun η i hi => ⟨?_, ?_⟩⟩, .inr ⟨zs, by rw [hx, h1, h4]⟩⟩
    · injection hx with hx; subst hx; exact (Array.getElem?_eq_some_iff.1 hheap).1
    · simp only [Den, Env.get]
      refine .inr ⟨⟨ab, ao, c0⟩, ao, hi, ?_, ?_, Nat.le_refl _, fun _ => by simp⟩
      · simp only [Option.getD_none, Nat.sub_zero, List.length_map, h2, hlen2]
      · simp only [Option.getD_none, List.length_map, h2, hlen2]; omega
    · simp only [HpSat, Env.get]
      refine .inr ⟨⟨ab, ao, c0⟩, arr, T, fz, hi, hheap, fun h => (by cases h), fun k rw1 hk => ?_⟩
      rw [List.getElem?_map] at hk
      obtain ⟨x, hx, rfl⟩ := Option.map_eq_some_iff.1 hk
      refine ⟨(hlen x).2, fun j sv hj => ?_⟩
      obtain ⟨u, hu1, hu2, hu3⟩ := hrow η x j sv hj
      have hj2 : j < es := by rw [← (hlen x).2]; exact (List.getElem?_eq_some_iff.1 hj).1
      have := h3 k x hx j hj2
      rw [Nat.zero_add, hu1] at this
      unfold World.cell? at this
      simp only [hheap] at this
      exact ⟨u, by simpa using this, hu2, hu3⟩
end
theorem SliceIn.den {α : Type} {W : World} {v : Value} {es : Nat} {l : List α} {row : α → List SV} {en : Option Ent} (h : SliceIn W v es (l.map row) en) {η : Env} {i : Nat} (hi : η[i]? = some en) : Den η (.sl (.loc i) 0 es l.length none) v := by
  have := (h.2 η i hi).1; rwa [List.length_map] at this
theorem SliceIn.sat {W : World} {v : Value} {es : Nat} {rs : List (List SV)} {en : Option Ent} (h : SliceIn W v es rs en) {η : Env} {i : Nat} (hi : η[i]? = some en) : HpSat η W false (.loc i) (.rows es rs) := (h.2 η i hi).2
end Go.Our
namespace Go.Proofs.YtpnphbjoalbejaaDoor
open Go.RowKit Go.Our Go.ChangeShapes Go.WideShapes Go.ChangeAt Go.Sx
/-- What the walk takes for granted of the package variables. -/
abbrev GlobOK (W : World) : Prop := ∀ g h, lkp g tab.globs = some h → HpSat [] W false (.glob g) h ∧ g < W.heap.size
/-- A law that answers true, whatever came in. -/
theorem law_callsS {g : FuncId} {args : List SV} {vs : List Value} {W : World} {η0 : Env} {S : Hps} {k : Nat} (hk : η0.length = k) (sp : Does Tryd.prog tab g k args [] S (ValK k (.bool true))) (eg : ∀ args w, (callFunc g args).run Tryd.prog w = .ok (.enter g args) w) (hd : DenL η0 args vs)
    (hs : ∀ p ∈ S, HpSat η0 W false (.loc p.1) p.2) (he : ∀ (i : Nat) (e : Ent), η0[i]? = some (some e) → e.g < W.heap.size) (hg : GlobOK W) :
    Calls Tryd.prog g ⟨vs⟩ W fun e W' => e = .returned (.bool true) ∧ Below W.heap.size W W' := by
  refine (sp.callsS hk eg hd hs he hg).mono fun e W' ⟨v, η', he, hv, hf⟩ => ?_
  simp only [Den] at hv
  subst hv
  exact ⟨he, hf.os, hf.tape, hf.output, hf.size, fun k hk => hf.block k hk fun h => h⟩
theorem law_calls1 {g : FuncId} {args : List SV} {vs : List Value} {W : World} {v : Value} {es : Nat} {rs : List (List SV)} {en : Option Ent} (h : SliceIn W v es rs en) (sp : Does Tryd.prog tab g 1 args [] [(0, .rows es rs)] (ValK 1 (.bool true))) (eg : ∀ args w, (callFunc g args).run Tryd.prog w = .ok (.enter g args) w) (hd : DenL [en] args vs) (hg : GlobOK W) :
    Calls Tryd.prog g ⟨vs⟩ W fun e W' => e = .returned (.bool true) ∧ Below W.heap.size W W' := by
  refine law_callsS (η0 := [en]) rfl sp eg hd (fun p hp => ?_) (fun i e hi => ?_) hg
  · have hp := List.mem_singleton.1 hp
    subst hp; exact h.sat rfl
  · match i, hi with
    | 0, hi => injection hi with hi; exact h.1 e hi
end Go.Proofs.YtpnphbjoalbejaaDoor
/- From one state of a walk to another that says less; numbers within bounds; words for scripts. Conditions: none. -/
set_option linter.unusedVariables false
set_option linter.unusedSimpArgs false
namespace Go.Sx
open Go

/-! ### The same names -/
section
variable {σ : Nat → Nat}
theorem renB_id (h : ∀ j, σ j = j) : ∀ b, renB σ b = b
  | .glob g => rfl
  | .loc i => by simp only [renB, h]
mutual
theorem ren_id (h : ∀ j, σ j = j) : ∀ v, ren σ v = v
  | .bool _ => rfl
  | .int _ _ => rfl
  | .str _ => rfl
  | .val _ => rfl
  | .any => rfl
  | .nb _ => rfl
  | .dfs l => by simp only [ren, renL_id h l]
  | .yf b => by simp only [ren, renB_id h]
  | .mp b => by simp only [ren, renB_id h]
  | .ptr b _ _ _ => by simp only [ren, renB_id h]
  | .sl b _ _ _ _ => by simp only [ren, renB_id h]
  | .agg cs => by simp only [ren, renL_id h cs]
  | .arr _ rs => by simp only [ren, renLL_id h rs]
  | .tup vs => by simp only [ren, renL_id h vs]
  | .ifc _ v => by simp only [ren, ren_id h v]
  | .fn _ a b => by simp only [ren, renL_id h a, renL_id h b]
theorem renL_id (h : ∀ j, σ j = j) : ∀ vs, renL σ vs = vs
  | [] => rfl
  | c :: cs => by simp only [renL, ren_id h c, renL_id h cs]
theorem renLL_id (h : ∀ j, σ j = j) : ∀ vs, renLL σ vs = vs
  | [] => rfl
  | c :: cs => by simp only [renLL, renL_id h c, renLL_id h cs]
end
theorem renF_id (h : ∀ j, σ j = j) : ∀ fr, renF σ fr = fr
  | [] => rfl
  | (t, v) :: r => by simp only [renF, ren_id h v, renF_id h r]
theorem renH_id (h : ∀ j, σ j = j) : ∀ hp, renH σ hp = hp
  | .box _ => by simp only [renH, renL_id h]
  | .rows _ _ => by simp only [renH, renLL_id h]
  | .siter _ _ => rfl
  | .tbl _ => rfl
  | .bld _ _ _ => rfl
  | .dfr => rfl
  | .lp _ _ fr => by simp only [renH, renF_id h]
  | .mp _ => by simp only [renH, renLL_id h]
end

/-! ### A state cut down -/
def CutFr (m : Nat) (fr : Fr) : Fr → Prop
  | [] => True
  | (t, v) :: r => (lkp t fr = some v ∧ below m v = true) ∧ CutFr m fr r
def CutO (m : Nat) (O : Hps) : Hps → Prop
  | [] => True
  | (i, h) :: r => (lkp i O = some h ∧ Nat.blt i m = true ∧ belowH m h = true) ∧ CutO m O r
theorem CutFr.at {m : Nat} {fr : Fr} : ∀ {fr' : Fr}, CutFr m fr fr' → ∀ t v, lkp t fr' = some v → lkp t fr = some v ∧ below m v = true
  | [], _, t, v, h => by simp [lkp] at h
  | (d, u) :: r, hs, t, v, h => by
    rw [lkp_cons] at h
    split at h
    · rename_i e; subst e; injection h with h; subst h; exact hs.1
    · exact CutFr.at hs.2 t v h
theorem CutO.at {m : Nat} {O : Hps} : ∀ {O' : Hps}, CutO m O O' → ∀ i h, lkp i O' = some h → lkp i O = some h ∧ i < m ∧ belowH m h = true
  | [], _, t, v, h => by simp [lkp] at h
  | (d, u) :: r, hs, t, v, h => by
    rw [lkp_cons] at h
    split at h
    · rename_i e; subst e; injection h with h; subst h
      exact ⟨hs.1.1, by simpa [Nat.blt_eq] using hs.1.2.1, hs.1.2.2⟩
    · exact CutO.at hs.2 t v h
variable {M : Mx} {fr fr' : Fr} {O O' : Hps} {nx : Nat}
theorem GOES.cut {k : Nat} (m : Nat) (hk : M.η0.length = k) (hkm : Nat.ble k m = true) (hmn : Nat.ble m nx = true) (hf : CutFr m fr fr') (hO : CutO m O O') (hd : dsSame fr fr' = true := by rfl) (hro : roSame M.C.ro id m = true := by rfl) : GOES M fr O nx fr' O' m := by
  have hkm := Nat.le_of_ble_eq_true hkm
  have hmn := Nat.le_of_ble_eq_true hmn
  refine ⟨fun η a w hm => ?_⟩
  have hid : ∀ j : Nat, id j = j := fun _ => rfl
  have hbwd : Bwd η (η.take m) id m := fun i x hi hx => by
    simp only [id] at hx
    rw [List.getElem?_take, if_pos hi]; exact hx
  have hlen : (η.take m).length = m := by rw [List.length_take, hm.heap.len]; omega
  refine ⟨η.take m, ⟨?_, hlen, ⟨fun i h hi => ?_, fun i j h h' n hi hj hij f f' => ?_⟩, hm.heap.fr, hm.heap.sok⟩, hm.size, hm.nds, hm.defers.goes hbwd hd (fun v hv => by rw [ren_id hid]; exact hf.at DS v hv), fun l j hj => ?_, fun t v ht => ?_⟩
  · obtain ⟨t, ht⟩ := hm.heap.pre
    refine ⟨t.take (m - k), ?_⟩
    rw [← ht, List.take_append, hk, List.take_of_length_le (l := M.η0) (by omega)]
  · obtain ⟨h1, h2, h3⟩ := hO.at i h hi
    refine ⟨HpSat.unren hbwd h2 h3 ?_, fun n f => (hm.heap.own.1 i h h1).2 n (f.mono (List.take_prefix m η))⟩
    rw [renH_id hid]; exact (hm.heap.own.1 i h h1).1
  · obtain ⟨h1, h2, h3⟩ := hO.at i h hi
    obtain ⟨h4, h5, h6⟩ := hO.at j h' hj
    exact hm.heap.own.2 i j h h' n h1 h4 hij (f.mono (List.take_prefix m η)) (f'.mono (List.take_prefix m η))
  · obtain ⟨h4, _⟩ := roSame_at hro hj
    obtain ⟨e, h6, h7⟩ := hm.ro l j hj
    exact ⟨e, hbwd j _ h4 h6, h7⟩
  · obtain ⟨h1, h2⟩ := hf.at t v ht
    exact Den.unren hbwd h2 (by rw [ren_id hid]; exact hm.frame t v h1)
/-- The same, as a reduction lays it out. -/
def cutK (fr : Fr) : Fr → Prop
  | [] => True
  | (t, v) :: r => match lkp t fr with
    | some u => u = v ∧ cutK fr r
    | none => False
def cutOK (O : Hps) : Hps → Prop
  | [] => True
  | (i, h) :: r => match lkp i O with
    | some g => g = h ∧ cutOK O r
    | none => False
def belowFr (m : Nat) : Fr → Bool
  | [] => true
  | (_, v) :: r => below m v && belowFr m r
def belowO (m : Nat) : Hps → Bool
  | [] => true
  | (i, h) :: r => Nat.blt i m && (belowH m h && belowO m r)
theorem cutK_fr {m : Nat} {fr : Fr} : ∀ {fr' : Fr}, cutK fr fr' → belowFr m fr' = true → CutFr m fr fr'
  | [], _, _ => trivial
  | (t, v) :: r, h, b => by
    simp only [cutK] at h
    simp only [belowFr, Bool.and_eq_true] at b
    split at h
    · rename_i u hu
      obtain ⟨rfl, h⟩ := h
      exact ⟨⟨hu, b.1⟩, cutK_fr h b.2⟩
    · exact h.elim
theorem cutOK_o {m : Nat} {O : Hps} : ∀ {O' : Hps}, cutOK O O' → belowO m O' = true → CutO m O O'
  | [], _, _ => trivial
  | (t, v) :: r, h, b => by
    simp only [cutOK] at h
    simp only [belowO, Bool.and_eq_true] at b
    split at h
    · rename_i u hu
      obtain ⟨rfl, h⟩ := h
      exact ⟨⟨hu, b.1, b.2.1⟩, cutOK_o h b.2.2⟩
    · exact h.elim
theorem GOES.cutting {k m : Nat} (hk : M.η0.length = k) (hkm : Nat.ble k m = true) (hmn : Nat.ble m nx = true) (hbf : belowFr m fr' = true) (hbo : belowO m O' = true) (hf : cutK fr fr') (hO : cutOK O O') (hd : dsSame fr fr' = true := by rfl) (hro : roSame M.C.ro id m = true := by rfl) : GOES M fr O nx fr' O' m :=
  GOES.cut m hk hkm hmn (cutK_fr hf hbf) (cutOK_o hO hbo) hd hro
theorem GOES.trans {fr2 : Fr} {O2 : Hps} {n1 n2 : Nat} (h : GOES M fr O nx fr' O' n1) (k : GOES M fr' O' n1 fr2 O2 n2) : GOES M fr O nx fr2 O2 n2 :=
  ⟨fun η a w hm => let ⟨η1, h1⟩ := h.out η a w hm; k.out η1 a w h1⟩
/-- The empty slice, by a name of its own. -/
theorem GOES.nil (t es : Nat) (h0 : lkp t fr = some (.val (.slice none 0 0))) : GOES M fr O nx ((t, .sl (.loc nx) 0 es 0 none) :: fr) ((nx, .rows es []) :: O) (nx + 1) := by
  refine ⟨fun η a w hm => ?_⟩
  have hpre : η <+: η ++ [none] := List.prefix_append _ _
  have hnew : (η ++ [none])[nx]? = some none := by rw [List.getElem?_append_right (by rw [hm.heap.len]; omega), hm.heap.len]; simp
  refine ⟨η ++ [none], hm.heap.push none (fun _ _ => rfl) (Nat.le_refl _) rfl rfl rfl (Nat.le_refl _) (.inl ⟨hnew, rfl⟩) (fun k f => (feet.none (b := .loc nx) hnew f).elim) (fun k f => (feet.none (b := .loc nx) hnew f).elim), hm.size, hm.nds, ?_, ro_mono hpre hm.ro, fun u v hu => ?_⟩
  · have hdf := hm.defers.mono hpre
    rw [lkp_cons]
    split
    · rename_i e
      rw [e, h0, DfOK.no rfl] at hdf
      rw [DfOK.no rfl]; exact hdf
    · exact hdf
  · rw [lkp_cons] at hu
    split at hu
    · rename_i e; subst e; injection hu with hu; subst hu
      have := hm.frame u _ h0
      simp only [Den] at this ⊢
      exact .inl ⟨hnew, this.1, trivial⟩
    · exact Den.mono hpre (hm.frame u v hu)
theorem LOOP.goes {body : Code} {Q : Post} {n1 : Nat} (h : GOES M fr O nx fr' O' n1) (k : LOOP M body fr' O' n1 Q) : LOOP M body fr O nx Q :=
  ⟨fun η a w hm => let ⟨η1, h1⟩ := h.out η a w hm; k.out η1 a w h1⟩
theorem LOOP.nil {body : Code} {Q : Post} (t es : Nat) (h0 : lkp t fr = some (.val (.slice none 0 0))) (k : LOOP M body ((t, .sl (.loc nx) 0 es 0 none) :: fr) ((nx, .rows es []) :: O) (nx + 1) Q) : LOOP M body fr O nx Q := LOOP.goes (GOES.nil t es h0) k

/-! ### Ends with a new slice -/
theorem FIN.rows {k : Nat} {r : SV} {Q : SV → Hps → Nat → Prop} (hk : M.η0.length = k) (i es len : Nat) {rs : List (List SV)} (hr : r = .sl (.loc i) 0 es len none) (hO : lkp i O = some (.rows es rs)) (hi : Nat.blt i nx = true) (hp : plainLL rs = true)
    (hQ : Q (.sl (.loc k) 0 es len none) [(k, .rows es rs)] (k + 1)) : FIN M O nx r Q := by
  have hi : i < nx := by simpa [Nat.blt_eq] using hi
  have hf : fname k [i] k = i := by simp [fname]
  refine FIN.keep hk [i] (rc := .sl (.loc k) 0 es len none) (Oc := [(k, .rows es rs)]) (fun j hj => by simp at hj; omega) (by rw [hr]; simp only [ren, renB, hf]) (by simp [below, belowB, Nat.blt_eq]) ?_ ?_ hQ
  · intro p hp'
    simp only [List.mem_singleton] at hp'
    subst hp'
    refine ⟨by simp, ?_, by simp only [belowH, plainLL_below _ hp]⟩
    simp only [renH, hf, renLL_plain _ hp, hO]
  · intro j hj j' hj' _
    simp [namesOf] at hj hj'
    omega

/-- A new slice of bytes, and nothing else. -/
def NewBytes (k : Nat) (l : List UInt8) : SV → Hps → Nat → Prop := fun r O nx => r = .sl (.loc k) 0 1 l.length none ∧ O = [(k, .rows 1 (l.map bytesRow))] ∧ nx = k + 1
theorem plainBytes (l : List UInt8) : plainLL (l.map bytesRow) = true := plainLL_map _ (fun _ => rfl) l
theorem cname_ge {L : List Nat} {nx k : Nat} (hL : L.length = k) : cname L nx k = nx := by simp [cname, hL]
theorem CALL.bytes {f : FuncId} {args : List SV} {K : SV → Hps → Nat → Prop} {l : List UInt8} (sp : Does M.P M.C.T f 0 args [] [] (NewBytes 0 l)) (hp : plainL args = true)
    (hK : K (.sl (.loc nx) 0 1 l.length none) ((nx, .rows 1 (l.map bytesRow)) :: O) (nx + 1)) : CALL M f args O nx K := by
  refine CALL.of [] sp rfl (fun i hi => by cases hi) (renL_plain _ hp).symm (plainL_below 0 hp) (fun p hp => by cases hp) (fun j hj => by cases hj) (fun p hp => by cases hp) ?_
  rintro r' O' nx' ⟨rfl, rfl, rfl⟩
  simp only [ren, renB, renO, renH, renLL_plain _ (plainBytes l), cname_ge (L := []) (nx := nx) (k := 0) rfl, namesOf, List.map_nil, outside_nil, List.cons_append, List.nil_append]
  exact hK
/-! ### Loops, told by what changes -/
/-- What stays of a frame. -/
def keepK : List Nat → Fr → (Fr → Prop) → Prop
  | [], fr, K => match lkp DS fr with
    | some v => K [(DS, v)]
    | none => K []
  | t :: ts, fr, K => match lkp t fr with
    | some v => keepK ts fr fun r => K ((t, v) :: r)
    | none => STOP "kept"
def appK : Fr → Fr → (Fr → Prop) → Prop
  | [], r, K => K r
  | (t, v) :: l, r, K => appK l r fun r => K ((t, v) :: r)
def appO : Hps → (Hps → Prop) → Prop
  | [], K => K []
  | (t, v) :: l, K => appO l fun r => K ((t, v) :: r)
theorem keepK_iff : ∀ {ts : List Nat} {fr : Fr} {K : Fr → Prop}, keepK ts fr K → ∃ r, K r
  | [], fr, K, h => by
    simp only [keepK] at h
    split at h
    · exact ⟨_, h⟩
    · exact ⟨_, h⟩
  | t :: ts, fr, K, h => by
    simp only [keepK] at h
    split at h
    · obtain ⟨r, hr⟩ := keepK_iff h; exact ⟨_, hr⟩
    · exact h.out.elim
theorem appK_iff : ∀ {l r : Fr} {K : Fr → Prop}, appK l r K ↔ K (l ++ r)
  | [], r, K => Iff.rfl
  | (t, v) :: l, r, K => by simp only [appK, List.cons_append, appK_iff]
theorem appO_iff : ∀ {l : Hps} {K : Hps → Prop}, appO l K ↔ K l
  | [], K => Iff.rfl
  | (t, v) :: l, K => by simp only [appO, appO_iff]
/-- A loop: of the frame stay the slots ks, and there is what chg tells of a tale x; the heap is Ox of it, by n0 names. -/
theorem LOOP.go {body : Code} {Q : Post} (hT : TabOK M.P M.C.T) (ks : List Nat) {X : Type} (P : X → Prop) (chg : X → Fr) (Ox : X → Hps) (n0 : Nat) (μ : X → Nat) (x0 : X) (hP : P x0)
    (h : keepK ks fr fun fr0 => (appK (chg x0) fr0 fun fr' => appO (Ox x0) fun O' => GOES M fr O nx fr' O' n0) ∧
      ∀ x, P x → appK (chg x) fr0 fun fr1 => appO (Ox x) fun O1 => run M body fr1 O1 n0 fun e fr O nx => match e with
        | .normal => ∃ x', P x' ∧ μ x' < μ x ∧ appK (chg x') fr0 fun fr' => appO (Ox x') fun O' => GOES M fr O nx fr' O' n0
        | e => Q e fr O nx) : LOOP M body fr O nx Q := by
  obtain ⟨fr0, h1, h2⟩ := keepK_iff h
  simp only [appK_iff, appO_iff] at h1 h2
  exact LOOP.inv hT P (fun x => (chg x ++ fr0, Ox x, n0)) μ x0 hP h1 h2

theorem GETG.at {rs : List (List SV)} {i : Nat} {g : Prop} {K : List SV → Prop} {row : List SV} (h : rs[i]? = some row) (k : K row) : GETG g rs i K := ⟨row, fun _ => h, k⟩

/-! ### Numbers within bounds -/
theorem wrap64 {a : Int} (h1 : -9223372036854775808 ≤ a) (h2 : a ≤ 9223372036854775807) : IntKind.i64.wrap a = a := IntWalk.i64_in _ ⟨by omega, by omega⟩
theorem wrap32 {a : Int} (h1 : -2147483648 ≤ a) (h2 : a ≤ 2147483647) : IntKind.i32.wrap a = a := IntWalk.i32_in _ ⟨by omega, by omega⟩
/-! ### What the walk's tests say in plain words: a row of rules under one name -/
theorem hsB : (∀ (p : Prop) [Decidable p], (decide p = true) = p) ∧ (∀ (p : Prop) [Decidable p], (decide p = false) ↔ ¬ p) ∧ (∀ b : Bool, (¬ b = true) = (b = false)) ∧ (∀ b : Bool, (¬ b = false) = (b = true)) ∧ (∀ a b : Bool, ((!a) = b) ↔ (a = !b)) ∧
    ((!true) = false) ∧ ((!false) = true) ∧ (∀ a b : Bool, ((a && b) = true) = (a = true ∧ b = true)) ∧ (∀ a b : Bool, ((a || b) = true) = (a = true ∨ b = true)) ∧ (∀ a b : Bool, ((a && b) = false) = (a = true → b = false)) ∧ (∀ a b : Bool, ((a || b) = false) = (a = false ∧ b = false)) ∧
    (∀ {α : Type} [BEq α] [LawfulBEq α] (a b : α), ((a != b) = true) ↔ a ≠ b) ∧ (∀ {α : Type} [BEq α] [LawfulBEq α] (a b : α), ((a != b) = false) ↔ a = b) ∧ (∀ {α : Type} [BEq α] [LawfulBEq α] (a b : α), ((a == b) = true) ↔ a = b) ∧ (∀ {α : Type} [BEq α] [LawfulBEq α] (a b : α), ((a == b) = false) ↔ a ≠ b) ∧
    (∀ {α : Type} (a b : α), (a ≠ b) = ¬ (a = b)) ∧ (∀ c : Bool, (bif c then c else false) = c) ∧ (∀ a b : Bool, (bif a then b else false) = (a && b)) ∧ (∀ a b : Bool, (bif a then true else b) = (a || b)) ∧ (∀ a b : Bool, (bif a then b else true) = (!a || b)) ∧ (∀ a b : Bool, (bif a then false else b) = (!a && b)) :=
  ⟨fun p _ => by simp, fun p _ => by simp, fun b => by simp, fun b => by simp, fun a b => by cases a <;> cases b <;> simp, rfl, rfl, fun a b => by simp, fun a b => by simp, fun a b => by simp, fun a b => by simp, fun a b => by simp, fun a b => by simp, fun a b => by simp, fun a b => by simp,
    fun a b => rfl, fun c => by cases c <;> rfl, fun a b => by cases a <;> rfl, fun a b => by cases a <;> rfl, fun a b => by cases a <;> rfl, fun a b => by cases a <;> rfl⟩
theorem hsC : (∀ a b : Int, (¬ a < b) ↔ b ≤ a) ∧ (∀ a b : Int, (¬ a ≤ b) ↔ b < a) ∧ (decide True = true) ∧ (decide False = false) ∧ (∀ {α : Type} (a b : α), (bif true then a else b) = a) ∧ (∀ {α : Type} (a b : α), (bif false then a else b) = b) ∧
    (∀ b : Bool, (true || b) = true) ∧ (∀ b : Bool, (b || true) = true) ∧ (∀ b : Bool, (false || b) = b) ∧ (∀ b : Bool, (b || false) = b) ∧ (∀ b : Bool, (true && b) = b) ∧ (∀ b : Bool, (b && true) = b) ∧ (∀ b : Bool, (false && b) = false) ∧ (∀ b : Bool, (b && false) = false) ∧
    (∀ p : Prop, (True ∨ p) = True) ∧ (∀ p : Prop, (p ∨ True) = True) ∧ (∀ p : Prop, (False ∨ p) = p) ∧ (∀ p : Prop, (p ∨ False) = p) ∧ (∀ p : Prop, (True ∧ p) = p) ∧ (∀ p : Prop, (p ∧ True) = p) ∧ (∀ p : Prop, (False ∧ p) = False) ∧ (∀ p : Prop, (p ∧ False) = False) ∧
    ((¬ True) = False) ∧ ((¬ False) = True) ∧ ((false = true) = False) ∧ ((true = false) = False) ∧ (∀ p q : Prop, (¬ (p ∨ q)) ↔ (¬ p ∧ ¬ q)) ∧ (∀ p q : Prop, (¬ (p ∧ q)) ↔ (p → ¬ q)) ∧ (∀ p : Prop, (¬ ¬ p) ↔ p) :=
  ⟨fun a b => Int.not_lt, fun a b => Int.not_le, by simp, by simp, fun a b => rfl, fun a b => rfl, fun b => by simp, fun b => by simp, fun b => by simp, fun b => by simp, fun b => by simp, fun b => by simp, fun b => by simp, fun b => by simp, fun p => by simp, fun p => by simp, fun p => by simp, fun p => by simp, fun p => by simp, fun p => by simp, fun p => by simp, fun p => by simp,
    by simp, by simp, by simp, by simp, fun p q => by simp, fun p q => by simp, fun p => Classical.not_not⟩
theorem lnB : (∀ {α : Type} (a : α) (l : List α), (a :: l).length = l.length + 1) ∧ (∀ {α : Type}, ([] : List α).length = 0) ∧ (∀ {α : Type} (a b : List α), (a ++ b).length = a.length + b.length) ∧ (∀ p : Prop, (True ∧ p) = p) ∧ (∀ p : Prop, (p ∧ True) = p) :=
  ⟨fun a l => rfl, rfl, fun a b => List.length_append, fun p => by simp, fun p => by simp⟩
/-- Room for what is appended: B is no less than an element's bytes. -/
theorem needApp {xs : List (List SV)} {m n k b : Nat} (B : Nat) (hb : Nat.ble b B = true) (hB : Nat.ble 1 B = true) (h1 : xs.length = m) (h2 : n ≤ k) (h3 : (n + m) * B ≤ 140737488355328) : xs.length = m ∧ n ≤ k ∧ n + m ≤ 9223372036854775807 ∧ (n + m) * b ≤ 140737488355328 := by
  have hb := Nat.le_of_ble_eq_true hb
  have hB := Nat.le_of_ble_eq_true hB
  refine ⟨h1, h2, ?_, Nat.le_trans (Nat.mul_le_mul_left _ hb) h3⟩
  have : n + m ≤ (n + m) * B := Nat.le_mul_of_pos_right _ hB
  omega
theorem le_reach {O : Hps} {b : Blk} {r len : Nat} {lim : Option Nat} {n : Nat} (h : n ≤ len) : (n : Int) ≤ (reach O b r len lim : Nat) := by
  have : len ≤ reach O b r len lim := by
    unfold reach
    split
    · exact Nat.le_refl _
    · split
      · exact Nat.le_max_left _ _
      · exact Nat.le_refl _
  omega
/-- The condition of an operation, shown at once. -/
theorem NEED.au {p K : Prop} (k : K) (h : p := by first | with_reducible rfl | omega | (simp (disch := omega) only [lnB, wrap64, wrap32] <;> omega) | (intro h; (try simp (disch := omega) only [hsB, hsC, lnB, wrap64, wrap32, simprocAttr] at h); (first | omega | (simp (disch := omega) only [lnB, wrap64, wrap32] <;> omega))) | (exact needApp 256 rfl rfl (by simp) (by simp) (by omega)) | (exact ⟨by omega, le_reach (by omega)⟩) | (exact ⟨by omega, by omega, le_reach (by omega)⟩) | (simp <;> omega)) : NEED p K := ⟨h, k⟩
end Go.Sx
/- States with other names at a loop's end; lists that grow. Conditions: none. -/
set_option linter.unusedVariables false
set_option linter.unusedSimpArgs false
namespace Go.Sx
open Go
def subK (σ : Nat → Nat) (fr : Fr) : Fr → Prop
  | [] => True
  | (t, v) :: r => match lkp t fr with
    | some u => u = ren σ v ∧ subK σ fr r
    | none => False
def subOK (σ : Nat → Nat) (O : Hps) : Hps → Prop
  | [] => True
  | (i, h) :: r => match lkp (σ i) O with
    | some g => g = renH σ h ∧ subOK σ O r
    | none => False
theorem subK_fr {σ : Nat → Nat} {m : Nat} {fr : Fr} : ∀ {fr' : Fr}, subK σ fr fr' → belowFr m fr' = true → SubFr σ m fr fr'
  | [], _, _ => trivial
  | (t, v) :: r, h, b => by
    simp only [subK] at h
    simp only [belowFr, Bool.and_eq_true] at b
    split at h
    · rename_i u hu
      obtain ⟨rfl, h⟩ := h
      exact ⟨⟨hu, b.1⟩, subK_fr h b.2⟩
    · exact h.elim
theorem subOK_o {σ : Nat → Nat} {m : Nat} {O : Hps} : ∀ {O' : Hps}, subOK σ O O' → belowO m O' = true → SubO σ m O O'
  | [], _, _ => trivial
  | (t, v) :: r, h, b => by
    simp only [subOK] at h
    simp only [belowO, Bool.and_eq_true] at b
    split at h
    · rename_i u hu
      obtain ⟨rfl, h⟩ := h
      exact ⟨⟨b.1, hu, b.2.1⟩, subOK_o h b.2.2⟩
    · exact h.elim
theorem GOES.keeping {M : Mx} {fr : Fr} {O : Hps} {nx k : Nat} {fr' : Fr} {O' : Hps} (hk : M.η0.length = k) (τ : List Nat) (hτ : τ.all (fun i => Nat.blt i nx) = true)
    (hn : (namesOf O').all (fun j => (namesOf O').all fun j' => !(Nat.beq (fname k τ j) (fname k τ j')) || Nat.beq j j') = true)
    (hbf : belowFr (k + τ.length) fr' = true) (hbo : belowO (k + τ.length) O' = true) (hf : subK (fname k τ) fr fr') (hO : subOK (fname k τ) O O') (hd : dsSame fr fr' = true := by rfl) (hro : roSame M.C.ro (fname k τ) (k + τ.length) = true := by rfl) : GOES M fr O nx fr' O' (k + τ.length) :=
  GOES.keep hk τ hτ (subK_fr hf hbf) (subOK_o hO hbo) hn hd hro
theorem sl_eq {b b' : Blk} {r es n n' : Nat} {lim : Option Nat} (hb : b = b') (hn : n = n') : SV.sl b r es n lim = SV.sl b' r es n' lim := by rw [hb, hn]
theorem rows_eq {es : Nat} {rs rs' : List (List SV)} {σ : Nat → Nat} (hp : plainLL rs' = true) (h : rs = rs') : Hp.rows es rs = renH σ (.rows es rs') := by rw [renH_plain σ (h := .rows es rs') hp, h]
theorem Does.mono {P : Program} {T : Tab} {f : FuncId} {k : Nat} {args : List SV} {O S : Hps} {Q Q' : SV → Hps → Nat → Prop} (h : Does P T f k args O S Q) (hq : ∀ r O nx, Q r O nx → Q' r O nx) : Does P T f k args O S Q' :=
  ⟨fun M vs h1 h2 h3 h4 h5 h6 => (h.out M vs h1 h2 h3 h4 h5 h6).mono fun v w' ⟨r, O', nx', η', a, b⟩ => ⟨r, O', nx', η', hq _ _ _ a, b⟩⟩
end Go.Sx
/- Calls among functions that share their names for blocks; empty slices in boxes by names. Conditions: none. -/
set_option linter.unusedVariables false
set_option linter.unusedSimpArgs false
namespace Go.Sx
open Go

/-! ### Names that stay -/
section
variable {σ : Nat → Nat} {k : Nat}
theorem renB_below (h : ∀ j, j < k → σ j = j) : ∀ {b : Blk}, belowB k b = true → renB σ b = b
  | .glob g, _ => rfl
  | .loc i, hb => by simp only [belowB, Nat.blt_eq] at hb; simp only [renB, h i hb]
mutual
theorem ren_below (h : ∀ j, j < k → σ j = j) : ∀ {v : SV}, below k v = true → ren σ v = v
  | .bool _, _ => rfl
  | .int _ _, _ => rfl
  | .str _, _ => rfl
  | .val _, _ => rfl
  | .any, _ => rfl
  | .nb _, _ => rfl
  | .dfs l, hb => by simp only [below] at hb; simp only [ren, renL_below h hb]
  | .yf b, hb => by simp only [below] at hb; simp only [ren, renB_below h hb]
  | .mp b, hb => by simp only [below] at hb; simp only [ren, renB_below h hb]
  | .ptr b _ _ _, hb => by simp only [below] at hb; simp only [ren, renB_below h hb]
  | .sl b _ _ _ _, hb => by simp only [below] at hb; simp only [ren, renB_below h hb]
  | .agg cs, hb => by simp only [below] at hb; simp only [ren, renL_below h hb]
  | .arr _ rs, hb => by simp only [below] at hb; simp only [ren, renLL_below h hb]
  | .tup vs, hb => by simp only [below] at hb; simp only [ren, renL_below h hb]
  | .ifc _ v, hb => by simp only [below] at hb; simp only [ren, ren_below h hb]
  | .fn _ a b, hb => by simp only [below, Bool.and_eq_true] at hb; simp only [ren, renL_below h hb.1, renL_below h hb.2]
theorem renL_below (h : ∀ j, j < k → σ j = j) : ∀ {vs : List SV}, belowL k vs = true → renL σ vs = vs
  | [], _ => rfl
  | c :: cs, hb => by simp only [belowL, Bool.and_eq_true] at hb; simp only [renL, ren_below h hb.1, renL_below h hb.2]
theorem renLL_below (h : ∀ j, j < k → σ j = j) : ∀ {vs : List (List SV)}, belowLL k vs = true → renLL σ vs = vs
  | [], _ => rfl
  | c :: cs, hb => by simp only [belowLL, Bool.and_eq_true] at hb; simp only [renLL, renL_below h hb.1, renLL_below h hb.2]
end
end
variable {M : Mx} {fr fr' : Fr} {O O' : Hps} {nx : Nat}
/-- What a contract owns and looks at stands so in the caller's heap, by the same names. -/
def hereO (O : Hps) : Hps → Prop
  | [] => True
  | (i, h) :: r => match lkp i O with
    | some g => g = h ∧ hereO O r
    | none => False
def hereS (C : Cx) (O : Hps) : Hps → Prop
  | [] => True
  | (i, h) :: r => match hLook C O (.loc i) with
    | some g => g = h ∧ hereS C O r
    | none => False
theorem hereO.at {O : Hps} : ∀ {Oc : Hps}, hereO O Oc → ∀ p ∈ Oc, lkp p.1 O = some p.2
  | [], _, p, hp => by cases hp
  | (i, h) :: r, hs, p, hp => by
    simp only [hereO] at hs
    split at hs
    · rename_i g hg
      obtain ⟨rfl, hs⟩ := hs
      rcases List.mem_cons.1 hp with rfl | hp
      · exact hg
      · exact hereO.at hs p hp
    · exact hs.elim
theorem hereS.at {C : Cx} {O : Hps} : ∀ {Sc : Hps}, hereS C O Sc → ∀ p ∈ Sc, hLook C O (.loc p.1) = some p.2
  | [], _, p, hp => by cases hp
  | (i, h) :: r, hs, p, hp => by
    simp only [hereS] at hs
    split at hs
    · rename_i g hg
      obtain ⟨rfl, hs⟩ := hs
      rcases List.mem_cons.1 hp with rfl | hp
      · exact hg
      · exact hereS.at hs p hp
    · exact hs.elim
theorem belowO_mem {k : Nat} : ∀ {O : Hps}, belowO k O = true → ∀ p ∈ O, p.1 < k ∧ belowH k p.2 = true
  | [], _, p, hp => by cases hp
  | (i, h) :: r, hb, p, hp => by
    simp only [belowO, Bool.and_eq_true, Nat.blt_eq] at hb
    rcases List.mem_cons.1 hp with rfl | hp
    · exact ⟨hb.1, hb.2.1⟩
    · exact belowO_mem hb.2.2 p hp
theorem mem_names : ∀ {S : Hps} {p : Nat × Hp}, p ∈ S → p.1 ∈ namesOf S
  | [], p, hp => by cases hp
  | (i, h) :: S, p, hp => by
    rcases List.mem_cons.1 hp with rfl | hp
    · exact List.mem_cons_self ..
    · exact List.mem_cons_of_mem _ (mem_names hp)
/-- What a contract owns and looks at stands so in the caller's heap, by the caller's names for it. -/
def thereO (σ : Nat → Nat) (O : Hps) : Hps → Prop
  | [] => True
  | (i, h) :: r => match lkp (σ i) O with
    | some g => g = renH σ h ∧ thereO σ O r
    | none => False
def thereS (C : Cx) (σ : Nat → Nat) (O : Hps) : Hps → Prop
  | [] => True
  | (i, h) :: r => match hLook C O (.loc (σ i)) with
    | some g => g = renH σ h ∧ thereS C σ O r
    | none => False
theorem thereO.at {σ : Nat → Nat} {O : Hps} : ∀ {Oc : Hps}, thereO σ O Oc → ∀ p ∈ Oc, lkp (σ p.1) O = some (renH σ p.2)
  | [], _, p, hp => by cases hp
  | (i, h) :: r, hs, p, hp => by
    simp only [thereO] at hs
    split at hs
    · rename_i g hg
      obtain ⟨rfl, hs⟩ := hs
      rcases List.mem_cons.1 hp with rfl | hp
      · exact hg
      · exact thereO.at hs p hp
    · exact hs.elim
theorem thereS.at {C : Cx} {σ : Nat → Nat} {O : Hps} : ∀ {Sc : Hps}, thereS C σ O Sc → ∀ p ∈ Sc, hLook C O (.loc (σ p.1)) = some (renH σ p.2)
  | [], _, p, hp => by cases hp
  | (i, h) :: r, hs, p, hp => by
    simp only [thereS] at hs
    split at hs
    · rename_i g hg
      obtain ⟨rfl, hs⟩ := hs
      rcases List.mem_cons.1 hp with rfl | hp
      · exact hg
      · exact thereS.at hs p hp
    · exact hs.elim
/-- A call, the callee's names being the caller's L, in this order. -/
theorem CALL.at {f : FuncId} {args argsc : List SV} {K : SV → Hps → Nat → Prop} {k : Nat} {Oc Sc : Hps} {Q : SV → Hps → Nat → Prop} (L : List Nat) (sp : Does M.P M.C.T f k argsc Oc Sc Q)
    (hL : L.length = k) (hLn : L.all (fun i => Nat.blt i nx) = true) (ha : args = renL (cname L nx) argsc) (hb : belowL k argsc = true) (hbO : belowO k Oc = true) (hbS : belowO k Sc = true) (hO : thereO (cname L nx) O Oc) (hS : thereS M.C (cname L nx) O Sc)
    (hinj : (namesOf Oc).all (fun j => (namesOf Oc).all fun j' => !(Nat.beq (cname L nx j) (cname L nx j')) || Nat.beq j j') = true)
    (hd : (namesOf Sc).all (fun j => !((namesOf Oc).any fun j' => Nat.beq (cname L nx j) (cname L nx j'))) = true)
    (hK : ∀ r O' nx', Q r O' nx' → K (ren (cname L nx) r) (renO (cname L nx) O' ++ outside ((namesOf Oc).map (cname L nx)) O) (nx + (nx' - k))) : CALL M f args O nx K := by
  refine CALL.of L sp hL (fun i hi => by have := List.all_eq_true.1 hLn i hi; simpa [Nat.blt_eq] using this) ha hb (fun p hp => ?_) (fun j hj j' hj' he => ?_) (fun p hp => ?_) hK
  · obtain ⟨h1, h2⟩ := belowO_mem hbO p hp
    exact ⟨h1, hO.at p hp, h2⟩
  · have := List.all_eq_true.1 (List.all_eq_true.1 hinj j hj) j' hj'
    simp only [he, beq_self, Bool.not_true, Bool.false_or] at this
    exact beq_eq this
  · obtain ⟨h1, h2⟩ := belowO_mem hbS p hp
    refine ⟨h1, hS.at p hp, h2, fun hm => ?_⟩
    obtain ⟨j', hj', he⟩ := List.mem_map.1 hm
    have := List.all_eq_true.1 hd _ (mem_names hp)
    simp only [Bool.not_eq_eq_eq_not, Bool.not_true] at this
    have h3 : (namesOf Oc).any (fun j' => Nat.beq (cname L nx p.1) (cname L nx j')) = true := List.any_eq_true.2 ⟨j', hj', by rw [he]; exact beq_self _⟩
    rw [h3] at this; cases this

/-- An end that tells of blocks: those that came in by their names, and those of τ. -/
theorem FIN.at {k : Nat} {r : SV} {Q : SV → Hps → Nat → Prop} (hk : M.η0.length = k) (τ : List Nat) (rc : SV) (Oc : Hps) (hτ : τ.all (fun i => Nat.blt i nx) = true) (hr : r = ren (fname k τ) rc) (hb : below (k + τ.length) rc = true) (hbO : belowO (k + τ.length) Oc = true)
    (hO : thereO (fname k τ) O Oc) (hinj : (namesOf Oc).all (fun j => (namesOf Oc).all fun j' => !(Nat.beq (fname k τ j) (fname k τ j')) || Nat.beq j j') = true) (hQ : Q rc Oc (k + τ.length)) : FIN M O nx r Q := by
  refine FIN.keep hk τ (rc := rc) (Oc := Oc) (fun i hi => by have := List.all_eq_true.1 hτ i hi; simpa [Nat.blt_eq] using this) hr hb (fun p hp => ?_) (fun j hj j' hj' he => ?_) hQ
  · obtain ⟨h1, h2⟩ := belowO_mem hbO p hp
    exact ⟨h1, hO.at p hp, h2⟩
  · have := List.all_eq_true.1 (List.all_eq_true.1 hinj j hj) j' hj'
    simp only [he, beq_self, Bool.not_true, Bool.false_or] at this
    exact beq_eq this

/-! ### The heap told otherwise ahead of a call -/
theorem CALL.weak {f : FuncId} {args : List SV} {K : SV → Hps → Nat → Prop} {O1 : Hps} {n1 : Nat} (h : ∀ η w, HeapOK M η w O nx → ∃ η', η <+: η' ∧ HeapOK M η' w O1 n1) (hc : CALL M f args O1 n1 K) : CALL M f args O nx K := by
  refine ⟨fun η w vs H hd => ?_⟩
  obtain ⟨η1, hp, H1⟩ := h η w H
  refine (hc.out η1 w vs H1 (DenL.mono hp hd)).mono ?_
  rintro v w' ⟨r, O', nx', η', h1, h2⟩
  exact ⟨r, O', nx', η', hp.trans h1, h2⟩
/-- A row of which less is told. -/
def Loose (k : Nat) : List SV → List SV → Prop
  | _, [] => True
  | [], _ :: _ => False
  | c :: cs, c' :: cs' => (c' = .any ∨ (c' = c ∧ below k c = true)) ∧ Loose k cs cs'
theorem Loose.get {k : Nat} : ∀ {row row' : List SV}, Loose k row row' → ∀ (j : Nat) (sv : SV), row'[j]? = some sv → ∃ c, row[j]? = some c ∧ (sv = .any ∨ (sv = c ∧ below k c = true))
  | _, [], _, j, sv, h => by simp at h
  | [], _ :: _, h, _, _, _ => h.elim
  | c :: cs, c' :: cs', h, 0, sv, hj => by simp at hj; subst hj; exact ⟨c, rfl, h.1⟩
  | c :: cs, c' :: cs', h, j + 1, sv, hj => by simp at hj; obtain ⟨d, h1, h2⟩ := Loose.get h.2 j sv hj; exact ⟨d, by simpa using h1, h2⟩
end Go.Sx
/- UTF-8 in plain words: what stands at a place of a text. No program in sight. -/
set_option linter.unusedVariables false
namespace Go.Our
open Go.Sx

/-- Texts that fit into memory. -/
abbrev Sm (s : List UInt8) : Prop := s.length ≤ 1152921504606846976
/-- A byte as a number. -/
abbrev bn (c : UInt8) : Int := (c.toNat : Int)
def Scalar (r : Int) : Prop := 0 ≤ r ∧ r ≤ 1114111 ∧ (r < 55296 ∨ 57343 < r)
instance (r : Int) : Decidable (Scalar r) := by unfold Scalar; infer_instance
def r2 (a b : Int) : Int := a % 32 * 64 + b % 64
/-! ### Bits of bytes -/
end Go.Our
/- Terms and quads as they are laid. No program in sight. -/
set_option linter.unusedVariables false
set_option linter.unusedSimpArgs false
namespace Go.Our
open Go.Sx
/-- A term: its kind, text, datatype and language. -/
structure Tm where
  k : Int
  t : List UInt8
  y : List UInt8
  l : List UInt8
  deriving DecidableEq
structure Qd where
  s : Tm
  p : Tm
  o : Tm
  g : Tm
  deriving DecidableEq
abbrev TmSm (x : Tm) : Prop := Sm x.t ∧ Sm x.y ∧ Sm x.l
abbrev QdSm (q : Qd) : Prop := TmSm q.s ∧ TmSm q.p ∧ TmSm q.o ∧ TmSm q.g
def Tm.sv (x : Tm) : SV := .agg [.int .i64 x.k, .str x.t, .str x.y, .str x.l]
def Qd.sv (q : Qd) : SV := .agg [.int .i64 q.s.k, .str q.s.t, .str q.s.y, .str q.s.l, .int .i64 q.p.k, .str q.p.t, .str q.p.y, .str q.p.l, .int .i64 q.o.k, .str q.o.t, .str q.o.y, .str q.o.l, .int .i64 q.g.k, .str q.g.t, .str q.g.y, .str q.g.l]
end Go.Our
/- Terms and quads: their order is one total order. No program in sight. -/
set_option linter.unusedVariables false
set_option linter.unusedSimpArgs false
namespace Go.Our
open Go.Sx

/-! ### Three-way comparisons -/
structure Tri {α : Type} (c : α → α → Int) : Prop where
  rng : ∀ a b, c a b = -1 ∨ c a b = 0 ∨ c a b = 1
  anti : ∀ a b, c b a = - c a b
  zero : ∀ a b, c a b = 0 ↔ a = b
  trans : ∀ a b d, c a b ≤ 0 → c b d ≤ 0 → c a d ≤ 0

open Lib (compareBytes)
/-! ### The order of terms and of quads -/
def Tm.key (x : Tm) : Int × List UInt8 × List UInt8 × List UInt8 := (x.k, x.t, x.y, x.l)
def Qd.key (q : Qd) : Tm × Tm × Tm × Tm := (q.g, q.s, q.p, q.o)
/-! ### Lists of quads -/
abbrev Qd.row (q : Qd) : List SV := [.int .i64 q.s.k, .str q.s.t, .str q.s.y, .str q.s.l, .int .i64 q.p.k, .str q.p.t, .str q.p.y, .str q.p.l, .int .i64 q.o.k, .str q.o.t, .str q.o.y, .str q.o.l, .int .i64 q.g.k, .str q.g.t, .str q.g.y, .str q.g.l]
def qdRow (q : Qd) : List SV := q.row
def tmRow (x : Tm) : List SV := [.int .i64 x.k, .str x.t, .str x.y, .str x.l]
theorem Tm.ext' {a b : Tm} (h : tmRow a = tmRow b) : a = b := by
  obtain ⟨_, _, _, _⟩ := a
  obtain ⟨_, _, _, _⟩ := b
  simp only [tmRow, List.cons.injEq, SV.int.injEq, SV.str.injEq, true_and, and_true] at h
  simp_all
theorem Qd.ext' {a b : Qd} (h : qdRow a = qdRow b) : a = b := by
  obtain ⟨⟨_, _, _, _⟩, ⟨_, _, _, _⟩, ⟨_, _, _, _⟩, ⟨_, _, _, _⟩⟩ := a
  obtain ⟨⟨_, _, _, _⟩, ⟨_, _, _, _⟩, ⟨_, _, _, _⟩, ⟨_, _, _, _⟩⟩ := b
  simp only [qdRow, Qd.row, List.cons.injEq, SV.int.injEq, SV.str.injEq, true_and, and_true] at h
  simp_all
end Go.Our
/- Sets as lists that rise: sorted, merged, searched. No program in sight. -/
set_option linter.unusedVariables false
set_option linter.unusedSimpArgs false
set_option linter.unusedSectionVars false
namespace Go.Our
section
variable {α : Type} {c : α → α → Int}
end
section
variable {α : Type} [DecidableEq α] {c : α → α → Int}
/-! ### Sorted, each once -/
/-! ### Merged by the document -/
end
end Go.Our
/- Sets as lists that rise: the document's sort, the program's merges, places in sets. No program in sight. -/
set_option linter.unusedVariables false
set_option linter.unusedSimpArgs false
set_option linter.unusedSectionVars false
namespace Go.Our
section
variable {α : Type} {c : α → α → Int}
/-! ### Merged by the program -/
def wanted (f b s p q : Prop) : Prop := (f ∧ p ∧ ¬ q) ∨ (b ∧ p ∧ q) ∨ (s ∧ ¬ p ∧ q)
end
section
variable {α : Type} [DecidableEq α] {c : α → α → Int}
/-! ### What stands in both, by the document -/
/-! ### The place in a set -/
/-! ### Of equal ones one stays, from the front -/
end
end Go.Our
/- The terms, graphs and labels of a list; the document's sort of terms; renaming. No program in sight. -/
set_option linter.unusedVariables false
set_option linter.unusedSimpArgs false
set_option linter.unusedSectionVars false
namespace Go.Our
section
variable {α : Type} [DecidableEq α] {c : α → α → Int}
end
/-! ### Terms, graphs, labels -/
/-! ### Renaming -/
abbrev Pr := List UInt8 × List UInt8
end Go.Our
/- Maps from texts to numbers, as the engine keeps them: what stands where. No program in sight. -/
set_option linter.unusedVariables false
set_option linter.unusedSimpArgs false
namespace Go.Our
open Go.Sx
abbrev KS : Bool × List CK := (false, [CK.str])
theorem keyIs_str (a b : List UInt8) : keyIs KS (.str a) (.str b) = (a == b) := by simp [keyIs, keyEq, keyCells, cellsEq]
theorem keyOK_str (a : List UInt8) : keyOK KS (.str a) = true := by simp [keyOK, keyEq, keyCells, cellsEq]
/-- A map's rows: each key is a text. -/
def StrRows (rs : List (List SV)) : Prop := ∀ r ∈ rs, ∃ (k : List UInt8) (v : SV), r = [.str k, v]
theorem StrRows.ok {rs : List (List SV)} (h : StrRows rs) : rowsOK KS rs := fun r hr => let ⟨k, v, e⟩ := h r hr; ⟨_, v, e, keyOK_str k⟩
/-- What stands at a key. -/
def valM (rs : List (List SV)) (a : List UInt8) : Option SV := (findM KS (.str a) 0 rs).map Prod.snd
theorem find_shift (key : SV) : ∀ (rs : List (List SV)) (i j : Nat), (findM KS key i rs).map Prod.snd = (findM KS key j rs).map Prod.snd
  | [], i, j => rfl
  | r :: rs, i, j => by
    unfold findM
    split
    · split
      · rfl
      · exact find_shift key rs (i + 1) (j + 1)
    · rfl
theorem valM_cons (k a : List UInt8) (v : SV) (rs : List (List SV)) : valM ([.str k, v] :: rs) a = if a = k then some v else valM rs a := by
  unfold valM
  conv => lhs; unfold findM
  simp only [keyIs_str]
  by_cases e : a = k
  · subst e; simp
  · have : (a == k) = false := by simpa using e
    rw [this, if_neg e]
    exact find_shift _ rs 1 0
theorem valM_append {rs : List (List SV)} (h : StrRows rs) (k a : List UInt8) (v : SV) (hk : valM rs k = none) : valM (rs ++ [[.str k, v]]) a = if a = k then some v else valM rs a := by
  induction rs with
  | nil => rw [List.nil_append, valM_cons]
  | cons r rs ih =>
    obtain ⟨k', v', rfl⟩ := h r (List.mem_cons_self ..)
    rw [valM_cons] at hk
    have hne : k ≠ k' := fun e => by rw [if_pos e] at hk; cases hk
    rw [if_neg hne] at hk
    rw [List.cons_append, valM_cons, valM_cons, ih (fun r hr => h r (List.mem_cons_of_mem _ hr)) hk]
    by_cases e : a = k'
    · subst e; rw [if_pos rfl, if_pos rfl, if_neg (fun e => hne e.symm)]
    · rw [if_neg e, if_neg e]
theorem valM_modify {k : List UInt8} {v : SV} : ∀ {rs : List (List SV)} (h : StrRows rs) {i j : Nat} {u : SV} (hf : findM KS (.str k) i rs = some (i + j, u)) (a : List UInt8), StrRows (rs.modify j (putV v)) ∧ valM (rs.modify j (putV v)) a = if a = k then some v else valM rs a
  | [], h, i, j, u, hf, a => by simp [findM] at hf
  | r :: rs, h, i, j, u, hf, a => by
    obtain ⟨k', v', rfl⟩ := h r (List.mem_cons_self ..)
    have ht : StrRows rs := fun r hr => h r (List.mem_cons_of_mem _ hr)
    unfold findM at hf
    simp only [keyIs_str] at hf
    by_cases e : k = k'
    · subst e
      simp at hf
      obtain ⟨rfl, _⟩ := hf
      rw [List.modify_zero_cons]
      refine ⟨fun r hr => ?_, ?_⟩
      · rcases List.mem_cons.1 hr with rfl | hr
        · exact ⟨k, v, rfl⟩
        · exact ht r hr
      · show valM ([.str k, v] :: rs) a = _
        rw [valM_cons, valM_cons]
        by_cases e : a = k
        · rw [if_pos e, if_pos e]
        · rw [if_neg e, if_neg e, if_neg e]
    · have hb : (k == k') = false := by simpa using e
      rw [hb] at hf
      simp only at hf
      cases j with
      | zero =>
        have hge : ∀ (rs : List (List SV)) (m n : Nat) (x : SV), findM KS (.str k) m rs = some (n, x) → m ≤ n := by
          intro rs
          induction rs with
          | nil => intro m n x hh; simp [findM] at hh
          | cons r rs ih =>
            intro m n x hh
            unfold findM at hh
            split at hh
            · split at hh
              · injection hh with hh; injection hh with h1 h2; omega
              · have := ih _ _ _ hh; omega
            · cases hh
        have := hge _ _ _ _ hf
        omega
      | succ j =>
        obtain ⟨h1, h2⟩ := valM_modify ht (i := i + 1) (j := j) (u := u) (by rw [hf, show i + 1 + j = i + (j + 1) by omega]) a
        rw [List.modify_succ_cons]
        refine ⟨fun r hr => ?_, ?_⟩
        · rcases List.mem_cons.1 hr with rfl | hr
          · exact ⟨k', v', rfl⟩
          · exact h1 r hr
        · rw [valM_cons, valM_cons, h2]
          by_cases e2 : a = k'
          · subst e2; rw [if_pos rfl, if_pos rfl, if_neg (fun e3 => e e3.symm)]
          · rw [if_neg e2, if_neg e2]
theorem valM_set {rs : List (List SV)} (h : StrRows rs) (k : List UInt8) (v : SV) (a : List UInt8) : StrRows (setM KS (.str k) v rs) ∧ valM (setM KS (.str k) v rs) a = if a = k then some v else valM rs a := by
  unfold setM
  cases hf : findM KS (.str k) 0 rs with
  | none =>
    simp only
    refine ⟨fun r hr => ?_, valM_append h k a v (by unfold valM; rw [hf]; rfl)⟩
    rcases List.mem_append.1 hr with hr | hr
    · exact h r hr
    · have := List.mem_singleton.1 hr; subst this; exact ⟨k, v, rfl⟩
  | some x =>
    obtain ⟨j, u⟩ := x
    simp only
    exact valM_modify h (i := 0) (j := j) (u := u) (by rw [hf, Nat.zero_add]) a
/-! ### The first place of each label -/
end Go.Our
/- Fresh labels: what they are, how many tries they take; maps that count texts. No program in sight. -/
set_option linter.unusedVariables false
set_option linter.unusedSimpArgs false
namespace Go.Our
open Go.Sx Go.Lib
theorem dec_len (u : Nat) : (decDigits u).length ≤ u + 1 := by
  induction u using Nat.strongRecOn with
  | _ u ih =>
    rw [decDigits]
    split
    · simp
    · have := ih (u / 10) (by omega)
      rw [List.length_append, List.length_singleton]
      omega
/-- What a numeral's digits come to. -/
def numOf (l : List UInt8) : Nat := l.foldl (fun a c => a * 10 + (c.toNat - 48)) 0
theorem numOf_dec (u : Nat) : numOf (decDigits u) = u := by
  induction u using Nat.strongRecOn with
  | _ u ih =>
    rw [decDigits]
    split
    · rename_i h
      simp only [numOf, List.foldl_cons, List.foldl_nil, Nat.zero_mul, Nat.zero_add, UInt8.toNat_ofNat']
      omega
    · rename_i h
      have := ih (u / 10) (by omega)
      unfold numOf at this ⊢
      rw [List.foldl_append, this]
      simp only [List.foldl_cons, List.foldl_nil, UInt8.toNat_ofNat']
      omega
/-- The label number i. -/
def lab (i : Nat) : List UInt8 := 98 :: decDigits i
theorem lab_inj {i j : Nat} (h : lab i = lab j) : i = j := by
  have := congrArg (fun l => numOf l.tail) h
  simpa [lab, numOf_dec] using this
/-- What is given out after i tries. -/
def freshL (used : List (List UInt8)) (i : Nat) : List (List UInt8) := ((List.range i).map fun j => lab (j + 1)).filter fun s => decide (s ∉ used)
theorem freshL_zero (used : List (List UInt8)) : freshL used 0 = [] := rfl
theorem freshL_succ (used : List (List UInt8)) (i : Nat) : freshL used (i + 1) = freshL used i ++ (if lab (i + 1) ∈ used then [] else [lab (i + 1)]) := by
  unfold freshL
  rw [List.range_succ, List.map_append, List.filter_append]
  congr 1
  by_cases h : lab (i + 1) ∈ used <;> simp [h]
theorem freshL_len (used : List (List UInt8)) (i : Nat) : (freshL used i).length ≤ i := by
  unfold freshL
  exact Nat.le_trans (List.length_filter_le _ _) (by simp)
theorem len_split {α : Type} (p : α → Bool) : ∀ l : List α, l.length = (l.filter p).length + (l.filter fun x => !p x).length
  | [] => rfl
  | a :: l => by
    have := len_split p l
    cases h : p a <;> simp [h] <;> omega
theorem len_sub {α : Type} [BEq α] [LawfulBEq α] : ∀ {l u : List α}, l.Nodup → (∀ x ∈ l, x ∈ u) → l.length ≤ u.length
  | [], u, _, _ => Nat.zero_le _
  | a :: l, u, hn, hs => by
    have ha := hs a (List.mem_cons_self ..)
    have hn' := List.nodup_cons.1 hn
    have := len_sub (u := u.erase a) hn'.2 (fun x hx => (List.mem_erase_of_ne (fun (e : x = a) => hn'.1 (by rw [← e]; exact hx))).2 (hs x (List.mem_cons_of_mem _ hx)))
    rw [List.length_erase_of_mem ha] at this
    have := List.length_pos_of_mem ha
    simp only [List.length_cons]
    omega
/-- No more tries are lost than there are labels in use. -/
theorem freshL_lost (used : List (List UInt8)) (i : Nat) : i ≤ used.length + (freshL used i).length := by
  have h := len_split (fun s => decide (s ∉ used)) ((List.range i).map fun j => lab (j + 1))
  rw [List.length_map, List.length_range] at h
  have hnd : (((List.range i).map fun j => lab (j + 1)).filter fun s => !decide (s ∉ used)).Nodup := by
    refine List.Pairwise.filter _ ?_
    exact List.Pairwise.map _ (fun a b hab e => hab (by have := lab_inj e; omega)) List.nodup_range
  have hsub : ∀ s, s ∈ (((List.range i).map fun j => lab (j + 1)).filter fun s => !decide (s ∉ used)) → s ∈ used := by
    intro s hs
    have := (List.mem_filter.1 hs).2
    simpa using this
  have hle := len_sub hnd hsub
  unfold freshL
  omega
theorem freshL_take (used : List (List UInt8)) {i j : Nat} (h : i ≤ j) : (freshL used j).take (freshL used i).length = freshL used i := by
  obtain ⟨d, rfl⟩ := Nat.le.dest h
  induction d with
  | zero => simp
  | succ d ih =>
    rw [← Nat.add_assoc, freshL_succ, List.take_append_of_le_length ?_, ih (by omega)]
    have := congrArg List.length (ih (by omega))
    rw [List.length_take] at this
    omega
/-- So many fresh labels. -/
def fresh (used : List (List UInt8)) (n : Nat) : List (List UInt8) := (freshL used (used.length + n)).take n
theorem fresh_of (used : List (List UInt8)) {i n : Nat} (h : (freshL used i).length = n) : freshL used i = fresh used n := by
  have h1 := freshL_lost used i
  rw [h] at h1
  unfold fresh
  rw [← freshL_take used h1, h]
def lbRow (s : List UInt8) : List SV := [.str s]
theorem plainLbs (l : List (List UInt8)) : plainLL (l.map lbRow) = true := plainLL_map _ (fun _ => rfl) l
theorem lb_get {l z : List (List UInt8)} {i k : Nat} (h : i < l.length) (e : k = i) : ((l ++ z).map lbRow)[k]? = some (lbRow l[i]) := by subst e; rw [List.getElem?_map, List.getElem?_append_left h, List.getElem?_eq_getElem h]; rfl
/-! ### A map that counts -/
theorem cnt_plain {rs : List (List SV)} (h : plainLL rs = true) (k : List UInt8) (i : Int) : plainLL (setM KS (.str k) (.int .i64 i) rs) = true := by
  have iff : ∀ rs : List (List SV), plainLL rs = true ↔ ∀ r ∈ rs, plainL r = true := by
    intro rs
    induction rs with
    | nil => simp [plainLL]
    | cons r rs ih => simp [plainLL, ih]
  rw [iff] at h ⊢
  unfold setM
  split
  · intro r hr
    obtain ⟨j, hj, rfl⟩ := List.mem_iff_getElem.1 hr
    rw [List.getElem_modify]
    have h0 := h (rs[j]'(by simpa using hj)) (List.getElem_mem _)
    split
    · generalize rs[j]'(by simpa using hj) = r0 at h0
      unfold putV
      split
      · simp only [plainL, plain, Bool.and_true] at h0 ⊢
        simpa using (by simpa using h0 : plain _ = true ∧ plain _ = true).1
      · exact h0
    · exact h0
  · intro r hr
    rcases List.mem_append.1 hr with hr | hr
    · exact h r hr
    · have := List.mem_singleton.1 hr; subst this; rfl
/-- The map's rows tell, of each text of the list, a number above naught; of no other a thing. -/
structure Cnt (l : List (List UInt8)) (rs : List (List SV)) : Prop where
  str : StrRows rs
  plain : plainLL rs = true
  out : ∀ a, a ∉ l → valM rs a = none
  mem : ∀ a, a ∈ l → ∃ k : Nat, 0 < k ∧ k ≤ l.length ∧ valM rs a = some (.int .i64 (k : Int))
theorem belowH_cnt {m : Nat} {l : List (List UInt8)} {rs : List (List SV)} (h : Cnt l rs) : belowH m (.mp rs) = true := by simp only [belowH, plainLL_below _ h.plain]
theorem Cnt.nil : Cnt [] [] := ⟨fun _ h => (List.not_mem_nil h).elim, rfl, fun _ _ => rfl, fun _ h => (List.not_mem_nil h).elim⟩
theorem Cnt.step {l : List (List UInt8)} {rs : List (List SV)} (h : Cnt l rs) (s : List UInt8) {k : Nat} (h0 : 0 < k) (h1 : k ≤ l.length + 1) : Cnt (l ++ [s]) (setM KS (.str s) (.int .i64 (k : Int)) rs) := by
  refine ⟨(valM_set h.str s _ []).1, cnt_plain h.plain s _, fun a ha => ?_, fun a ha => ?_⟩
  · rw [List.mem_append, List.mem_singleton, not_or] at ha
    rw [(valM_set h.str s _ a).2, if_neg ha.2]
    exact h.out a ha.1
  · rw [(valM_set h.str s _ a).2]
    by_cases e : a = s
    · rw [if_pos e]; exact ⟨k, h0, by simpa using h1, rfl⟩
    · rw [if_neg e]
      have : a ∈ l := by simpa [e] using ha
      obtain ⟨k', g0, g1, g2⟩ := h.mem a this
      exact ⟨k', g0, by simp; omega, g2⟩
theorem Cnt.found {l : List (List UInt8)} {rs : List (List SV)} (h : Cnt l rs) {s : List UInt8} {i : Nat} {v : SV} (hf : findM KS (.str s) 0 rs = some (i, v)) : s ∈ l ∧ ∃ k : Nat, 0 < k ∧ k ≤ l.length ∧ v = .int .i64 (k : Int) := by
  have h1 : valM rs s = some v := by unfold valM; rw [hf]; rfl
  by_cases hs : s ∈ l
  · obtain ⟨k, g0, g1, g2⟩ := h.mem s hs
    rw [h1] at g2
    injection g2 with g2
    exact ⟨hs, k, g0, g1, g2⟩
  · rw [h.out s hs] at h1; cases h1
theorem Cnt.lost {l : List (List UInt8)} {rs : List (List SV)} (h : Cnt l rs) {s : List UInt8} (hf : findM KS (.str s) 0 rs = none) : s ∉ l := by
  have h1 : valM rs s = none := by unfold valM; rw [hf]; rfl
  intro hs
  obtain ⟨k, g0, g1, g2⟩ := h.mem s hs
  rw [h1] at g2; cases g2
end Go.Our
/- Slices of texts that come in; what the table of powers of ten holds. Conditions: none. -/
set_option linter.unusedVariables false
set_option linter.unusedSimpArgs false
namespace Go.Proofs.YtpnphbjoalbejaaDoor
open Go.RowKit Go.Our Go.ChangeShapes Go.WideShapes Go.ChangeAt Go.Sx
section
variable {H : Type} {enc : TypeId × Value → H} {w : World} {base : Nat} {sp : Nat → Bool} {held : Bool}
abbrev lbV (s : List UInt8) : Value := .string ⟨s.toArray⟩
abbrev lbL (x : List UInt8) : List Value := [lbV x]
def lbD (x : List UInt8) : DataW H := .lit (.string x)
theorem cellsOfLb : Tryd.prog.cellsOf 9 = 1 := by kernel_rfl
theorem lbV_of (s : ByteArray) : Value.string s = lbV s.data.toList := by cases s; rfl
theorem lbRow_den (η : Env) (q : List UInt8) (j : Nat) (sv : SV) (h : (lbRow q)[j]? = some sv) : ∃ u, (lbL q)[j]? = some u ∧ u.oneCell' = true ∧ Den η sv u := by
  have hlt := (List.getElem?_eq_some_iff.1 h).1
  have hl : (lbRow q).length = 1 := rfl
  rw [hl] at hlt
  match j, hlt with
  | 0, _ => injection h with h; subst h; exact ⟨_, rfl, rfl, by simp only [Den]⟩
theorem trod_lb {fuel : Nat} {cs : List Value} {x : DataW H × List MemPlace} (h : DataW.trod enc Tryd.prog w base sp held fuel 9 cs = some x) :
    ∃ t : List UInt8, cs = lbL t ∧ x = (lbD t, []) := by
  obtain ⟨s1, hs1, rfl, w1⟩ := DataW.trod_string Tryd.underlying9 h
  exact ⟨s1.data.toList, by rw [hs1, lbV_of], rfl⟩
set_option maxRecDepth 100000 in
theorem read_lbs {v : Value} {d : DataW H} {p : List MemPlace} {r : Reach} {b0 : Nat} (ho : Value.okWide Tryd.prog w r b0 22 v) (h : DataW.Trod enc Tryd.prog w 0 (fun _ => true) true 22 v d p) :
    ∃ (l : List (List UInt8)) (en : Option Ent), SliceIn w v 1 (l.map lbRow) en ∧ ((l = [] ∧ d = .nil) ∨ ∃ z : List (List UInt8), d = .slice (l.map lbD) (z.map lbD)) :=
  slice_in lbL lbD lbRow (by omega) (fun a => ⟨rfl, rfl⟩) lbRow_den Tryd.underlying22 cellsOfLb (fun fuel cs x hx => trod_lb hx) ho h
theorem bytesOfLb : Tryd.prog.bytesOf 9 = 16 := by kernel_rfl
theorem lbs_small {l : List (List UInt8)} {d : DataW H} (hd : (l = [] ∧ d = .nil) ∨ ∃ z : List (List UInt8), d = .slice (l.map lbD) (z.map lbD)) (h : (d.weights Tryd.prog 22).all (fun n => decide (n ≤ reachBytes)) = true) : l.length * 16 ≤ 140737488351232 := by
  rcases hd with ⟨rfl, rfl⟩ | ⟨z, rfl⟩
  · simp
  · simp only [DataW.weights, Tryd.underlying22, bytesOfLb, List.length_map, List.all_cons, List.all_append, Bool.and_eq_true, decide_eq_true_eq] at h
    obtain ⟨h1, h2, _⟩ := h
    unfold reachBytes at h1
    rw [Nat.add_mul] at h1
    omega
end
theorem globOf {W : World} {l : List (String × DataW Unit)} (hl1 : (l.filter fun x => x.2.handleName?.isNone).filter (fun x => x.1 == "internal/strconv.uint64pow10") = [("internal/strconv.uint64pow10", Lib.tabData .u64 uint64pow10Ints)]) (h : laidMetH Tryd.prog l W) : GlobOK W := by
  have h1 := laidMet.filter (fun x => x.1 == "internal/strconv.uint64pow10") (laidMetH_iff.1 h).1
  rw [hl1] at h1
  have hT1 : Lib.TabIs Tryd.prog W "internal/strconv.uint64pow10" .u64 uint64pow10Ints :=
    Lib.tabIs_of_head (rest := []) (g := 0) (by kernel_rfl) (by kernel_rfl) Tryd.underlying37 Tryd.underlying30 (by kernel_rfl) (by kernel_rfl) h1
  have hgn : Tryd.prog.globalNamed "internal/strconv.uint64pow10" = some 0 := by kernel_rfl
  unfold Lib.TabIs World.var? at hT1
  rw [hgn] at hT1
  simp only [Option.bind_some] at hT1
  split at hT1
  case h_2 => cases hT1
  rename_i cs T fz hh
  injection hT1 with hT1
  intro g h hg
  simp only [tab] at hg
  rw [lkp_cons] at hg
  split at hg
  · rename_i eg
    subst eg
    injection hg with hg
    subst hg
    refine ⟨?_, (Array.getElem?_eq_some_iff.1 hh).1⟩
    simp only [HpSat]
    exact ⟨⟨0, 0, 0⟩, rfl, rfl, T, fz, by rw [hh, hT1]; rfl⟩
  · simp [lkp] at hg
end Go.Proofs.YtpnphbjoalbejaaDoor
/- The reference's number, walked. Conditions: none. -/
set_option linter.unusedVariables false
set_option linter.unusedSimpArgs false
set_option maxRecDepth 20000
set_option maxHeartbeats 8000000
namespace Go.Proofs.YtpnphbjoalbejaaDoor
open Go.Sx Go.Our Go.Lib
theorem number_does (k : Nat) (hk0 : 0 < k) (hk : k < 4611686018427387904) : Does Tryd.prog tab 7 0 [.int .i64 (k : Int)] [] [] (Val (.str (decDigits k))) := by
  refine Does.enter tabOK (g := 7) (fn := Tryd.f7) Tryd.call7 Tryd.func7 rfl 17 rfl rfl [.tmp 2] rfl ?_
  intro w0 F η0 h0
  conv => whnf
  refine LOOP.go tabOK [] (X := Nat × List UInt8) (fun x => x.1 ≤ k ∧ x.2.length + x.1 ≤ k ∧ (if x.1 = 0 then x.2 else decDigits x.1 ++ x.2) = decDigits k) (fun x => [(0, .int .i64 (x.1 : Int)), (3, .str x.2)]) (fun _ => []) 0 (fun x => x.1) (k, []) ⟨Nat.le_refl _, by simp, by rw [if_neg (by show ¬ k = 0; omega)]; simp⟩ ?_
  conv => whnf
  refine ⟨by (refine GOES.cutting h0 rfl rfl rfl (by first | rfl | simp [belowO, belowH, plainLL_below, plainLL_map, plainL, plain]) ?_ ?_ <;> (repeat' (first | (with_reducible rfl) | (exact congrArg (fun n => SV.sl _ _ _ n _) (by simp)) | (exact congrArg (Hp.rows _) (by simp)) | (exact congrArg (SV.int _) (by first | omega | (simp (disch := omega) only [lnB, wrap64, wrap32] <;> omega) | (simp; done) | (simp <;> omega))) | ((conv => whnf); refine ⟨?_, ?_⟩) | exact trivial | (simp; done) | rfl))), ?_⟩
  rintro ⟨n, s⟩ ⟨hn, hs, hd⟩
  dsimp only at hn hs hd
  have h1 : (n : Int).tmod 10 = ((n % 10 : Nat) : Int) := by rw [Int.tmod_eq_emod_of_nonneg (by omega)]; omega
  have h2 : (n : Int).tdiv 10 = ((n / 10 : Nat) : Int) := by rw [Int.tdiv_eq_ediv_of_nonneg (by omega)]; omega
  have h3 : IntKind.u8.wrap (IntKind.i64.wrap (48 + (n : Int).tmod 10)) = (((UInt8.ofNat (48 + n % 10)).toNat : Nat) : Int) := by
    rw [h1, wrap64 (by omega) (by omega), IntWalk.u8_in _ ⟨by omega, by omega⟩, UInt8.toNat_ofNat']; omega
  have h4 : IntKind.i64.wrap ((n : Int).tdiv 10) = ((n / 10 : Nat) : Int) := by rw [h2, wrap64 (by omega) (by omega)]
  have hc : ([[SV.int IntKind.u8 (IntKind.u8.wrap (IntKind.i64.wrap (48 + (n : Int).tmod 10)))]] : List (List SV)) = [UInt8.ofNat (48 + n % 10)].map Go.Sx.bytesRow := by rw [h3]; rfl
  conv => whnf
  repeat' ((first | with_reducible refine IF.tt ?_ | with_reducible refine IF.ff ?_ | (refine NEED.mk ⟨rfl, _, hc⟩ ?_; conv => whnf) | (refine NEED.mk (by simp; omega) ?_; conv => whnf) | refine NEED.au ?_ | ((with_reducible apply GET.at); rfl) | ((with_reducible apply GETG.at); rfl) | ((with_reducible refine UNK.mk (fun h => ?_) ?_) <;> try (exfalso; omega)) | ((with_reducible refine IF.mk (fun h => ?_) (fun h => ?_)) <;> (try simp (disch := omega) only [hsB, hsC, lnB, wrap64, wrap32, simprocAttr] at h) <;> try (exfalso; omega))) <;> conv => whnf)
  · have hb : List.map rowByte (List.take 1 (List.drop 0 [[SV.int IntKind.u8 (IntKind.u8.wrap (IntKind.i64.wrap (48 + (n : Int).tmod 10)))]])) = [UInt8.ofNat (48 + n % 10)] := by
      rw [h3]
      show [UInt8.ofNat (((UInt8.ofNat (48 + n % 10)).toNat : Nat) : Int).toNat] = _
      rw [Int.toNat_natCast, UInt8.ofNat_toNat]
    have hn0 : 0 < n := by omega
    refine ⟨(n / 10, [UInt8.ofNat (48 + n % 10)] ++ s), ⟨by dsimp only; omega, by simp; omega, ?_⟩, by dsimp only; omega, ?_⟩
    · dsimp only
      rw [← hd, if_neg (show ¬ n = 0 by omega)]
      conv => rhs; rw [decDigits]
      by_cases h9 : n < 10
      · rw [if_pos (show n / 10 = 0 by omega), dif_pos h9, Nat.mod_eq_of_lt h9]
      · rw [if_neg (show ¬ n / 10 = 0 by omega), dif_neg h9, List.append_assoc]
    · dsimp only
      rw [h4, hb]
      conv => whnf
      (refine GOES.cutting h0 rfl rfl rfl (by first | rfl | simp [belowO, belowH, plainLL_below, plainLL_map, plainL, plain]) ?_ ?_ <;> (repeat' (first | (with_reducible rfl) | (exact congrArg (fun n => SV.sl _ _ _ n _) (by simp)) | (exact congrArg (Hp.rows _) (by simp)) | (exact congrArg (SV.int _) (by first | omega | (simp (disch := omega) only [lnB, wrap64, wrap32] <;> omega) | (simp; done) | (simp <;> omega))) | ((conv => whnf); refine ⟨?_, ?_⟩) | exact trivial | (simp; done) | rfl)))
  · have hn0 : n = 0 := by omega
    refine FIN.value h0 rfl (congrArg SV.str ?_)
    rw [← hd, if_pos hn0]
end Go.Proofs.YtpnphbjoalbejaaDoor
/- Calls walked in place, in the caller's own heap; ranges over functions, the function's walk and the rounds in one. Conditions: none. -/
set_option linter.unusedVariables false
set_option linter.unusedSimpArgs false
namespace Go.Sx
open Go
/-- The same, in another frame, and with these names for what lay there. -/
def Mx.at (M : Mx) (N : Nat) (ro : Option (Nat × Nat)) (η : Env) : Mx := ⟨M.P, ⟨M.C.T, N, M.C.S, ro⟩, M.w0, M.F, η⟩
/-- What stands at the end of a function that is walked in place. -/
def endI (M : Mx) (res : List ResultVar) (K : SV → Hps → Nat → Prop) : Post
  | .normal, fr, O, nx => offGo fr O fun O => retGo M.C fr O res fun vs => K (oneOf vs) O nx
  | .ret, fr, O, nx => offGo fr O fun O => retGo M.C fr O res fun vs => K (oneOf vs) O nx
  | .exit _, _, _, _ => STOP "exit"
/-- The arguments of a round in the slots of what is yielded. -/
def putAK : List Nat → List SV → Fr → (Fr → Prop) → Prop
  | [], ags, fr, K => match ags with
    | [] => match isDfs (lkp DS fr) with
      | true => STOP "round"
      | false => K fr
    | _ :: _ => STOP "round"
  | p :: ps, ags, fr, K => match ags with
    | a :: ags => putAK ps ags ((p, a) :: fr) K
    | [] => STOP "round"
/-- A round's end. -/
def roundB (j : Nat) (K : SV → Hps → Nat → Prop) : Post := fun e fr O nx => match lkp j O with
  | some h => match h with
    | .lp st li fr0 => match st with
      | .busy => match e with
        | .normal => setKK j (.lp .ready li fr0) O fun O => K (.bool true) O nx
        | .ret => setKK j (.lp (.left none) li fr0) O fun O => K (.bool false) O nx
        | .exit id => setKK j (.lp (.left (some id)) li fr0) O fun O => K (.bool false) O nx
      | _ => STOP "record"
    | _ => STOP "record"
  | none => STOP "record"
/-- The body of a round, behind the assignments. -/
def roundA (M : Mx) (j : Nat) (body : Code) (K : SV → Hps → Nat → Prop) : Post := fun e fr O nx => match e with
  | .normal => match lkp j O with
    | some h => match h with
      | .lp st li fr0 => match st with
        | .ready => setKK j (.lp .busy li fr0) O fun O => run M body fr O nx (roundB j K)
        | _ => STOP "record"
      | _ => STOP "record"
    | none => STOP "record"
  | _ => STOP "assignment"
/-- A frame without the calls that are put off. -/
def noDS : Fr → (Fr → Prop) → Prop
  | [], K => K []
  | (t, v) :: r, K => match Nat.beq t DS with
    | true => noDS r K
    | false => noDS r fun r => K ((t, v) :: r)
/-- The frame behind a loop: the place for what its rounds put off is marked. -/
def addDS (fr : Fr) (d : Nat) (K : Fr → Prop) : Prop := match lkp DS fr with
  | some v => match v with
    | .dfs l => K ((DS, .dfs (.ptr (.loc d) 0 0 0 :: l)) :: fr)
    | _ => K ((DS, .dfs [.ptr (.loc d) 0 0 0]) :: fr)
  | none => K ((DS, .dfs [.ptr (.loc d) 0 0 0]) :: fr)
/-- Behind the function that was ranged over: ags the rounds have left the loop. -/
def rangeK (j : Nat) (frK : (Fr → Prop) → Prop) (Q : Post) : SV → Hps → Nat → Prop := fun _ O nx => match lkp j O with
  | some h => match h with
    | .lp st _ _ => match st with
      | .ready => delKK j O fun O => frK fun fr => Q .normal fr O nx
      | .busy => STOP "record"
      | .left jump => match jump with
        | none => delKK j O fun O => frK fun fr => Q .ret fr O nx
        | some id => delKK j O fun O => frK fun fr => Q (.exit id) fr O nx
    | _ => STOP "record"
  | none => STOP "record"
section
variable {M : Mx} {η : Env} {w : World} {O : Hps} {nx : Nat}
theorem SOK.longer (h : SOK M) {η : Env} (hp : M.η0 <+: η) {N : Nat} {ro : Option (Nat × Nat)} : SOK (M.at N ro η) := by
  intro b hh hb
  have hb' : lkS M.C b = some hh := by cases b <;> exact hb
  obtain ⟨h1, h2⟩ := h b hh hb'
  obtain ⟨x, hx, _⟩ := h1.lt
  exact ⟨h1.mono hp, fun k f => h2 k (feet.less hp hx f)⟩
theorem HeapOK.at (H : HeapOK M η w O nx) {N : Nat} {ro : Option (Nat × Nat)} : HeapOK (M.at N ro η) η w O nx := ⟨List.prefix_rfl, H.len, H.own, H.fr, H.sok.longer H.pre⟩
theorem HeapOK.back {η0 : Env} {N : Nat} {ro : Option (Nat × Nat)} (H : HeapOK (M.at N ro η0) η w O nx) (hp : M.η0 <+: η0) (hs : SOK M) : HeapOK M η w O nx := ⟨hp.trans H.pre, H.len, H.own, H.fr, hs⟩
/-- What a function does, by the walk of its body in the caller's own heap. -/
theorem calls_of_run (hT : TabOK M.P M.C.T) {g : FuncId} {fn : Func} {c : Code} (hf : M.P.funcs[g]? = some fn) (hb : fn.body = some c) (N : Nat) (hN : fn.ntmps = N) (hND : N ≤ DS) {args : List SV} (hlen : args.length ≤ N) {res : List ResultVar} (hres : fn.results = res.toArray)
    {K : SV → Hps → Nat → Prop} {vs : List Value} (H : HeapOK M η w O nx) (hd : DenL η args vs) (h : run (M.at N none η) c (argFr 0 args) O nx (endI (M.at N none η) res K))
    {R : Ending → World → Prop} (hR : ∀ v r w' O' nx' η', η <+: η' → HeapOK M η' w' O' nx' → Den η' r v → K r O' nx' → R (.returned v) w') : Calls M.P g ⟨vs⟩ w R := by
  have hl := denL_len hd
  refine callsIn_wide (n := 0) |>.1 (callsIn_of_wp_marks hf hb trivial ?_)
  have hm : Models (M.at N none η) η (argFr 0 args) O nx { tmps := ⟨vs⟩ ++ Array.replicate (fn.ntmps - (Array.mk vs).size) undef, defers := [] } w := by
    refine ⟨H.at, ?_, hND, argFr_nd (Nat.le_trans hlen hND), (fun l j h => by cases h), ?_⟩
    · simp only [Array.size_append, Array.size_replicate, hN, List.size_toArray]
      show vs.length + (N - vs.length) = N
      omega
    · intro t sv ht
      obtain ⟨v, _, h1, h2⟩ := argFr_ok hd ht
      have hlt := (List.getElem?_eq_some_iff.1 h1).1
      simp only [Nat.sub_zero] at h1 hlt
      rw [Array.getD_eq_getD_getElem?, Array.getElem?_append_left (by simpa using hlt)]
      have : (Array.mk vs)[t]? = some v := by simpa using h1
      rw [this]; exact h2
  refine Code.wpIn_mono ?_ (run_sound (M := M.at N none η) hT c h η _ w hm)
  have fin : ∀ {η1 : Env} {fr1 : Fr} {O1 : Hps} {nx1 : Nat} {a : Act} {w1 : World}, Models (M.at N none η) η1 fr1 O1 nx1 a w1 → (offGo fr1 O1 fun O1 => retGo (M.at N none η).C fr1 O1 res fun vs => K (oneOf vs) O1 nx1) →
      LeavesInM Fence.wide 0 M.P fn a.tmps R a.defers .returning w1 := by
    intro η1 fr1 O1 nx1 a w1 hm1 hr
    exact end_sound (M := M.at N none η) hT hres hm1 hr fun w2 O2 v r H2 hd2 hk => hR v r w2 O2 nx1 η1 H2.pre (H2.back H.pre H.sok) hd2 hk
  intro e a w hq
  cases e with
  | normal => obtain ⟨η1, fr1, O1, nx1, hm1, hq⟩ := hq; exact fin hm1 hq
  | ret => obtain ⟨η1, fr1, O1, nx1, hm1, hq⟩ := hq; exact fin hm1 hq
  | exit id => obtain ⟨η1, fr1, O1, nx1, hm1, hq⟩ := hq; exact hq.out.elim
  | goto l => exact hq.elim
  | panic ch => exact hq.elim
  | outgrown => exact hq.elim
/-! ### Rounds -/
def setAll : List Nat → List Value → Array Value → Array Value
  | p :: ps, v :: vs, t => setAll ps vs (t.setIfInBounds p v)
  | _, _, t => t
theorem foldl_setAll : ∀ (ps : List Nat) (vs : List Value) (t : Array Value), ((ps.toArray.zip ⟨vs⟩).foldl (fun tmps (p : Nat × Value) => tmps.setIfInBounds p.1 p.2) t) = setAll ps vs t := by
  intro ps vs t
  have h1 : (ps.toArray.zip ⟨vs⟩ : Array (Nat × Value)) = (ps.zip vs).toArray := by simp
  rw [h1, ← Array.foldl_toList]
  simp only
  induction ps generalizing vs t with
  | nil => simp [setAll]
  | cons p ps ih =>
    cases vs with
    | nil => simp [setAll]
    | cons v vs =>
      simp only [List.zip_cons_cons, List.foldl_cons, setAll]
      exact ih vs (t.setIfInBounds p v) (by simp)
theorem setAll_size : ∀ (ps : List Nat) (vs : List Value) (t : Array Value), (setAll ps vs t).size = t.size
  | [], vs, t => by simp [setAll]
  | p :: ps, [], t => by simp [setAll]
  | p :: ps, v :: vs, t => by simp only [setAll]; rw [setAll_size ps vs]; simp
theorem putAK_ok {η : Env} : ∀ {ps : List Nat} {ags : List SV} {fr : Fr} {K : Fr → Prop} {vs : List Value} {t : Array Value}, putAK ps ags fr K → DenL η ags vs → TmpsOK η t fr → (∀ p ∈ ps, p < t.size) → ∃ fr', K fr' ∧ isDfs (lkp DS fr') = false ∧ TmpsOK η (setAll ps vs t) fr' ∧ vs.length = ps.length
  | [], ags, fr, K, vs, t, h, hd, ht, hp => by
    simp only [putAK] at h
    split at h
    · split at h
      · exact h.out.elim
      · rename_i hn
        simp only [DenL] at hd
        subst hd
        exact ⟨fr, h, hn, ht, rfl⟩
    · exact h.out.elim
  | p :: ps, ags, fr, K, vs, t, h, hd, ht, hp => by
    simp only [putAK] at h
    split at h
    · rename_i a ags
      simp only [DenL] at hd
      obtain ⟨u, us, rfl, h1, h2⟩ := hd
      have hpt := hp p (List.mem_cons_self ..)
      obtain ⟨fr', h3, h4, h5, h6⟩ := putAK_ok (t := t.setIfInBounds p u) h h2 (fun s sv hs => by
        rw [lkp_cons] at hs
        split at hs
        · rename_i e; subst e; injection hs with hs; subst hs
          simpa [Array.getD_eq_getD_getElem?, Array.getElem?_setIfInBounds, hpt] using h1
        · rename_i e
          rw [Array.getD_eq_getD_getElem?, Array.getElem?_setIfInBounds, if_neg (Ne.symm e), ← Array.getD_eq_getD_getElem?]
          exact ht s sv hs) (fun q hq => by rw [Array.size_setIfInBounds]; exact hp q (List.mem_cons_of_mem _ hq))
      exact ⟨fr', h3, h4, h5, by simp [h6]⟩
    · exact h.out.elim
/-- The record is turned. -/
theorem HeapOK.record (H : HeapOK M η w O nx) {j : Nat} {st st' : LpS} {li : LpI} {fr0 : Fr} (hj : lkp j O = some (.lp st li fr0)) {e : Ent} (he : η[j]? = some (some e)) :
    ∃ r, w.heap[e.g]? = some (.loop r) ∧ r.state = st.state ∧ r.pending = st.jump ∧ ∀ r' : Loop, r'.state = st'.state → r'.pending = st'.jump → r'.params = r.params → r'.assign = r.assign → r'.body = r.body → r'.tmps = r.tmps → HeapOK M η (w.putObj e.g (.loop r')) (setK j (.lp st' li fr0) O) nx := by
  have hs := (H.own.1 j _ hj).1
  simp only [HpSat] at hs
  obtain ⟨e', r, h1, h2, h3, h4, h5, h6, h7, h8, h9, h10⟩ := hs
  have h1' : η[j]? = some (some e') := h1
  rw [he] at h1'
  injection h1' with h1'
  injection h1' with h1'
  subst h1'
  have hlt := (Array.getElem?_eq_some_iff.1 h3).1
  refine ⟨r, h3, h4, h5, fun r' q1 q2 q3 q4 q5 q6 => ?_⟩
  refine H.upd hj he (fun k hk => World.putObj_heap_other hk) World.putObj_size rfl rfl rfl ?_
  simp only [HpSat]
  exact ⟨e, r', h1, h2, World.putObj_heap_same hlt, q1, q2, by rw [q3]; exact h6, by rw [q4]; exact h7, by rw [q5]; exact h8, by rw [q6]; exact h9, by rw [q6]; exact h10⟩
/-- A round: the assignments and the body are walked in place, in the frame with which the loop was come to. -/
theorem YIELD.of (hT : TabOK M.P M.C.T) {j : Nat} {li : LpI} {fr0 : Fr} {args : List SV} {K : SV → Hps → Nat → Prop} (hj : lkp j O = some (.lp .ready li fr0)) (hps : li.ps.all (fun p => Nat.blt p li.N) = true) (hND : Nat.ble li.N DS = true)
    (h : ∀ (η1 : Env) (l : Nat), η1.length = nx → putAK li.ps args fr0 fun fr => run (M.at li.N (some (l, j)) η1) li.asg fr O nx (roundA (M.at li.N (some (l, j)) η1) j li.body K)) : YIELD M j args O nx K := by
  refine ⟨fun η w vs e H hd he => ?_⟩
  obtain ⟨r, hr, hst, hpe, _⟩ := H.record (st' := .ready) hj he
  have hs := (H.own.1 j _ hj).1
  simp only [HpSat] at hs
  obtain ⟨e', r', h1, h2, h3, h4, h5, h6, h7, h8, h9, h10⟩ := hs
  have h1' : η[j]? = some (some e') := h1
  rw [he] at h1'
  injection h1' with h1'
  injection h1' with h1'
  subst h1'
  rw [hr] at h3
  injection h3 with h3
  injection h3 with h3
  subst h3
  obtain ⟨fr, hrun, hnd, htm, hlen⟩ := putAK_ok (h η e.g H.len) hd h10 (fun p hp => by rw [h9]; simpa [Nat.blt_eq] using List.all_eq_true.1 hps p hp)
  have hpr : r.params = li.ps.toArray := by rw [← h6]
  refine ⟨r.fn, _, r.assign, r.body, run_yield hr (by rw [hpr]; simpa using hlen), ?_⟩
  rw [h7, h8]
  have hfold : ((r.params.zip ⟨vs⟩).foldl (fun tmps (x : Nat × Value) => tmps.setIfInBounds x.1 x.2) r.tmps) = setAll li.ps vs r.tmps := by rw [hpr]; exact foldl_setAll li.ps vs r.tmps
  have hfold' : ((r.params.zip ⟨vs⟩).foldl (fun tmps x => match x with | (t, a) => tmps.setIfInBounds t a) r.tmps) = setAll li.ps vs r.tmps := hfold
  rw [hfold']
  generalize hMr : M.at li.N (some (e.g, j)) η = Mr at hrun
  have hTr : TabOK Mr.P Mr.C.T := by subst hMr; exact hT
  have hPr : Mr.P = M.P := by subst hMr; rfl
  have hfr : Mr.fence = Fence.wide.inRound e.g := by subst hMr; rfl
  have hm : Models Mr η fr O nx { tmps := setAll li.ps vs r.tmps, defers := [] } w := by
    subst hMr
    refine ⟨H.at, by rw [setAll_size]; exact h9, Nat.le_of_ble_eq_true hND, (DfOK.no hnd).2 rfl, fun l' j' hl => ?_, htm⟩
    injection hl with hl
    injection hl with hl1 hl2
    subst hl1 hl2
    exact ⟨e, he, rfl⟩
  refine roundIn_of_wpIn trivial ?_
  rw [← hPr, ← hfr]
  refine Code.wpIn_mono ?_ (run_sound hTr li.asg hrun η _ w hm)
  intro ex a1 w1 hq
  cases ex with
  | exit id => obtain ⟨η1, fr1, O1, nx1, hm1, hq⟩ := hq; exact hq.out.elim
  | ret => obtain ⟨η1, fr1, O1, nx1, hm1, hq⟩ := hq; exact hq.out.elim
  | goto l => exact hq.elim
  | panic ch => exact hq.elim
  | outgrown => exact hq.elim
  | normal =>
    obtain ⟨η1, fr1, O1, nx1, hm1, hq⟩ := hq
    simp only [roundA] at hq
    split at hq
    case h_2 => exact hq.out.elim
    rename_i hh hj1
    split at hq
    case h_2 => exact hq.out.elim
    rename_i st1 li1 fr01
    split at hq
    case h_2 => exact hq.out.elim
    rw [setKK_iff] at hq
    obtain ⟨e1, he1, heg⟩ := hm1.ro e.g j (by subst hMr; rfl)
    obtain ⟨r1, hr1, hs1, hp1, hup1⟩ := hm1.heap.record (st' := .busy) hj1 he1
    rw [heg] at hr1 hup1
    refine ⟨_, run_beginRound hr1 hs1, ?_⟩
    have hm2 : Models Mr η1 fr1 (setK j (.lp .busy li1 fr01) O1) nx1 a1 (w1.putObj e.g (.loop { r1 with state := .busy })) := ⟨hup1 _ rfl hp1 rfl rfl rfl rfl, hm1.size, hm1.nds, hm1.defers, hm1.ro, hm1.frame⟩
    refine Code.wpIn_mono ?_ (run_sound hTr li.body hq η1 a1 _ hm2)
    -- the end of the round
    have fin : ∀ {ex : Ex} {η2 : Env} {fr2 : Fr} {O2 : Hps} {nx2 : Nat} {a2 : Act} {w2 : World} (jump : Option Code), Models Mr η2 fr2 O2 nx2 a2 w2 → roundB j K ex fr2 O2 nx2 → (match ex with | .normal => jump = none | .ret => jump = some .ret | .exit id => jump = some (.exit id)) →
        ∃ v w', (Instr.endRound e.g jump).run Mr.P w2 = .ok v w' ∧ ∃ v', Ending.returned v = .returned v' ∧ ∃ r O' nx' η', η <+: η' ∧ HeapOK M η' w' O' nx' ∧ Den η' r v' ∧ K r O' nx' := by
      intro ex η2 fr2 O2 nx2 a2 w2 jump hm2 hq hj'
      unfold roundB at hq
      split at hq
      case h_2 => exact hq.out.elim
      rename_i hh hj2
      split at hq
      case h_2 => exact hq.out.elim
      rename_i st2 li2 fr02
      split at hq
      case h_2 => exact hq.out.elim
      obtain ⟨e2, he2, heg2⟩ := hm2.ro e.g j (by subst hMr; rfl)
      have hpre : η <+: η2 := by have := hm2.heap.pre; subst hMr; exact this
      have back : ∀ {w' : World} {O' : Hps}, HeapOK Mr η2 w' O' nx2 → HeapOK M η2 w' O' nx2 := fun h => by subst hMr; exact h.back H.pre H.sok
      cases ex with
      | normal =>
        simp only at hj'
        subst hj'
        simp only [setKK_iff] at hq
        obtain ⟨r2, hr2, hs2, hp2, hup2⟩ := hm2.heap.record (st' := .ready) hj2 he2
        rw [heg2] at hr2 hup2
        exact ⟨_, _, run_endRound none hr2, _, rfl, .bool true, _, _, η2, hpre, back (hup2 _ rfl rfl rfl rfl rfl rfl), (by simp only [Den]; rfl), hq⟩
      | ret =>
        simp only at hj'
        subst hj'
        simp only [setKK_iff] at hq
        obtain ⟨r2, hr2, hs2, hp2, hup2⟩ := hm2.heap.record (st' := .left none) hj2 he2
        rw [heg2] at hr2 hup2
        exact ⟨_, _, run_endRound (some .ret) hr2, _, rfl, .bool false, _, _, η2, hpre, back (hup2 _ rfl rfl rfl rfl rfl rfl), (by simp only [Den]; rfl), hq⟩
      | exit id =>
        simp only at hj'
        subst hj'
        simp only [setKK_iff] at hq
        obtain ⟨r2, hr2, hs2, hp2, hup2⟩ := hm2.heap.record (st' := .left (some id)) hj2 he2
        rw [heg2] at hr2 hup2
        exact ⟨_, _, run_endRound (some (.exit id)) hr2, _, rfl, .bool false, _, _, η2, hpre, back (hup2 _ rfl rfl rfl rfl rfl rfl), (by simp only [Den]; rfl), hq⟩
    intro ex a2 w2 hq2
    cases ex with
    | normal => obtain ⟨η2, fr2, O2, nx2, hm2, hq2⟩ := hq2; exact fin none hm2 hq2 rfl
    | ret => obtain ⟨η2, fr2, O2, nx2, hm2, hq2⟩ := hq2; exact fin (some .ret) hm2 hq2 rfl
    | exit id => obtain ⟨η2, fr2, O2, nx2, hm2, hq2⟩ := hq2; exact fin (some (.exit id)) hm2 hq2 rfl
    | goto l => exact hq2.elim
    | panic ch => exact hq2.elim
    | outgrown => exact hq2.elim
/-! ### The statement -/
theorem noDS_ok {K : Fr → Prop} : ∀ {fr : Fr}, noDS fr K → ∃ fr0, K fr0 ∧ lkp DS fr0 = none ∧ ∀ t v, lkp t fr0 = some v → lkp t fr = some v
  | [], h => ⟨[], h, rfl, fun t v h => h⟩
  | (d, u) :: r, h => by
    unfold noDS at h
    split at h
    · rename_i e
      have e := beq_eq e
      obtain ⟨fr0, h1, h0, h2⟩ := noDS_ok h
      refine ⟨fr0, h1, h0, fun t v ht => ?_⟩
      rw [lkp_cons]
      split
      · rename_i e2
        rw [e2, e, h0] at ht; cases ht
      · exact h2 t v ht
    · rename_i e
      have e := ne_of_beq e
      obtain ⟨fr0, h1, h0, h2⟩ := noDS_ok h
      refine ⟨(d, u) :: fr0, h1, by rw [lkp_cons, if_neg (Ne.symm e)]; exact h0, fun t v ht => ?_⟩
      rw [lkp_cons] at ht ⊢
      split
      · rename_i e; rw [if_pos e] at ht; exact ht
      · rename_i e; rw [if_neg e] at ht; exact h2 t v ht
theorem range_core (hT : TabOK M.P M.C.T) {gf g : FuncId} {fn : Func} {c : Code} {cap : List SV} (hcall : ∀ args w, (callFunc gf args).run M.P w = .ok (.enter g args) w) (hf : M.P.funcs[g]? = some fn) (hb : fn.body = some c) (N : Nat) (hN : fn.ntmps = N) (hND : N ≤ DS) (hlen : cap.length + 1 ≤ N) (hres : fn.results = #[])
    {f : Operand} {Q : Post} {a a' : Act} {η1 : Env} {w1 : World} {O1 : Hps} {n1 j l : Nat} (hev : ∃ vs, a.eval f = .func (.func gf) #[] ⟨vs⟩ ∧ DenL η1 cap vs) (H1 : HeapOK M η1 w1 O1 n1) (hj : η1[j]? = some (some ⟨l, 0, 0⟩)) {frK : (Fr → Prop) → Prop}
    (hfrK : ∀ {K : Fr → Prop}, frK K → ∃ fr', K fr' ∧ ∀ η' w' O' nx', η1 <+: η' → HeapOK M η' w' O' nx' → Models M η' fr' O' nx' a' w')
    (h : run (M.at N none η1) c (argFr 0 (.yf (.loc j) :: cap)) O1 n1 (endI (M.at N none η1) [] (rangeK j frK Q))) :
    ∃ (d : Deferred) (w1' : World) (f' : FuncId) (args : Array Value) (w2 : World), (resolve a.eval (rangeCall f l) 0).run M.P w1 = .ok d w1' ∧ (∀ f', Target.leads M.P w1' d.target d.args = some f' → M.fence.fn f') ∧ (invoke d.target d.args).run M.P w1' = .ok (.enter f' args) w2 ∧
      (M.fence.depth.isSome = true → 1 ≤ 0) ∧ CallsIn M.fence (0 - 1) M.P f' args w2 (rangePost M.fence 0 M.P l (liftQ M Q) a') := by
  obtain ⟨vs, hv, hd⟩ := hev
  refine ⟨{ target := .fn (.func gf) ⟨vs⟩, args := #[.func (.yield l) #[] #[]] }, w1, g, #[.func (.yield l) #[] #[]] ++ ⟨vs⟩, w1, ?_, fun f' _ => M.all f', ?_, (fun h => by cases h), ?_⟩
  · simp only [resolve, hv]
    simp [go_sem]
  · simp [invoke, go_sem, hcall]
  · have hargs : (#[.func (.yield l) #[] #[]] ++ (⟨vs⟩ : Array Value)) = ⟨Value.func (.yield l) #[] #[] :: vs⟩ := by apply Array.ext'; simp
    rw [hargs]
    have hd1 : DenL η1 (.yf (.loc j) :: cap) (Value.func (.yield l) #[] #[] :: vs) := by
      simp only [DenL, Den]
      exact ⟨_, _, rfl, ⟨_, hj, rfl⟩, hd⟩
    refine callsIn_wide.2 (calls_of_run hT hf hb N hN hND (by simpa using hlen) (by simpa using hres) H1 hd1 h fun v r w' O' nx' η' hp H' hd' hk => ?_)
    unfold rangeK at hk
    split at hk
    case h_2 => exact hk.out.elim
    rename_i hh hj'
    split at hk
    case h_2 => exact hk.out.elim
    rename_i st li fr0
    have hje : η'[j]? = some (some ⟨l, 0, 0⟩) := Env.get_mono (b := .loc j) hp hj
    obtain ⟨r1, hr1, hs1, hp1, _⟩ := H'.record (st' := .ready) hj' hje
    obtain ⟨s1, p1, c1, c2, c3, c4, c5, c6⟩ := r1
    simp only at hr1 hs1 hp1
    subst hs1 hp1
    have hdrop : HeapOK M η' (w'.putObj l (.loop { state := .exhausted, pending := st.jump, fn := c1, tmps := c2, params := c3, assign := c4, body := c5, defers := c6 })) (delK j O') nx' := H'.drop hj' hje (fun k hk => World.putObj_heap_other hk) World.putObj_size rfl rfl rfl (Nat.le_refl _)
    split at hk
    · rw [delKK_iff] at hk
      obtain ⟨fr', h1, h2⟩ := hfrK hk
      exact ⟨_, _, run_endLoop hr1 (by simp [LpS.state]), ⟨η', fr', _, nx', h2 η' _ _ _ hp hdrop, h1⟩⟩
    · exact hk.out.elim
    · split at hk
      · rw [delKK_iff] at hk
        obtain ⟨fr', h1, h2⟩ := hfrK hk
        exact ⟨_, _, run_endLoop hr1 (by simp [LpS.state]), wpIn_ret ⟨η', fr', _, nx', h2 η' _ _ _ hp hdrop, h1⟩⟩
      · rw [delKK_iff] at hk
        obtain ⟨fr', h1, h2⟩ := hfrK hk
        exact ⟨_, _, run_endLoop hr1 (by simp [LpS.state]), wpIn_exit ⟨η', fr', _, nx', h2 η' _ _ _ hp hdrop, h1⟩⟩
theorem addDS_ok {fr : Fr} {d : Nat} {K : Fr → Prop} (h : addDS fr d K) : ∃ l, K ((DS, .dfs (.ptr (.loc d) 0 0 0 :: l)) :: fr) ∧ ∀ {η : Env} {ds : List Deferred}, DfOK η ds (lkp DS fr) → DfL η l ds := by
  unfold addDS at h
  split at h
  · rename_i v hv
    split at h
    · rename_i l
      exact ⟨l, h, fun hd => by rw [hv] at hd; exact hd⟩
    · rename_i hn
      refine ⟨[], h, fun hd => ?_⟩
      rw [hv] at hd
      have : isDfs (some v) = false := by cases v <;> first | rfl | exact (hn _ rfl).elim
      rw [DfOK.no this] at hd
      subst hd; rfl
  · rename_i hv
    refine ⟨[], h, fun hd => ?_⟩
    rw [hv] at hd
    have hd : _ = [] := hd
    subst hd; rfl
/-- A range over a function that stands in no round: it and its rounds are walked in one. -/
theorem RANGEF.of (hT : TabOK M.P M.C.T) {f : Operand} {ps : Array Tmp} {asg body : Code} {fr : Fr} {Q : Post} {gf g : FuncId} {cap : List SV} {fn : Func} {c : Code} (hcall : ∀ args w, (callFunc gf args).run M.P w = .ok (.enter g args) w) (hf : M.P.funcs[g]? = some fn) (hb : fn.body = some c) (N : Nat) (hN : fn.ntmps = N)
    (li : LpI) (hli : li = ⟨M.C.N, ps.toList, asg, body⟩) (hv : lookF fr f = some (.fn (.func gf) [] cap)) (hlen : Nat.ble (cap.length + 1) N = true) (hres : fn.results = #[]) (hro : M.C.ro = none)
    (h : noDS fr fun fr0 => ∀ η1 : Env, η1.length = nx + 2 → run (M.at N none η1) c (argFr 0 (.yf (.loc (nx + 1)) :: cap)) ((nx + 1, .lp .ready li fr0) :: (nx, .dfr) :: O) (nx + 2) (endI (M.at N none η1) [] (rangeK (nx + 1) (addDS fr nx) Q))) (hND : Nat.ble N DS = true := by rfl) : RANGEF M f ps asg body fr O nx Q := by
  obtain ⟨fr0, h, _, hfr0⟩ := noDS_ok h
  refine ⟨fun η a w hm => wpIn_rangeFunc fun fnid _ => ?_⟩
  have hround : M.fence.round = none := by simp [Mx.fence, hro]
  rw [hround]
  obtain ⟨rec, hrec⟩ : ∃ rec : Loop, rec = { state := .ready, pending := none, fn := fnid, tmps := a.tmps, params := ps, assign := asg, body, defers := w.heap.size } := ⟨_, rfl⟩
  have hl := hm.heap.len
  obtain ⟨η1, hη1⟩ : ∃ η1 : Env, η1 = η ++ [some ⟨w.heap.size, 0, 0⟩] := ⟨_, rfl⟩
  have H1 : HeapOK M η1 (w.alloc (.deferred (some []))) ((nx, .dfr) :: O) (nx + 1) := by
    rw [hη1]
    refine hm.heap.alloc (w' := w.alloc (.deferred (some []))) (o := .deferred (some [])) (h := .dfr) rfl rfl rfl rfl 0 0 ?_
    simp only [HpSat]
    exact ⟨⟨w.heap.size, 0, 0⟩, by simp [Env.get, ← hl], rfl, World.alloc_heap_new w _⟩
  have hl1 := H1.len
  obtain ⟨η2, hη2⟩ : ∃ η2 : Env, η2 = η1 ++ [some ⟨w.heap.size + 1, 0, 0⟩] := ⟨_, rfl⟩
  have hsz : (w.alloc (.deferred (some []))).heap.size = w.heap.size + 1 := World.size_alloc _ _
  have hpre : η <+: η2 := by rw [hη2, hη1, List.append_assoc]; exact List.prefix_append _ _
  have hj2 : η2[nx + 1]? = some (some ⟨w.heap.size + 1, 0, 0⟩) := by rw [hη2, ← hl1]; simp
  have hd2 : η2[nx]? = some (some ⟨w.heap.size, 0, 0⟩) := by
    rw [hη2, List.getElem?_append_left (by omega), hη1, ← hl]; simp
  have H2 : HeapOK M η2 ((w.alloc (.deferred (some []))).alloc (.loop rec)) ((nx + 1, .lp .ready li fr0) :: (nx, .dfr) :: O) (nx + 2) := by
    have := H1.alloc (w' := (w.alloc (.deferred (some []))).alloc (.loop rec)) (o := .loop rec) (h := .lp .ready li fr0) rfl rfl rfl rfl 0 0 (by
      rw [hsz, ← hη2]
      simp only [HpSat]
      refine ⟨_, rec, hj2, rfl, by rw [← hsz]; exact World.alloc_heap_new _ _, ?_⟩
      subst hrec hli
      exact ⟨rfl, rfl, rfl, rfl, rfl, hm.size, fun t sv ht => (hm.frame t sv (hfr0 t sv ht)).mono hpre⟩)
    rw [hsz, ← hη2] at this
    exact this
  have hev : ∃ vs, a.eval f = .func (.func gf) #[] ⟨vs⟩ ∧ DenL η2 cap vs := by
    have := lookF_den hm.frame hv
    simp only [Den, DenL] at this
    obtain ⟨us, vs, h1, rfl, h3⟩ := this
    exact ⟨vs, h1, h3.mono hpre⟩
  obtain ⟨d, w1', f', args, w2, q1, q2, q3, q4, q5⟩ := range_core (a' := { a with defers := [{ target := .collected w.heap.size, args := #[] }] ++ a.defers }) hT hcall hf hb N hN (Nat.le_of_ble_eq_true hND) (Nat.le_of_ble_eq_true hlen) hres hev H2 hj2 (frK := addDS fr nx) (fun {K} hk => by
    obtain ⟨l, h1, h2⟩ := addDS_ok hk
    refine ⟨_, h1, fun η' w' O' nx' hp H' => ⟨H', hm.size, hm.nds, ?_, ro_mono (hpre.trans hp) hm.ro, fun t sv ht => ?_⟩⟩
    · rw [lkp_cons, if_pos rfl]
      exact ⟨⟨w.heap.size, 0, 0⟩, a.defers, Env.get_mono (b := .loc nx) hp hd2, rfl, h2 (hm.defers.mono (hpre.trans hp))⟩
    · rw [lkp_cons] at ht
      split at ht
      · injection ht with ht; subst ht; simp only [Den]
      · exact (hm.frame t sv ht).mono (hpre.trans hp)) (h η2 H2.len)
  refine ⟨w.heap.size + 1, [{ target := .collected w.heap.size, args := #[] }], _, d, w1', f', args, w2, run_enterLoop_outer _ _ _ _ _, ?_, q2, q3, q4, q5⟩
  rw [hrec] at q1
  exact q1
end
theorem FIN.weak {M : Mx} {O O1 : Hps} {nx n1 : Nat} {r r1 : SV} {Q : SV → Hps → Nat → Prop} (h : ∀ η w v, HeapOK M η w O nx → Den η r v → ∃ η', η <+: η' ∧ HeapOK M η' w O1 n1 ∧ Den η' r1 v) (hf : FIN M O1 n1 r1 Q) : FIN M O nx r Q :=
  ⟨fun η w v H hd => let ⟨η1, h1, h2, h3⟩ := h η w v H hd; hf.out η1 w v h2 h3⟩
theorem FIN.nil {M : Mx} {O : Hps} {nx : Nat} {Q : SV → Hps → Nat → Prop} (es : Nat) (hf : FIN M ((nx, .rows es []) :: O) (nx + 1) (.sl (.loc nx) 0 es 0 none) Q) : FIN M O nx (.val (.slice none 0 0)) Q := by
  refine FIN.weak (fun η w v H hd => ?_) hf
  have hnew : (η ++ [none])[nx]? = some none := by rw [List.getElem?_append_right (by rw [H.len]; omega), H.len]; simp
  refine ⟨η ++ [none], List.prefix_append _ _, H.push none (fun _ _ => rfl) (Nat.le_refl _) rfl rfl rfl (Nat.le_refl _) (.inl ⟨hnew, rfl⟩) (fun k f => (feet.none (b := .loc nx) hnew f).elim) (fun k f => (feet.none (b := .loc nx) hnew f).elim), ?_⟩
  simp only [Den] at hd ⊢
  exact .inl ⟨hnew, hd.1, trivial⟩
theorem det_pos {b : Blk} {r es len : Nat} {lim : Option Nat} (h : 0 < len) : Det (.sl b r es len lim) := by
  intro η u u' h1 h2
  simp only [Den] at h1 h2
  rcases h1 with ⟨_, _, h0⟩ | ⟨e, o, g1, rfl, g3, g4, g5⟩
  · omega
  rcases h2 with ⟨_, _, h0⟩ | ⟨e', o', k1, rfl, k3, k4, k5⟩
  · omega
  rw [g1] at k1
  injection k1 with k1
  injection k1 with k1
  subst k1
  rw [g5 (.inl (by omega)), k5 (.inl (by omega))]
end Go.Sx
/- Loops that leave most of the heap alone. Conditions: none. -/
set_option linter.unusedVariables false
set_option linter.unusedSimpArgs false
namespace Go.Sx
open Go
/-- What stays of a heap, by names. -/
def keepHK : List Nat → Hps → (Hps → Prop) → Prop
  | [], _, K => K []
  | i :: is, O, K => match lkp i O with
    | some h => keepHK is O fun r => K ((i, h) :: r)
    | none => STOP "kept"
def appHK : Hps → Hps → (Hps → Prop) → Prop
  | [], r, K => K r
  | (i, h) :: l, r, K => appHK l r fun r => K ((i, h) :: r)
theorem keepHK_iff : ∀ {ts : List Nat} {O : Hps} {K : Hps → Prop}, keepHK ts O K → ∃ r, K r
  | [], O, K, h => ⟨_, h⟩
  | t :: ts, O, K, h => by
    simp only [keepHK] at h
    split at h
    · obtain ⟨r, hr⟩ := keepHK_iff h; exact ⟨_, hr⟩
    · exact h.out.elim
theorem appHK_iff : ∀ {l r : Hps} {K : Hps → Prop}, appHK l r K ↔ K (l ++ r)
  | [], r, K => Iff.rfl
  | (t, v) :: l, r, K => by simp only [appHK, List.cons_append, appHK_iff]
theorem belowO_cons {m i : Nat} {h : Hp} {O : Hps} (h1 : Nat.blt i m = true) (h2 : belowH m h = true) (h3 : belowO m O = true) : belowO m ((i, h) :: O) = true := by simp only [belowO, h1, h2, h3, Bool.and_self]
theorem belowH_rows {m es : Nat} {rs : List (List SV)} (h : plainLL rs = true) : belowH m (.rows es rs) = true := by simp only [belowH, plainLL_below _ h]
theorem belowH_renrows {m es : Nat} {σ : Nat → Nat} {rs : List (List SV)} (h : plainLL rs = true) : belowH m (renH σ (.rows es rs)) = true := by rw [renH_plain _ (h := .rows es rs) h]; exact belowH_rows h
theorem box_int {k : IntKind} {a b : Int} (h : a = b) : Hp.box [.int k a] = Hp.box [.int k b] := by rw [h]
theorem box_sl {b : Blk} {r es n n' : Nat} {lim : Option Nat} (h : n = n') : Hp.box [.sl b r es n lim] = Hp.box [.sl b r es n' lim] := by rw [h]
section
variable {M : Mx} {fr : Fr} {O : Hps} {nx : Nat}
/-- A loop, of whose heap the entries ko stay as they are. -/
theorem LOOP.gok {body : Code} {Q : Post} (hT : TabOK M.P M.C.T) (ks ko : List Nat) {X : Type} (P : X → Prop) (chg : X → Fr) (Ox : X → Hps) (n0 : Nat) (μ : X → Nat) (x0 : X) (hP : P x0)
    (h : keepK ks fr fun fr0 => keepHK ko O fun O0 => (appK (chg x0) fr0 fun fr' => appHK (Ox x0) O0 fun O' => GOES M fr O nx fr' O' n0) ∧
      ∀ x, P x → appK (chg x) fr0 fun fr1 => appHK (Ox x) O0 fun O1 => run M body fr1 O1 n0 fun e fr O nx => match e with
        | .normal => ∃ x', P x' ∧ μ x' < μ x ∧ appK (chg x') fr0 fun fr' => appHK (Ox x') O0 fun O' => GOES M fr O nx fr' O' n0
        | e => Q e fr O nx) : LOOP M body fr O nx Q := by
  obtain ⟨fr0, h⟩ := keepK_iff h
  obtain ⟨O0, h1, h2⟩ := keepHK_iff h
  simp only [appK_iff, appHK_iff] at h1 h2
  exact LOOP.inv hT P (fun x => (chg x ++ fr0, Ox x ++ O0, n0)) μ x0 hP h1 h2
end
end Go.Sx
/- The reference's Fresh, walked. Conditions: none. -/
set_option linter.unusedVariables false
set_option linter.unusedSimpArgs false
set_option maxRecDepth 20000
set_option maxHeartbeats 8000000
namespace Go.Proofs.YtpnphbjoalbejaaDoor
open Go.Sx Go.Our Go.Lib
def NewL (k : Nat) (l : List (List UInt8)) : SV → Hps → Nat → Prop := fun r O nx => r = .sl (.loc k) 0 1 l.length none ∧ O = [(k, .rows 1 (l.map lbRow))] ∧ nx = k + 1
theorem rfresh_does (used z : List (List UInt8)) (lim : Option Nat) (n : Int) (hn : n ≤ 10000) (hu : used.length * 16 ≤ 140737488351232) (hz : (used ++ z).length ≤ 1152921504606846976) : Does Tryd.prog tab 5 1 [.sl (.loc 0) 0 1 used.length lim, .int .i64 n] [] [(0, .rows 1 ((used ++ z).map lbRow))] (NewL 1 (fresh used n.toNat)) := by
  refine Does.enter tabOK (g := 5) (fn := Tryd.f5) Tryd.call5 Tryd.func5 rfl 40 rfl rfl [.tmp 4] rfl ?_
  intro w0 F η0 h0
  conv => whnf
  repeat' ((first | with_reducible refine IF.tt ?_ | with_reducible refine IF.ff ?_ | refine NEED.au ?_ | ((with_reducible apply GET.at); rfl) | ((with_reducible apply GETG.at); rfl) | ((with_reducible refine UNK.mk (fun h => ?_) ?_) <;> try (exfalso; omega)) | ((with_reducible refine IF.mk (fun h => ?_) (fun h => ?_)) <;> (try simp (disch := omega) only [hsB, hsC, lnB, wrap64, wrap32, simprocAttr] at h) <;> try (exfalso; omega))) <;> conv => whnf)
  refine LOOP.gok tabOK [0, 1, 5] [] (X := Nat × List (List SV)) (fun x => x.1 ≤ used.length ∧ Cnt (used.take x.1) x.2) (fun x => [(6, .int .i64 (x.1 : Int))]) (fun x => [(1, .mp x.2)]) 2 (fun x => used.length - x.1) (0, []) ⟨by simp, Cnt.nil⟩ ?_
  conv => whnf
  refine ⟨by (refine GOES.cutting h0 rfl rfl rfl (by (repeat' (first | (refine belowO_cons rfl ?_ ?_) | exact belowH_rows (plainLbs _) | exact belowH_renrows (plainLbs _) | exact belowH_cnt Cnt.nil | rfl))) ?_ ?_ <;> (repeat' (first | (with_reducible rfl) | exact trivial | (exact sl_eq rfl (by first | omega | (simp (disch := omega) only [lnB, wrap64, wrap32] <;> omega) | (simp; done) | (simp <;> omega))) | (exact congrArg (SV.int _) (by first | omega | (simp (disch := omega) only [lnB, wrap64, wrap32] <;> omega) | (simp; done) | (simp <;> omega))) | (exact box_int (by first | omega | (simp (disch := omega) only [lnB, wrap64, wrap32] <;> omega) | (simp; done) | (simp <;> omega))) | (exact box_sl (by first | omega | (simp (disch := omega) only [lnB, wrap64, wrap32] <;> omega) | (simp; done) | (simp <;> omega))) | (exact renH_plain _ (h := .rows _ _) (plainLbs _)) | (exact congrArg (Hp.rows _) (by rfl)) | ((conv => whnf); refine ⟨?_, ?_⟩) | rfl))), ?_⟩
  rintro ⟨i, rs⟩ ⟨hi, hc⟩
  dsimp only at hi hc
  conv => whnf
  by_cases hil : i < used.length
  · repeat' ((first | with_reducible refine IF.tt ?_ | with_reducible refine IF.ff ?_ | (refine GET.at (row := lbRow (used[i]'(by omega))) (lb_get (by omega) (by omega)) ?_; conv => whnf) | (refine NEED.mk ⟨keyOK_str _, hc.str.ok⟩ ?_; conv => whnf) | refine NEED.au ?_ | ((with_reducible apply GET.at); rfl) | ((with_reducible apply GETG.at); rfl) | ((with_reducible refine UNK.mk (fun h => ?_) ?_) <;> try (exfalso; omega)) | ((with_reducible refine IF.mk (fun h => ?_) (fun h => ?_)) <;> (try simp (disch := omega) only [hsB, hsC, lnB, wrap64, wrap32, simprocAttr] at h) <;> try (exfalso; omega))) <;> conv => whnf)
    have hst : Cnt (used.take (i + 1)) (setM KS (.str used[i]) (.int .i64 ((1 : Nat) : Int)) rs) := by
      rw [List.take_succ_eq_append_getElem hil]; exact hc.step _ (by omega) (by omega)
    refine ⟨(i + 1, setM KS (.str used[i]) (.int .i64 ((1 : Nat) : Int)) rs), ⟨by dsimp only; omega, hst⟩, by dsimp only; omega, ?_⟩
    dsimp only
    have h5 : IntKind.i64.wrap ((i : Int) + 1) = ((i + 1 : Nat) : Int) := by rw [wrap64 (by omega) (by omega)]; omega
    rw [h5]
    conv => whnf
    (refine GOES.cutting h0 rfl rfl rfl (by (repeat' (first | (refine belowO_cons rfl ?_ ?_) | exact belowH_rows (plainLbs _) | exact belowH_renrows (plainLbs _) | exact belowH_cnt hst | rfl))) ?_ ?_ <;> (repeat' (first | (with_reducible rfl) | exact trivial | (exact sl_eq rfl (by first | omega | (simp (disch := omega) only [lnB, wrap64, wrap32] <;> omega) | (simp; done) | (simp <;> omega))) | (exact congrArg (SV.int _) (by first | omega | (simp (disch := omega) only [lnB, wrap64, wrap32] <;> omega) | (simp; done) | (simp <;> omega))) | (exact box_int (by first | omega | (simp (disch := omega) only [lnB, wrap64, wrap32] <;> omega) | (simp; done) | (simp <;> omega))) | (exact box_sl (by first | omega | (simp (disch := omega) only [lnB, wrap64, wrap32] <;> omega) | (simp; done) | (simp <;> omega))) | (exact renH_plain _ (h := .rows _ _) (plainLbs _)) | (exact congrArg (Hp.rows _) (by rfl)) | ((conv => whnf); refine ⟨?_, ?_⟩) | rfl)))
  · have hie : i = used.length := by omega
    subst hie
    rw [List.take_length] at hc
    repeat' ((first | with_reducible refine IF.tt ?_ | with_reducible refine IF.ff ?_ | refine NEED.au ?_ | ((with_reducible apply GET.at); rfl) | ((with_reducible apply GETG.at); rfl) | ((with_reducible refine UNK.mk (fun h => ?_) ?_) <;> try (exfalso; omega)) | ((with_reducible refine IF.mk (fun h => ?_) (fun h => ?_)) <;> (try simp (disch := omega) only [hsB, hsC, lnB, wrap64, wrap32, simprocAttr] at h) <;> try (exfalso; omega))) <;> conv => whnf)
    refine LOOP.nil 7 1 rfl ?_
    refine LOOP.gok tabOK [1, 5] [1] (X := Nat) (fun i => (freshL used i).length ≤ n.toNat) (fun i => [(8, .int .i64 ((i : Int) + 1)), (7, .sl (.loc 2) 0 1 (freshL used i).length none)]) (fun i => [(2, .rows 1 ((freshL used i).map lbRow))]) 3 (fun i => used.length + n.toNat - i) 0 (by simp [freshL_zero]) ?_
    conv => whnf
    refine ⟨by (refine GOES.cutting h0 rfl rfl rfl (by (repeat' (first | (refine belowO_cons rfl ?_ ?_) | exact belowH_rows (plainLbs _) | exact belowH_renrows (plainLbs _) | exact belowH_cnt hc | rfl))) ?_ ?_ <;> (repeat' (first | (with_reducible rfl) | exact trivial | (exact sl_eq rfl (by first | omega | (simp (disch := omega) only [lnB, wrap64, wrap32] <;> omega) | (simp; done) | (simp <;> omega))) | (exact congrArg (SV.int _) (by first | omega | (simp (disch := omega) only [lnB, wrap64, wrap32] <;> omega) | (simp; done) | (simp <;> omega))) | (exact box_int (by first | omega | (simp (disch := omega) only [lnB, wrap64, wrap32] <;> omega) | (simp; done) | (simp <;> omega))) | (exact box_sl (by first | omega | (simp (disch := omega) only [lnB, wrap64, wrap32] <;> omega) | (simp; done) | (simp <;> omega))) | (exact renH_plain _ (h := .rows _ _) (plainLbs _)) | (exact congrArg (Hp.rows _) (by rfl)) | ((conv => whnf); refine ⟨?_, ?_⟩) | rfl))), ?_⟩
    intro i hi
    have hlost := freshL_lost used i
    have hle := freshL_len used i
    conv => whnf
    by_cases hil : ((freshL used i).length : Int) < n
    · have hdl := dec_len (i + 1)
      have h6 : IntKind.i64.wrap ((i : Int) + 1 + 1) = ((i + 1 : Nat) : Int) + 1 := by rw [wrap64 (by omega) (by omega)]; omega
      repeat' ((first | with_reducible refine IF.tt ?_ | with_reducible refine IF.ff ?_ | refine CALL.value (number_does (i + 1) (by omega) (by omega)) rfl rfl ?_ | (refine NEED.mk (by simp; omega) ?_; conv => whnf) | (refine NEED.mk ⟨keyOK_str _, hc.str.ok⟩ ?_; conv => whnf) | refine NEED.au ?_ | ((with_reducible apply GET.at); rfl) | ((with_reducible apply GETG.at); rfl) | ((with_reducible refine UNK.mk (fun h => ?_) ?_) <;> try (exfalso; omega)) | ((with_reducible refine IF.mk (fun h => ?_) (fun h => ?_)) <;> (try simp (disch := omega) only [hsB, hsC, lnB, wrap64, wrap32, simprocAttr] at h) <;> try (exfalso; omega))) <;> conv => whnf)
      refine FIND.mk (fun idx v hf => ?_) (fun hf => ?_)
      · obtain ⟨hs, kk, g0, g1, rfl⟩ := hc.found (s := lab (i + 1)) hf
        have hsu := freshL_succ used i
        rw [if_pos hs, List.append_nil] at hsu
        conv => whnf
        repeat' ((first | with_reducible refine IF.tt ?_ | with_reducible refine IF.ff ?_ | refine NEED.au ?_ | ((with_reducible apply GET.at); rfl) | ((with_reducible apply GETG.at); rfl) | ((with_reducible refine UNK.mk (fun h => ?_) ?_) <;> try (exfalso; omega)) | ((with_reducible refine IF.mk (fun h => ?_) (fun h => ?_)) <;> (try simp (disch := omega) only [hsB, hsC, lnB, wrap64, wrap32, simprocAttr] at h) <;> try (exfalso; omega))) <;> conv => whnf)
        all_goals try (exfalso; simp at h; omega)
        refine ⟨i + 1, by rw [hsu]; exact hi, by omega, ?_⟩
        rw [hsu, h6]
        conv => whnf
        (refine GOES.cutting h0 rfl rfl rfl (by (repeat' (first | (refine belowO_cons rfl ?_ ?_) | exact belowH_rows (plainLbs _) | exact belowH_renrows (plainLbs _) | exact belowH_cnt hc | rfl))) ?_ ?_ <;> (repeat' (first | (with_reducible rfl) | exact trivial | (exact sl_eq rfl (by first | omega | (simp (disch := omega) only [lnB, wrap64, wrap32] <;> omega) | (simp; done) | (simp <;> omega))) | (exact congrArg (SV.int _) (by first | omega | (simp (disch := omega) only [lnB, wrap64, wrap32] <;> omega) | (simp; done) | (simp <;> omega))) | (exact box_int (by first | omega | (simp (disch := omega) only [lnB, wrap64, wrap32] <;> omega) | (simp; done) | (simp <;> omega))) | (exact box_sl (by first | omega | (simp (disch := omega) only [lnB, wrap64, wrap32] <;> omega) | (simp; done) | (simp <;> omega))) | (exact renH_plain _ (h := .rows _ _) (plainLbs _)) | (exact congrArg (Hp.rows _) (by rfl)) | ((conv => whnf); refine ⟨?_, ?_⟩) | rfl)))
      · have hs := hc.lost (s := lab (i + 1)) hf
        have hsu := freshL_succ used i
        rw [if_neg hs] at hsu
        conv => whnf
        repeat' ((first | with_reducible refine IF.tt ?_ | with_reducible refine IF.ff ?_ | (refine NEED.mk (needApp 16 rfl rfl rfl (by simp) (by omega)) ?_; conv => whnf) | refine NEED.au ?_ | ((with_reducible apply GET.at); rfl) | ((with_reducible apply GETG.at); rfl) | ((with_reducible refine UNK.mk (fun h => ?_) ?_) <;> try (exfalso; omega)) | ((with_reducible refine IF.mk (fun h => ?_) (fun h => ?_)) <;> (try simp (disch := omega) only [hsB, hsC, lnB, wrap64, wrap32, simprocAttr] at h) <;> try (exfalso; omega))) <;> conv => whnf)
        refine ⟨i + 1, by rw [hsu, List.length_append, List.length_singleton]; omega, by omega, ?_⟩
        rw [hsu, h6]
        conv => whnf
        (refine GOES.keeping h0 [1, 4] rfl rfl rfl (by (repeat' (first | (refine belowO_cons rfl ?_ ?_) | exact belowH_rows (plainLbs _) | exact belowH_renrows (plainLbs _) | exact belowH_cnt hc | rfl))) ?_ ?_ <;> (repeat' (first | (exact (renH_plain _ (h := .mp _) hc.plain).symm) | (with_reducible rfl) | exact trivial | (exact sl_eq rfl (by first | omega | (simp (disch := omega) only [lnB, wrap64, wrap32] <;> omega) | (simp; done) | (simp <;> omega))) | (exact congrArg (SV.int _) (by first | omega | (simp (disch := omega) only [lnB, wrap64, wrap32] <;> omega) | (simp; done) | (simp <;> omega))) | (exact box_int (by first | omega | (simp (disch := omega) only [lnB, wrap64, wrap32] <;> omega) | (simp; done) | (simp <;> omega))) | (exact box_sl (by first | omega | (simp (disch := omega) only [lnB, wrap64, wrap32] <;> omega) | (simp; done) | (simp <;> omega))) | (exact (renH_plain _ (h := .rows _ _) (plainLbs _)).symm) | (exact (renH_plain _ (h := .rows _ _) (plainLbs _)).trans (renH_plain _ (h := .rows _ _) (plainLbs _)).symm) | (exact rows_eq (plainLbs _) (by (simp [List.take_of_length_le, ofVal, lbRow, lab]))) | ((conv => whnf); refine ⟨?_, ?_⟩) | (simp only [ren, renB]; done) | rfl)))
    · have hlen : (freshL used i).length = n.toNat := by omega
      rw [← fresh_of used hlen]
      repeat' ((first | with_reducible refine IF.tt ?_ | with_reducible refine IF.ff ?_ | refine NEED.au ?_ | ((with_reducible apply GET.at); rfl) | ((with_reducible apply GETG.at); rfl) | ((with_reducible refine UNK.mk (fun h => ?_) ?_) <;> try (exfalso; omega)) | ((with_reducible refine IF.mk (fun h => ?_) (fun h => ?_)) <;> (try simp (disch := omega) only [hsB, hsC, lnB, wrap64, wrap32, simprocAttr] at h) <;> try (exfalso; omega))) <;> conv => whnf)
      refine FIN.at h0 [2] (.sl (.loc 1) 0 1 (freshL used i).length none) [(1, .rows 1 ((freshL used i).map lbRow))] rfl rfl rfl (by first | rfl | (simp only [belowO, belowH, plainLL_below _ (plainLbs _), Bool.and_self, Bool.and_true] <;> rfl)) (by repeat' (first | exact trivial | exact (renH_plain _ (h := .rows _ _) (plainLbs _)).symm | (with_reducible rfl) | (exact (renH_plain _ (h := .rows _ _) (plainLbs _)).trans (renH_plain _ (h := .rows _ _) (plainLbs _)).symm) | (exact rows_eq (plainLbs _) (by simp [lbRow, ofVal, List.take_of_length_le])) | exact rfl | ((conv => whnf); refine ⟨?_, ?_⟩))) rfl ?_
      exact ⟨rfl, rfl, rfl⟩
end Go.Proofs.YtpnphbjoalbejaaDoor
/- The library's strconv.Itoa, told to the engine. Conditions: none. -/
set_option linter.unusedVariables false
set_option linter.unusedSimpArgs false
namespace Go.Sx
open Go Go.Sort Go.Shelf Go.Proofs
theorem FrW.grew {w0 w : World} {F : Nat → Prop} (h : FrW w0 w F) (q : Nat) (os : Array Obj) : FrW w0 (grow (w.drewN q) os) F := by
  refine ⟨h.os, h.tape, h.output, Nat.le_trans h.drawn (Nat.le_add_right _ _), ?_, fun k hk hF => ?_⟩
  · simp only [grow, World.drewN, Array.size_append]; exact Nat.le_trans h.size (Nat.le_add_right _ _)
  · simp only [grow, World.drewN]
    rw [Array.getElem?_append_left (Nat.lt_of_lt_of_le hk h.size)]
    exact h.block k hk hF
theorem HeapOK.grew {M : Mx} {η : Env} {w : World} {O : Hps} {nx : Nat} (H : HeapOK M η w O nx) (q : Nat) (os : Array Obj) : HeapOK M η (grow (w.drewN q) os) O nx := by
  have hk : ∀ {i h}, lkp i O = some h → ∀ k, feet η w (.loc i) h k → (grow (w.drewN q) os).heap[k]? = w.heap[k]? := fun hi k f => by
    simp only [grow, World.drewN]
    exact Array.getElem?_append_left ((H.own.1 _ _ hi).1.feet_lt f)
  have hb : ∀ {i h}, lkp i O = some h → ∀ k, feet η (grow (w.drewN q) os) (.loc i) h k → feet η w (.loc i) h k := fun hi k f => H.stands List.prefix_rfl hi (hk hi) f
  exact ⟨H.pre, H.len, ⟨fun i h hi => ⟨(H.own.1 i h hi).1.keep (hk hi), fun k f => (H.own.1 i h hi).2 k (hb hi k f)⟩, fun i j h h' k hi hj hij f f' => H.own.2 i j h h' k hi hj hij (hb hi k f) (hb hj k f')⟩, H.fr.grew q os, H.sok⟩
theorem itoa_does {P : Program} {T : Tab} {ρ : Ren} (L : LaysM.n243 P ρ) (ef : ∀ args w, (callFunc (ρ.f 243) args).run P w = .ok (.enter (ρ.f 243) args) w) {g : Nat} (hgn : P.globalNamed "internal/strconv.uint64pow10" = some g)
    (hgl : lkp g T.globs = some (.tbl (Lib.pow10Tab.map fun z => Value.int .u64 z))) (n : Int) (h0 : -9223372036854775808 ≤ n) (h1 : n ≤ 9223372036854775807) :
    Does P T (ρ.f 243) 0 [.int .i64 n] [] [] (Val (.str (Lib.itoa n))) := by
  refine ⟨fun M vs hP hT' hF hS H hd => .inl ⟨ρ.f 243, by rw [hP]; exact ef _ _, ?_⟩⟩
  obtain ⟨P', ⟨T', N', S', ro'⟩, w0, F, η0⟩ := M
  simp only at hP hT' hF hS H hd ⊢
  subst hP hT'
  simp only [DenL, Den] at hd
  obtain ⟨v, us, rfl, rfl, rfl⟩ := hd
  have htab : Lib.TabIs P' w0 "internal/strconv.uint64pow10" .u64 Lib.pow10Tab := by
    have h := H.shared (b := .glob g) hgl
    simp only [HpSat, Env.get] at h
    obtain ⟨e, he, hb, T, fz, hc⟩ := h
    injection he with he; injection he with he; subst he
    unfold Lib.TabIs World.var?
    rw [hgn]
    simp only [Option.bind_some]
    rw [hc]
  refine (Any.internal_strconv_Itoa L n h0 h1 w0 htab).mono ?_
  rintro e w' ⟨rfl, q, os, rfl⟩
  exact ⟨_, rfl, _, _, _, η0, ⟨rfl, rfl, rfl⟩, List.prefix_rfl, H.grew q os, by simp only [Den]⟩
end Go.Sx
/- The program's Fresh, walked. Conditions: none. -/
set_option linter.unusedVariables false
set_option linter.unusedSimpArgs false
set_option maxRecDepth 20000
set_option maxHeartbeats 8000000
namespace Go.Proofs.YtpnphbjoalbejaaDoor
open Go.Sx Go.Our Go.Lib
def itoaL_ren : Go.Shelf.Ren := ⟨fun | 243 => 9 | 246 => 10 | 283 => 11 | 284 => 12 | 285 => 13 | 286 => 14 | 129 => 16 | 317 => 15 | 318 => 17 | 319 => 18 | 320 => 19 | 337 => 20 | 338 => 21 | n => n, fun | 3 => 3 | 9 => 9 | 2 => 2 | 4 => 4 | 171 => 29 | 0 => 0 | 53 => 30 | 37 => 27 | 5 => 5 | 173 => 33 | 212 => 37 | 51 => 38 | 20 => 20 | 213 => 39 | 46 => 41 | 232 => 44 | 233 => 45 | n => n, fun | 17 => 0 | 18 => 1 | 19 => 2 | n => n⟩
theorem itoaL : Go.Proofs.LaysM.n243 Tryd.prog itoaL_ren where
  mixed := by kernel_rfl
  f129 := Tryd.func16.trans (congrArg some (by kernel_rfl))
  f243 := Tryd.func9.trans (congrArg some (by kernel_rfl))
  f246 := Tryd.func10.trans (congrArg some (by kernel_rfl))
  f283 := Tryd.func11.trans (congrArg some (by kernel_rfl))
  f284 := Tryd.func12.trans (congrArg some (by kernel_rfl))
  f285 := Tryd.func13.trans (congrArg some (by kernel_rfl))
  f286 := Tryd.func14.trans (congrArg some (by kernel_rfl))
  f317 := Tryd.func15.trans (congrArg some (by kernel_rfl))
  f318 := Tryd.func17.trans (congrArg some (by kernel_rfl))
  f319 := Tryd.func18.trans (congrArg some (by kernel_rfl))
  f320 := Tryd.func19.trans (congrArg some (by kernel_rfl))
  f337 := Tryd.func20.trans (congrArg some (by kernel_rfl))
  f338 := Tryd.func21.trans (congrArg some (by kernel_rfl))
  t0 := Tryd.underlying0
  a0 := Tryd.isAgg0
  z0 := Tryd.sizeOf0
  v0 := Tryd.zeroValue0
  t2 := Tryd.underlying2
  a2 := Tryd.isAgg2
  z2 := Tryd.sizeOf2
  v2 := Tryd.zeroValue2
  t3 := Tryd.underlying3
  a3 := Tryd.isAgg3
  z3 := Tryd.sizeOf3
  v3 := Tryd.zeroValue3
  t4 := Tryd.underlying4
  a4 := Tryd.isAgg4
  z4 := Tryd.sizeOf4
  v4 := Tryd.zeroValue4
  t5 := Tryd.underlying5
  a5 := Tryd.isAgg5
  z5 := Tryd.sizeOf5
  v5 := Tryd.zeroValue5
  t9 := Tryd.underlying9
  a9 := Tryd.isAgg9
  z9 := Tryd.sizeOf9
  v9 := Tryd.zeroValue9
  t20 := Tryd.underlying20
  a20 := Tryd.isAgg20
  z20 := Tryd.sizeOf20
  v20 := Tryd.zeroValue20
  t37 := Tryd.underlying27
  a37 := Tryd.isAgg27
  z37 := Tryd.sizeOf27
  v37 := Tryd.zeroValue27
  t46 := Tryd.underlying41
  a46 := Tryd.isAgg41
  z46 := Tryd.sizeOf41
  v46 := Tryd.zeroValue41
  t51 := Tryd.underlying38
  a51 := Tryd.isAgg38
  z51 := Tryd.sizeOf38
  v51 := Tryd.zeroValue38
  t53 := Tryd.underlying30
  a53 := Tryd.isAgg30
  z53 := Tryd.sizeOf30
  v53 := Tryd.zeroValue30
  t171 := Tryd.underlying29
  a171 := Tryd.isAgg29
  z171 := Tryd.sizeOf29
  v171 := Tryd.zeroValue29
  t173 := Tryd.underlying33
  a173 := Tryd.isAgg33
  z173 := Tryd.sizeOf33
  v173 := Tryd.zeroValue33
  t212 := Tryd.underlying37
  a212 := Tryd.isAgg37
  z212 := Tryd.sizeOf37
  v212 := Tryd.zeroValue37
  t213 := Tryd.underlying39
  a213 := Tryd.isAgg39
  z213 := Tryd.sizeOf39
  t232 := Tryd.underlying44
  a232 := Tryd.isAgg44
  z232 := Tryd.sizeOf44
  v232 := Tryd.zeroValue44
  t233 := Tryd.underlying45
  a233 := Tryd.isAgg45
  z233 := Tryd.sizeOf45
  v233 := Tryd.zeroValue45
  g17 := by kernel_rfl
  g18 := by kernel_rfl
  g19 := by kernel_rfl
  i0 := by kernel_rfl
  i2 := by kernel_rfl
  i3 := by kernel_rfl
  i4 := by kernel_rfl
  i5 := by kernel_rfl
  i9 := by kernel_rfl
  i20 := by kernel_rfl
  i37 := by kernel_rfl
  i46 := by kernel_rfl
  i51 := by kernel_rfl
  i53 := by kernel_rfl
  i171 := by kernel_rfl
  i173 := by kernel_rfl
  i212 := by kernel_rfl
  i232 := by kernel_rfl
  i233 := by kernel_rfl
  m17 := by kernel_rfl
  m18 := by kernel_rfl
  m19 := by kernel_rfl
theorem itoa1_does (n : Int) (h0 : -9223372036854775808 ≤ n) (h1 : n ≤ 9223372036854775807) : Does Tryd.prog tab 9 0 [.int .i64 n] [] [] (Val (.str (itoa n))) :=
  itoa_does itoaL Tryd.call9 (g := 0) (by kernel_rfl) (by kernel_rfl) n h0 h1
theorem itoa2_does (k : Nat) (hk : k < 4611686018427387904) : Does Tryd.prog tab 8 0 [.int .i64 (k : Int)] [] [] (Val (.str (decDigits k))) := by
  have e : itoa (k : Int) = decDigits k := by unfold itoa; rw [if_neg (by omega), Int.toNat_natCast]
  refine Does.enter tabOK (g := 8) (fn := Tryd.f8) Tryd.call8 Tryd.func8 rfl 5 rfl rfl [.tmp 2] rfl ?_
  intro w0 F η0 h0
  conv => whnf
  repeat' ((first | with_reducible refine IF.tt ?_ | with_reducible refine IF.ff ?_ | refine CALL.value (itoa1_does (k : Int) (by omega) (by omega)) rfl rfl ?_ | refine NEED.au ?_ | ((with_reducible apply GET.at); rfl) | ((with_reducible apply GETG.at); rfl) | ((with_reducible refine UNK.mk (fun h => ?_) ?_) <;> try (exfalso; omega)) | ((with_reducible refine IF.mk (fun h => ?_) (fun h => ?_)) <;> (try simp (disch := omega) only [hsB, hsC, lnB, wrap64, wrap32, simprocAttr] at h) <;> try (exfalso; omega))) <;> conv => whnf)
  exact FIN.value h0 rfl (congrArg SV.str e)
theorem gfresh_does (used z : List (List UInt8)) (lim : Option Nat) (n : Int) (hn : n ≤ 10000) (hu : used.length * 16 ≤ 140737488351232) (hz : (used ++ z).length ≤ 1152921504606846976) : Does Tryd.prog tab 6 1 [.sl (.loc 0) 0 1 used.length lim, .int .i64 n] [] [(0, .rows 1 ((used ++ z).map lbRow))] (NewL 1 (fresh used n.toNat)) := by
  refine Does.enter tabOK (g := 6) (fn := Tryd.f6) Tryd.call6 Tryd.func6 rfl 41 rfl rfl [.tmp 4] rfl ?_
  intro w0 F η0 h0
  conv => whnf
  repeat' ((first | with_reducible refine IF.tt ?_ | with_reducible refine IF.ff ?_ | refine NEED.au ?_ | ((with_reducible apply GET.at); rfl) | ((with_reducible apply GETG.at); rfl) | ((with_reducible refine UNK.mk (fun h => ?_) ?_) <;> try (exfalso; omega)) | ((with_reducible refine IF.mk (fun h => ?_) (fun h => ?_)) <;> (try simp (disch := omega) only [hsB, hsC, lnB, wrap64, wrap32, simprocAttr] at h) <;> try (exfalso; omega))) <;> conv => whnf)
  refine LOOP.gok tabOK [1, 5, 12, 13] [] (X := Nat × List (List SV)) (fun x => x.1 ≤ used.length ∧ Cnt (used.take x.1) x.2) (fun x => [(14, .int .i64 (x.1 : Int))]) (fun x => [(1, .mp x.2)]) 2 (fun x => used.length - x.1) (0, []) ⟨by simp, Cnt.nil⟩ ?_
  conv => whnf
  refine ⟨by (refine GOES.cutting h0 rfl rfl rfl (by (repeat' (first | (refine belowO_cons rfl ?_ ?_) | exact belowH_rows (plainLbs _) | exact belowH_renrows (plainLbs _) | exact belowH_cnt Cnt.nil | rfl))) ?_ ?_ <;> (repeat' (first | (with_reducible rfl) | exact trivial | (exact sl_eq rfl (by first | omega | (simp (disch := omega) only [lnB, wrap64, wrap32] <;> omega) | (simp; done) | (simp <;> omega))) | (exact congrArg (SV.int _) (by first | omega | (simp (disch := omega) only [lnB, wrap64, wrap32] <;> omega) | (simp; done) | (simp <;> omega))) | (exact box_int (by first | omega | (simp (disch := omega) only [lnB, wrap64, wrap32] <;> omega) | (simp; done) | (simp <;> omega))) | (exact box_sl (by first | omega | (simp (disch := omega) only [lnB, wrap64, wrap32] <;> omega) | (simp; done) | (simp <;> omega))) | (exact renH_plain _ (h := .rows _ _) (plainLbs _)) | (exact congrArg (Hp.rows _) (by rfl)) | ((conv => whnf); refine ⟨?_, ?_⟩) | rfl))), ?_⟩
  rintro ⟨i, rs⟩ ⟨hi, hc⟩
  dsimp only at hi hc
  conv => whnf
  by_cases hil : i < used.length
  · repeat' ((first | with_reducible refine IF.tt ?_ | with_reducible refine IF.ff ?_ | (refine GET.at (row := lbRow (used[i]'(by omega))) (lb_get (by omega) (by omega)) ?_; conv => whnf) | (refine NEED.mk ⟨keyOK_str _, hc.str.ok⟩ ?_; conv => whnf) | refine NEED.au ?_ | ((with_reducible apply GET.at); rfl) | ((with_reducible apply GETG.at); rfl) | ((with_reducible refine UNK.mk (fun h => ?_) ?_) <;> try (exfalso; omega)) | ((with_reducible refine IF.mk (fun h => ?_) (fun h => ?_)) <;> (try simp (disch := omega) only [hsB, hsC, lnB, wrap64, wrap32, simprocAttr] at h) <;> try (exfalso; omega))) <;> conv => whnf)
    have h5 : IntKind.i64.wrap ((i : Int) + 1) = ((i + 1 : Nat) : Int) := by rw [wrap64 (by omega) (by omega)]; omega
    have hstep : ∀ k : Nat, 0 < k → k ≤ i + 1 → Cnt (used.take (i + 1)) (setM KS (.str used[i]) (.int .i64 (k : Int)) rs) := by
      intro k g0 g1
      rw [List.take_succ_eq_append_getElem hil]
      exact hc.step _ g0 (by rw [List.length_take]; omega)
    refine FIND.mk (fun idx v hf => ?_) (fun hf => ?_)
    · obtain ⟨hs, kk, g0, g1, rfl⟩ := hc.found (s := used[i]) hf
      rw [List.length_take] at g1
      have h7 : IntKind.i64.wrap ((kk : Int) + 1) = ((kk + 1 : Nat) : Int) := by rw [wrap64 (by omega) (by omega)]; omega
      have hst := hstep (kk + 1) (by omega) (by omega)
      conv => whnf
      repeat' ((first | with_reducible refine IF.tt ?_ | with_reducible refine IF.ff ?_ | (refine NEED.mk ⟨keyOK_str _, hc.str.ok⟩ ?_; conv => whnf) | refine NEED.au ?_ | ((with_reducible apply GET.at); rfl) | ((with_reducible apply GETG.at); rfl) | ((with_reducible refine UNK.mk (fun h => ?_) ?_) <;> try (exfalso; omega)) | ((with_reducible refine IF.mk (fun h => ?_) (fun h => ?_)) <;> (try simp (disch := omega) only [hsB, hsC, lnB, wrap64, wrap32, simprocAttr] at h) <;> try (exfalso; omega))) <;> conv => whnf)
      refine ⟨(i + 1, _), ⟨by dsimp only; omega, hst⟩, by dsimp only; omega, ?_⟩
      dsimp only
      rw [h5, h7]
      conv => whnf
      (refine GOES.cutting h0 rfl rfl rfl (by (repeat' (first | (refine belowO_cons rfl ?_ ?_) | exact belowH_rows (plainLbs _) | exact belowH_renrows (plainLbs _) | exact belowH_cnt hst | rfl))) ?_ ?_ <;> (repeat' (first | (with_reducible rfl) | exact trivial | (exact sl_eq rfl (by first | omega | (simp (disch := omega) only [lnB, wrap64, wrap32] <;> omega) | (simp; done) | (simp <;> omega))) | (exact congrArg (SV.int _) (by first | omega | (simp (disch := omega) only [lnB, wrap64, wrap32] <;> omega) | (simp; done) | (simp <;> omega))) | (exact box_int (by first | omega | (simp (disch := omega) only [lnB, wrap64, wrap32] <;> omega) | (simp; done) | (simp <;> omega))) | (exact box_sl (by first | omega | (simp (disch := omega) only [lnB, wrap64, wrap32] <;> omega) | (simp; done) | (simp <;> omega))) | (exact renH_plain _ (h := .rows _ _) (plainLbs _)) | (exact congrArg (Hp.rows _) (by rfl)) | ((conv => whnf); refine ⟨?_, ?_⟩) | rfl)))
    · have hst := hstep 1 (by omega) (by omega)
      conv => whnf
      repeat' ((first | with_reducible refine IF.tt ?_ | with_reducible refine IF.ff ?_ | (refine NEED.mk ⟨keyOK_str _, hc.str.ok⟩ ?_; conv => whnf) | refine NEED.au ?_ | ((with_reducible apply GET.at); rfl) | ((with_reducible apply GETG.at); rfl) | ((with_reducible refine UNK.mk (fun h => ?_) ?_) <;> try (exfalso; omega)) | ((with_reducible refine IF.mk (fun h => ?_) (fun h => ?_)) <;> (try simp (disch := omega) only [hsB, hsC, lnB, wrap64, wrap32, simprocAttr] at h) <;> try (exfalso; omega))) <;> conv => whnf)
      refine ⟨(i + 1, _), ⟨by dsimp only; omega, hst⟩, by dsimp only; omega, ?_⟩
      dsimp only
      rw [h5]
      conv => whnf
      (refine GOES.cutting h0 rfl rfl rfl (by (repeat' (first | (refine belowO_cons rfl ?_ ?_) | exact belowH_rows (plainLbs _) | exact belowH_renrows (plainLbs _) | exact belowH_cnt hst | rfl))) ?_ ?_ <;> (repeat' (first | (with_reducible rfl) | exact trivial | (exact sl_eq rfl (by first | omega | (simp (disch := omega) only [lnB, wrap64, wrap32] <;> omega) | (simp; done) | (simp <;> omega))) | (exact congrArg (SV.int _) (by first | omega | (simp (disch := omega) only [lnB, wrap64, wrap32] <;> omega) | (simp; done) | (simp <;> omega))) | (exact box_int (by first | omega | (simp (disch := omega) only [lnB, wrap64, wrap32] <;> omega) | (simp; done) | (simp <;> omega))) | (exact box_sl (by first | omega | (simp (disch := omega) only [lnB, wrap64, wrap32] <;> omega) | (simp; done) | (simp <;> omega))) | (exact renH_plain _ (h := .rows _ _) (plainLbs _)) | (exact congrArg (Hp.rows _) (by rfl)) | ((conv => whnf); refine ⟨?_, ?_⟩) | rfl)))
  · have hie : i = used.length := by omega
    subst hie
    rw [List.take_length] at hc
    repeat' ((first | with_reducible refine IF.tt ?_ | with_reducible refine IF.ff ?_ | refine NEED.au ?_ | ((with_reducible apply GET.at); rfl) | ((with_reducible apply GETG.at); rfl) | ((with_reducible refine UNK.mk (fun h => ?_) ?_) <;> try (exfalso; omega)) | ((with_reducible refine IF.mk (fun h => ?_) (fun h => ?_)) <;> (try simp (disch := omega) only [hsB, hsC, lnB, wrap64, wrap32, simprocAttr] at h) <;> try (exfalso; omega))) <;> conv => whnf)
    refine LOOP.nil 8 1 rfl ?_
    refine LOOP.gok tabOK [1, 5] [1] (X := Nat) (fun i => (freshL used i).length ≤ n.toNat) (fun i => [(9, .int .i64 ((i : Int) + 1)), (8, .sl (.loc 2) 0 1 (freshL used i).length none)]) (fun i => [(2, .rows 1 ((freshL used i).map lbRow))]) 3 (fun i => used.length + n.toNat - i) 0 (by simp [freshL_zero]) ?_
    conv => whnf
    refine ⟨by (refine GOES.cutting h0 rfl rfl rfl (by (repeat' (first | (refine belowO_cons rfl ?_ ?_) | exact belowH_rows (plainLbs _) | exact belowH_renrows (plainLbs _) | exact belowH_cnt hc | rfl))) ?_ ?_ <;> (repeat' (first | (with_reducible rfl) | exact trivial | (exact sl_eq rfl (by first | omega | (simp (disch := omega) only [lnB, wrap64, wrap32] <;> omega) | (simp; done) | (simp <;> omega))) | (exact congrArg (SV.int _) (by first | omega | (simp (disch := omega) only [lnB, wrap64, wrap32] <;> omega) | (simp; done) | (simp <;> omega))) | (exact box_int (by first | omega | (simp (disch := omega) only [lnB, wrap64, wrap32] <;> omega) | (simp; done) | (simp <;> omega))) | (exact box_sl (by first | omega | (simp (disch := omega) only [lnB, wrap64, wrap32] <;> omega) | (simp; done) | (simp <;> omega))) | (exact renH_plain _ (h := .rows _ _) (plainLbs _)) | (exact congrArg (Hp.rows _) (by rfl)) | ((conv => whnf); refine ⟨?_, ?_⟩) | rfl))), ?_⟩
    intro i hi
    have hlost := freshL_lost used i
    have hle := freshL_len used i
    conv => whnf
    by_cases hil : ((freshL used i).length : Int) < n
    · have hdl := dec_len (i + 1)
      have h6 : IntKind.i64.wrap ((i : Int) + 1 + 1) = ((i + 1 : Nat) : Int) + 1 := by rw [wrap64 (by omega) (by omega)]; omega
      repeat' ((first | with_reducible refine IF.tt ?_ | with_reducible refine IF.ff ?_ | refine CALL.value (itoa2_does (i + 1) (by omega)) rfl rfl ?_ | (refine NEED.mk (by simp; omega) ?_; conv => whnf) | (refine NEED.mk ⟨keyOK_str _, hc.str.ok⟩ ?_; conv => whnf) | refine NEED.au ?_ | ((with_reducible apply GET.at); rfl) | ((with_reducible apply GETG.at); rfl) | ((with_reducible refine UNK.mk (fun h => ?_) ?_) <;> try (exfalso; omega)) | ((with_reducible refine IF.mk (fun h => ?_) (fun h => ?_)) <;> (try simp (disch := omega) only [hsB, hsC, lnB, wrap64, wrap32, simprocAttr] at h) <;> try (exfalso; omega))) <;> conv => whnf)
      refine FIND.mk (fun idx v hf => ?_) (fun hf => ?_)
      · obtain ⟨hs, kk, g0, g1, rfl⟩ := hc.found (s := lab (i + 1)) hf
        have hsu := freshL_succ used i
        rw [if_pos hs, List.append_nil] at hsu
        conv => whnf
        repeat' ((first | with_reducible refine IF.tt ?_ | with_reducible refine IF.ff ?_ | refine NEED.au ?_ | ((with_reducible apply GET.at); rfl) | ((with_reducible apply GETG.at); rfl) | ((with_reducible refine UNK.mk (fun h => ?_) ?_) <;> try (exfalso; omega)) | ((with_reducible refine IF.mk (fun h => ?_) (fun h => ?_)) <;> (try simp (disch := omega) only [hsB, hsC, lnB, wrap64, wrap32, simprocAttr] at h) <;> try (exfalso; omega))) <;> conv => whnf)
        all_goals try (exfalso; simp at h; omega)
        refine ⟨i + 1, by rw [hsu]; exact hi, by omega, ?_⟩
        rw [hsu, h6]
        conv => whnf
        (refine GOES.cutting h0 rfl rfl rfl (by (repeat' (first | (refine belowO_cons rfl ?_ ?_) | exact belowH_rows (plainLbs _) | exact belowH_renrows (plainLbs _) | exact belowH_cnt hc | rfl))) ?_ ?_ <;> (repeat' (first | (with_reducible rfl) | exact trivial | (exact sl_eq rfl (by first | omega | (simp (disch := omega) only [lnB, wrap64, wrap32] <;> omega) | (simp; done) | (simp <;> omega))) | (exact congrArg (SV.int _) (by first | omega | (simp (disch := omega) only [lnB, wrap64, wrap32] <;> omega) | (simp; done) | (simp <;> omega))) | (exact box_int (by first | omega | (simp (disch := omega) only [lnB, wrap64, wrap32] <;> omega) | (simp; done) | (simp <;> omega))) | (exact box_sl (by first | omega | (simp (disch := omega) only [lnB, wrap64, wrap32] <;> omega) | (simp; done) | (simp <;> omega))) | (exact renH_plain _ (h := .rows _ _) (plainLbs _)) | (exact congrArg (Hp.rows _) (by rfl)) | ((conv => whnf); refine ⟨?_, ?_⟩) | rfl)))
      · have hs := hc.lost (s := lab (i + 1)) hf
        have hsu := freshL_succ used i
        rw [if_neg hs] at hsu
        conv => whnf
        repeat' ((first | with_reducible refine IF.tt ?_ | with_reducible refine IF.ff ?_ | (refine NEED.mk (needApp 16 rfl rfl rfl (by simp) (by omega)) ?_; conv => whnf) | refine NEED.au ?_ | ((with_reducible apply GET.at); rfl) | ((with_reducible apply GETG.at); rfl) | ((with_reducible refine UNK.mk (fun h => ?_) ?_) <;> try (exfalso; omega)) | ((with_reducible refine IF.mk (fun h => ?_) (fun h => ?_)) <;> (try simp (disch := omega) only [hsB, hsC, lnB, wrap64, wrap32, simprocAttr] at h) <;> try (exfalso; omega))) <;> conv => whnf)
        refine ⟨i + 1, by rw [hsu, List.length_append, List.length_singleton]; omega, by omega, ?_⟩
        rw [hsu, h6]
        conv => whnf
        (refine GOES.keeping h0 [1, 4] rfl rfl rfl (by (repeat' (first | (refine belowO_cons rfl ?_ ?_) | exact belowH_rows (plainLbs _) | exact belowH_renrows (plainLbs _) | exact belowH_cnt hc | rfl))) ?_ ?_ <;> (repeat' (first | (exact (renH_plain _ (h := .mp _) hc.plain).symm) | (with_reducible rfl) | exact trivial | (exact sl_eq rfl (by first | omega | (simp (disch := omega) only [lnB, wrap64, wrap32] <;> omega) | (simp; done) | (simp <;> omega))) | (exact congrArg (SV.int _) (by first | omega | (simp (disch := omega) only [lnB, wrap64, wrap32] <;> omega) | (simp; done) | (simp <;> omega))) | (exact box_int (by first | omega | (simp (disch := omega) only [lnB, wrap64, wrap32] <;> omega) | (simp; done) | (simp <;> omega))) | (exact box_sl (by first | omega | (simp (disch := omega) only [lnB, wrap64, wrap32] <;> omega) | (simp; done) | (simp <;> omega))) | (exact (renH_plain _ (h := .rows _ _) (plainLbs _)).symm) | (exact (renH_plain _ (h := .rows _ _) (plainLbs _)).trans (renH_plain _ (h := .rows _ _) (plainLbs _)).symm) | (exact rows_eq (plainLbs _) (by (simp [List.take_of_length_le, ofVal, lbRow, lab]))) | ((conv => whnf); refine ⟨?_, ?_⟩) | (simp only [ren, renB]; done) | rfl)))
    · have hlen : (freshL used i).length = n.toNat := by omega
      rw [← fresh_of used hlen]
      repeat' ((first | with_reducible refine IF.tt ?_ | with_reducible refine IF.ff ?_ | refine NEED.au ?_ | ((with_reducible apply GET.at); rfl) | ((with_reducible apply GETG.at); rfl) | ((with_reducible refine UNK.mk (fun h => ?_) ?_) <;> try (exfalso; omega)) | ((with_reducible refine IF.mk (fun h => ?_) (fun h => ?_)) <;> (try simp (disch := omega) only [hsB, hsC, lnB, wrap64, wrap32, simprocAttr] at h) <;> try (exfalso; omega))) <;> conv => whnf)
      refine FIN.at h0 [2] (.sl (.loc 1) 0 1 (freshL used i).length none) [(1, .rows 1 ((freshL used i).map lbRow))] rfl rfl rfl (by first | rfl | (simp only [belowO, belowH, plainLL_below _ (plainLbs _), Bool.and_self, Bool.and_true] <;> rfl)) (by repeat' (first | exact trivial | exact (renH_plain _ (h := .rows _ _) (plainLbs _)).symm | (with_reducible rfl) | (exact (renH_plain _ (h := .rows _ _) (plainLbs _)).trans (renH_plain _ (h := .rows _ _) (plainLbs _)).symm) | (exact rows_eq (plainLbs _) (by simp [lbRow, ofVal, List.take_of_length_le])) | exact rfl | ((conv => whnf); refine ⟨?_, ?_⟩))) rfl ?_
      exact ⟨rfl, rfl, rfl⟩
end Go.Proofs.YtpnphbjoalbejaaDoor
/- Chapter 11's law of Fresh; walked. Conditions: as many labels as memory bears. -/
set_option linter.unusedVariables false
set_option linter.unusedSimpArgs false
set_option maxRecDepth 20000
set_option maxHeartbeats 8000000
namespace Go.Proofs.YtpnphbjoalbejaaDoor
open Go.Sx Go.Our Go.Lib
def plLawFresh0 : Plan := (planOf [(0, 1), (1, 1), (2, 1), (4, 1), (5, 1), (6, 1), (3, 2), (7, 2), (8, 1)])
theorem tfresh_does (used z : List (List UInt8)) (lim : Option Nat) (n : Int) (hn : n ≤ 10000) (hu : used.length * 16 ≤ 140737488351232) (hz : (used ++ z).length ≤ 1152921504606846976) : Does Tryd.prog tab 4 1 [.sl (.loc 0) 0 1 used.length lim, .int .i64 n] [] [(0, .rows 1 ((used ++ z).map lbRow))] (NewL 1 (fresh used n.toNat)) := by
  refine Does.enter tabOK (g := 4) (fn := Tryd.f4) Tryd.call4 Tryd.func4 rfl 8 rfl rfl [.tmp 4] rfl ?_
  intro w0 F η0 h0
  conv => whnf
  repeat' ((first | with_reducible refine IF.tt ?_ | with_reducible refine IF.ff ?_ | refine NEED.au ?_ | ((with_reducible apply GET.at); rfl) | ((with_reducible apply GETG.at); rfl) | ((with_reducible refine UNK.mk (fun h => ?_) ?_) <;> try (exfalso; omega)) | ((with_reducible refine IF.mk (fun h => ?_) (fun h => ?_)) <;> (try simp (disch := omega) only [hsB, hsC, lnB, wrap64, wrap32, simprocAttr] at h) <;> try (exfalso; omega))) <;> conv => whnf)
  refine CALL.at [0] (gfresh_does used z lim n hn hu hz) rfl rfl rfl rfl (by first | rfl | (simp only [belowO, belowH, plainLL_below _ (plainLbs _), Bool.and_self, Bool.and_true] <;> rfl)) (by first | rfl | (simp only [belowO, belowH, plainLL_below _ (plainLbs _), Bool.and_self, Bool.and_true] <;> rfl)) (by repeat' (first | exact trivial | exact (renH_plain _ (h := .rows _ _) (plainLbs _)).symm | exact rfl | exact (renH_plain _ (h := .rows _ _) (plainLbs _)).trans (renH_plain _ (h := .rows _ _) (plainLbs _)).symm | ((conv => whnf); refine ⟨?_, ?_⟩))) (by repeat' (first | exact trivial | exact (renH_plain _ (h := .rows _ _) (plainLbs _)).symm | exact rfl | exact (renH_plain _ (h := .rows _ _) (plainLbs _)).trans (renH_plain _ (h := .rows _ _) (plainLbs _)).symm | ((conv => whnf); refine ⟨?_, ?_⟩))) rfl rfl ?_
  rintro r O nx ⟨rfl, rfl, rfl⟩
  conv => whnf
  repeat' ((first | with_reducible refine IF.tt ?_ | with_reducible refine IF.ff ?_ | refine NEED.au ?_ | ((with_reducible apply GET.at); rfl) | ((with_reducible apply GETG.at); rfl) | ((with_reducible refine UNK.mk (fun h => ?_) ?_) <;> try (exfalso; omega)) | ((with_reducible refine IF.mk (fun h => ?_) (fun h => ?_)) <;> (try simp (disch := omega) only [hsB, hsC, lnB, wrap64, wrap32, simprocAttr] at h) <;> try (exfalso; omega))) <;> conv => whnf)
  refine FIN.at h0 [1] (.sl (.loc 1) 0 1 (fresh used n.toNat).length none) [(1, .rows 1 ((fresh used n.toNat).map lbRow))] rfl rfl rfl (by first | rfl | (simp only [belowO, belowH, plainLL_below _ (plainLbs _), Bool.and_self, Bool.and_true] <;> rfl)) (by repeat' (first | exact trivial | exact (renH_plain _ (h := .rows _ _) (plainLbs _)).symm | (with_reducible rfl) | (exact (renH_plain _ (h := .rows _ _) (plainLbs _)).trans (renH_plain _ (h := .rows _ _) (plainLbs _)).symm) | (exact rows_eq (plainLbs _) (by simp [lbRow, ofVal, List.take_of_length_le])) | exact rfl | ((conv => whnf); refine ⟨?_, ?_⟩))) rfl ?_
  exact ⟨rfl, rfl, rfl⟩
def markL : List UInt8 := [109, 97, 114, 107]
theorem lawFresh_does (used : List (List UInt8)) (n : Int) (hu : used.length * 16 ≤ 140737488351232) : Does Tryd.prog tab 3 1 [.sl (.loc 0) 0 1 used.length none, .int .i64 n] [] [(0, .rows 1 (used.map lbRow))] (ValK 1 (.bool true)) := by
  refine Does.enter tabOK (g := 3) (fn := Tryd.f3) Tryd.call3 Tryd.func3 rfl 69 rfl rfl [.tmp 4] rfl ?_
  intro w0 F η0 h0
  conv => whnf
  by_cases hn : n ≤ 10000
  · have hm : (used ++ [markL]).length ≤ 1152921504606846976 := by simp; omega
    have h00 : (used ++ ([] : List (List UInt8))).length ≤ 1152921504606846976 := by simp; omega
    have dT := tfresh_does used [markL] none n hn hu hm
    have eT := rfresh_does used [] none n hn hu h00
    rw [List.append_nil] at eT
    have hTl : (fresh used n.toNat).length ≤ 10000 := by unfold fresh; rw [List.length_take]; omega
    generalize fresh used n.toNat = T at *
    repeat' ((first | with_reducible refine IF.tt ?_ | with_reducible refine IF.ff ?_ | (refine NEED.mk (needApp 16 rfl rfl rfl (by simp) (by omega)) ?_; conv => whnf) | (refine NEED.mk (needApp 16 rfl rfl (by simp) (by simp) (by simp; omega)) ?_; conv => whnf) | refine NEED.au ?_ | ((with_reducible apply GET.at); rfl) | ((with_reducible apply GETG.at); rfl) | ((with_reducible refine UNK.mk (fun h => ?_) ?_) <;> try (exfalso; omega)) | ((with_reducible refine IF.mk (fun h => ?_) (fun h => ?_)) <;> (try simp (disch := omega) only [hsB, hsC, lnB, wrap64, wrap32, simprocAttr] at h) <;> try (exfalso; omega))) <;> conv => whnf)
    have hpr : List.take (0 + used.length) (List.take 0 ([] : List (List SV)) ++ List.take used.length (List.drop 0 (List.map lbRow used))) ++ List.take 1 (List.drop 0 [[ofVal (Value.string { data := #[109, 97, 114, 107] })]]) = (used ++ [markL]).map lbRow := by simp [List.take_of_length_le, markL, lbRow, ofVal]
    rw [hpr]
    have gM : ((used ++ [markL]).map lbRow)[0 + (used.length : Int).toNat]? = some (lbRow markL) := by simp
    refine CALL.at [4] (dT) rfl rfl rfl rfl (by first | rfl | (simp only [belowO, belowH, plainLL_below _ (plainLbs _), Bool.and_self, Bool.and_true] <;> rfl)) (by first | rfl | (simp only [belowO, belowH, plainLL_below _ (plainLbs _), Bool.and_self, Bool.and_true] <;> rfl)) (by repeat' (first | exact trivial | exact (renH_plain _ (h := .rows _ _) (plainLbs _)).symm | exact rfl | exact (renH_plain _ (h := .rows _ _) (plainLbs _)).trans (renH_plain _ (h := .rows _ _) (plainLbs _)).symm | ((conv => whnf); refine ⟨?_, ?_⟩))) (by repeat' (first | exact trivial | exact (renH_plain _ (h := .rows _ _) (plainLbs _)).symm | exact rfl | exact (renH_plain _ (h := .rows _ _) (plainLbs _)).trans (renH_plain _ (h := .rows _ _) (plainLbs _)).symm | ((conv => whnf); refine ⟨?_, ?_⟩))) rfl rfl ?_
    rintro r O nx ⟨rfl, rfl, rfl⟩
    conv => whnf
    repeat' ((first | with_reducible refine IF.tt ?_ | with_reducible refine IF.ff ?_ | refine NEED.au ?_ | ((with_reducible apply GET.at); rfl) | ((with_reducible apply GETG.at); rfl) | ((with_reducible refine UNK.mk (fun h => ?_) ?_) <;> try (exfalso; omega)) | ((with_reducible refine IF.mk (fun h => ?_) (fun h => ?_)) <;> (try simp (disch := omega) only [hsB, hsC, lnB, wrap64, wrap32, simprocAttr] at h) <;> try (exfalso; omega))) <;> conv => whnf)
    refine CALL.at [0] (eT) rfl rfl rfl rfl (by first | rfl | (simp only [belowO, belowH, plainLL_below _ (plainLbs _), Bool.and_self, Bool.and_true] <;> rfl)) (by first | rfl | (simp only [belowO, belowH, plainLL_below _ (plainLbs _), Bool.and_self, Bool.and_true] <;> rfl)) (by repeat' (first | exact trivial | exact (renH_plain _ (h := .rows _ _) (plainLbs _)).symm | exact rfl | exact (renH_plain _ (h := .rows _ _) (plainLbs _)).trans (renH_plain _ (h := .rows _ _) (plainLbs _)).symm | ((conv => whnf); refine ⟨?_, ?_⟩))) (by repeat' (first | exact trivial | exact (renH_plain _ (h := .rows _ _) (plainLbs _)).symm | exact rfl | exact (renH_plain _ (h := .rows _ _) (plainLbs _)).trans (renH_plain _ (h := .rows _ _) (plainLbs _)).symm | ((conv => whnf); refine ⟨?_, ?_⟩))) rfl rfl ?_
    rintro r O nx ⟨rfl, rfl, rfl⟩
    conv => whnf
    repeat' ((first | with_reducible refine IF.tt ?_ | with_reducible refine IF.ff ?_ | (refine GETG.at (row := lbRow markL) gM ?_; conv => whnf) | refine NEED.au ?_ | ((with_reducible apply GET.at); rfl) | ((with_reducible apply GETG.at); rfl) | ((with_reducible refine UNK.mk (fun h => ?_) ?_) <;> try (exfalso; omega)) | ((with_reducible refine IF.mk (fun h => ?_) (fun h => ?_)) <;> (try simp (disch := omega) only [hsB, hsC, lnB, wrap64, wrap32, simprocAttr] at h) <;> try (exfalso; omega))) <;> conv => whnf)
    · exact absurd rfl h
    refine LOOP.gok tabOK [0, 5, 6, 7] [4, 5, 6] (X := Nat) (fun i => i ≤ T.length) (fun i => [(8, .int .i64 (i : Int))]) (fun i => []) 7 (fun i => T.length - i) 0 (by omega) ?_
    conv => whnf
    refine ⟨by (refine GOES.cutting h0 rfl rfl rfl (by (repeat' (first | (refine belowO_cons rfl ?_ ?_) | exact belowH_rows (plainLbs _) | exact belowH_renrows (plainLbs _) | rfl))) ?_ ?_ <;> (repeat' (first | (with_reducible rfl) | exact trivial | (exact sl_eq rfl (by first | omega | (simp (disch := omega) only [lnB, wrap64, wrap32] <;> omega) | (simp; done) | (simp <;> omega))) | (exact congrArg (SV.int _) (by first | omega | (simp (disch := omega) only [lnB, wrap64, wrap32] <;> omega) | (simp; done) | (simp <;> omega))) | (exact box_int (by first | omega | (simp (disch := omega) only [lnB, wrap64, wrap32] <;> omega) | (simp; done) | (simp <;> omega))) | (exact box_sl (by first | omega | (simp (disch := omega) only [lnB, wrap64, wrap32] <;> omega) | (simp; done) | (simp <;> omega))) | (exact renH_plain _ (h := .rows _ _) (plainLbs _)) | (exact congrArg (Hp.rows _) (by rfl)) | ((conv => whnf); refine ⟨?_, ?_⟩) | rfl))), ?_⟩
    intro i hi
    conv => whnf
    by_cases hil : i < T.length
    · have g1 : (T.map lbRow)[0 + (i : Int).toNat]? = some (lbRow T[i]) := by rw [List.getElem?_map, show 0 + (i : Int).toNat = i by omega, List.getElem?_eq_getElem hil]; rfl
      repeat' ((first | with_reducible refine IF.tt ?_ | with_reducible refine IF.ff ?_ | refine DRAWN.of (id := 11) tabOK mixed plLawFresh0 (by kernel_rfl) ?_ | refine DRAWN.of (id := 16) tabOK mixed plLawFresh0 (by kernel_rfl) ?_ | with_reducible refine ADD.mk (fun _ _ => ?_) | with_reducible refine NEED.mk (Det.of rfl) ?_ | refine NEED.mk (det_pos (by omega)) ?_ | with_reducible refine FORK.mk ?_ ?_ | (refine GET.at (row := lbRow (T[i]'(by omega))) (by rw [renLL_plain _ (plainLbs T)]; exact g1) ?_; conv => whnf) | refine NEED.au ?_ | ((with_reducible apply GET.at); rfl) | ((with_reducible apply GETG.at); rfl) | ((with_reducible refine UNK.mk (fun h => ?_) ?_) <;> try (exfalso; omega)) | ((with_reducible refine IF.mk (fun h => ?_) (fun h => ?_)) <;> (try simp (disch := omega) only [hsB, hsC, lnB, wrap64, wrap32, simprocAttr] at h) <;> try (exfalso; omega))) <;> conv => whnf)
      all_goals first
        | (exfalso; simp at h; done)
        | (refine ⟨i + 1, by omega, by omega, ?_⟩; (conv => whnf); (refine GOES.cutting h0 rfl rfl rfl (by (repeat' (first | (refine belowO_cons rfl ?_ ?_) | exact belowH_rows (plainLbs _) | exact belowH_renrows (plainLbs _) | rfl))) ?_ ?_ <;> (repeat' (first | (with_reducible rfl) | exact trivial | (exact sl_eq rfl (by first | omega | (simp (disch := omega) only [lnB, wrap64, wrap32] <;> omega) | (simp; done) | (simp <;> omega))) | (exact congrArg (SV.int _) (by first | omega | (simp (disch := omega) only [lnB, wrap64, wrap32] <;> omega) | (simp; done) | (simp <;> omega))) | (exact box_int (by first | omega | (simp (disch := omega) only [lnB, wrap64, wrap32] <;> omega) | (simp; done) | (simp <;> omega))) | (exact box_sl (by first | omega | (simp (disch := omega) only [lnB, wrap64, wrap32] <;> omega) | (simp; done) | (simp <;> omega))) | (exact renH_plain _ (h := .rows _ _) (plainLbs _)) | (exact congrArg (Hp.rows _) (by rfl)) | ((conv => whnf); refine ⟨?_, ?_⟩) | rfl))); done)
        | trace_state
    have hie : i = T.length := by omega
    subst hie
    repeat' ((first | with_reducible refine IF.tt ?_ | with_reducible refine IF.ff ?_ | refine NEED.au ?_ | ((with_reducible apply GET.at); rfl) | ((with_reducible apply GETG.at); rfl) | ((with_reducible refine UNK.mk (fun h => ?_) ?_) <;> try (exfalso; omega)) | ((with_reducible refine IF.mk (fun h => ?_) (fun h => ?_)) <;> (try simp (disch := omega) only [hsB, hsC, lnB, wrap64, wrap32, simprocAttr] at h) <;> try (exfalso; omega))) <;> conv => whnf)
    refine LOOP.gok tabOK [0, 5] [4] (X := Nat) (fun i => i ≤ used.length) (fun i => [(9, .int .i64 (i : Int))]) (fun i => []) 7 (fun i => used.length - i) 0 (by omega) ?_
    conv => whnf
    refine ⟨by (refine GOES.cutting h0 rfl rfl rfl (by (repeat' (first | (refine belowO_cons rfl ?_ ?_) | exact belowH_rows (plainLbs _) | exact belowH_renrows (plainLbs _) | rfl))) ?_ ?_ <;> (repeat' (first | (with_reducible rfl) | exact trivial | (exact sl_eq rfl (by first | omega | (simp (disch := omega) only [lnB, wrap64, wrap32] <;> omega) | (simp; done) | (simp <;> omega))) | (exact congrArg (SV.int _) (by first | omega | (simp (disch := omega) only [lnB, wrap64, wrap32] <;> omega) | (simp; done) | (simp <;> omega))) | (exact box_int (by first | omega | (simp (disch := omega) only [lnB, wrap64, wrap32] <;> omega) | (simp; done) | (simp <;> omega))) | (exact box_sl (by first | omega | (simp (disch := omega) only [lnB, wrap64, wrap32] <;> omega) | (simp; done) | (simp <;> omega))) | (exact renH_plain _ (h := .rows _ _) (plainLbs _)) | (exact congrArg (Hp.rows _) (by rfl)) | ((conv => whnf); refine ⟨?_, ?_⟩) | rfl))), ?_⟩
    intro i hi
    conv => whnf
    by_cases hil : i < used.length
    · have g1 : ((used ++ [markL]).map lbRow)[0 + (i : Int).toNat]? = some (lbRow used[i]) := lb_get hil (by omega)
      have g2 : (used.map lbRow)[0 + (i : Int).toNat]? = some (lbRow used[i]) := by rw [List.getElem?_map, show 0 + (i : Int).toNat = i by omega, List.getElem?_eq_getElem hil]; rfl
      repeat' ((first | with_reducible refine IF.tt ?_ | with_reducible refine IF.ff ?_ | refine DRAWN.of (id := 11) tabOK mixed plLawFresh0 (by kernel_rfl) ?_ | refine DRAWN.of (id := 16) tabOK mixed plLawFresh0 (by kernel_rfl) ?_ | with_reducible refine ADD.mk (fun _ _ => ?_) | with_reducible refine NEED.mk (Det.of rfl) ?_ | refine NEED.mk (det_pos (by omega)) ?_ | with_reducible refine FORK.mk ?_ ?_ | (refine GET.at (row := lbRow (used[i]'(by omega))) (by first | exact g1 | (rw [renLL_plain _ (plainLbs _)]; exact g1)) ?_; conv => whnf) | (refine GET.at (row := lbRow (used[i]'(by omega))) g2 ?_; conv => whnf) | refine NEED.au ?_ | ((with_reducible apply GET.at); rfl) | ((with_reducible apply GETG.at); rfl) | ((with_reducible refine UNK.mk (fun h => ?_) ?_) <;> try (exfalso; omega)) | ((with_reducible refine IF.mk (fun h => ?_) (fun h => ?_)) <;> (try simp (disch := omega) only [hsB, hsC, lnB, wrap64, wrap32, simprocAttr] at h) <;> try (exfalso; omega))) <;> conv => whnf)
      all_goals first
        | (exfalso; simp at h; done)
        | (refine ⟨i + 1, by omega, by omega, ?_⟩; (conv => whnf); (refine GOES.cutting h0 rfl rfl rfl (by (repeat' (first | (refine belowO_cons rfl ?_ ?_) | exact belowH_rows (plainLbs _) | exact belowH_renrows (plainLbs _) | rfl))) ?_ ?_ <;> (repeat' (first | (with_reducible rfl) | exact trivial | (exact sl_eq rfl (by first | omega | (simp (disch := omega) only [lnB, wrap64, wrap32] <;> omega) | (simp; done) | (simp <;> omega))) | (exact congrArg (SV.int _) (by first | omega | (simp (disch := omega) only [lnB, wrap64, wrap32] <;> omega) | (simp; done) | (simp <;> omega))) | (exact box_int (by first | omega | (simp (disch := omega) only [lnB, wrap64, wrap32] <;> omega) | (simp; done) | (simp <;> omega))) | (exact box_sl (by first | omega | (simp (disch := omega) only [lnB, wrap64, wrap32] <;> omega) | (simp; done) | (simp <;> omega))) | (exact renH_plain _ (h := .rows _ _) (plainLbs _)) | (exact congrArg (Hp.rows _) (by rfl)) | ((conv => whnf); refine ⟨?_, ?_⟩) | rfl))); done)
        | trace_state
    have hie : i = used.length := by omega
    subst hie
    repeat' ((first | with_reducible refine IF.tt ?_ | with_reducible refine IF.ff ?_ | refine NEED.au ?_ | ((with_reducible apply GET.at); rfl) | ((with_reducible apply GETG.at); rfl) | ((with_reducible refine UNK.mk (fun h => ?_) ?_) <;> try (exfalso; omega)) | ((with_reducible refine IF.mk (fun h => ?_) (fun h => ?_)) <;> (try simp (disch := omega) only [hsB, hsC, lnB, wrap64, wrap32, simprocAttr] at h) <;> try (exfalso; omega))) <;> conv => whnf)
    exact FIN.valueK h0 rfl rfl
  · repeat' ((first | with_reducible refine IF.tt ?_ | with_reducible refine IF.ff ?_ | refine NEED.au ?_ | ((with_reducible apply GET.at); rfl) | ((with_reducible apply GETG.at); rfl) | ((with_reducible refine UNK.mk (fun h => ?_) ?_) <;> try (exfalso; omega)) | ((with_reducible refine IF.mk (fun h => ?_) (fun h => ?_)) <;> (try simp (disch := omega) only [hsB, hsC, lnB, wrap64, wrap32, simprocAttr] at h) <;> try (exfalso; omega))) <;> conv => whnf)
    exact FIN.valueK h0 rfl rfl
end Go.Proofs.YtpnphbjoalbejaaDoor
/- TurtleFresh: the row and its card out of the walk. Conditions: none beyond the statement's own. -/
set_option linter.unusedVariables false
namespace Go.Proofs.YtpnphbjoalbejaaDoor.turtleFresh
open Go.ChangeShapes Go.WideShapes Go.ChangeAt Go.RowKit Go.Our
open Go.ChangeMaps (open_string shut_string)
theorem own : ownKnob Tryd.prog.godebug = none := by kernel_rfl
theorem laidOut : laidOutB Tryd.prog = true := by kernel_rfl
theorem readable : ∀ t ∈ Tryd.f3.params.toList, Tryd.prog.readableRec t = true ∧ t < Tryd.prog.types.size := by
  have h : (Tryd.f3.params.toList.all fun t => Tryd.prog.readableRec t && decide (t < Tryd.prog.types.size)) = true := by kernel_rfl
  intro t ht
  have := List.all_eq_true.1 h t ht
  simpa using this
set_option maxRecDepth 100000 in
theorem contract (H : Type) (enc : TypeId × Value → H) (W : World) (base : Nat) (args : Array Value) (ds gs : List (DataW H)) (before : List MemPlace)
    (hval : ∀ (j : Nat) t v, Tryd.f3.params[j]? = some t → args[j]? = some v → Value.okWide Tryd.prog W .any base t v)
    (hW : DataW.Whole enc Tryd.prog Tryd.f3.params.toList Rows.turtleFreshSpec.vars false W args.toList ds gs before)
    (hsz : (DataW.weightsEach Tryd.prog (Tryd.f3.params.toList ++ (OpenSpec.ofChange Rows.turtleFreshSpec).bare.plain.varTypes Tryd.prog) (ds ++ gs)).all (fun x => decide (x ≤ reachBytes)) = true)
    (hL : laidMetH Tryd.prog Rows.turtleFreshRow.laid W)
    : Calls Tryd.prog 3 args W fun e W' => ∃ v, e = .returned v ∧ Rows.turtleFreshSpec.post enc Tryd.prog Tryd.f3 false true false false W args v W' := by
  have hW' := hW
  have hlt := hW.lt
  obtain ⟨p, q, hA0, hV, rfl, hfz, hnd⟩ := hW
  have hA : DataW.TrodAll enc Tryd.prog W 0 (fun _ => true) true Tryd.f3.params.toList args.toList ds p := hA0
  rw [Tryd.params3] at hA hval
  obtain ⟨v0, vs0, d0, ds0, p0, q0, hargs, rfl, rfl, h0, r0⟩ := trodAll_cons hA
  obtain ⟨v1, vs1, d1, ds1, p1, q1, rfl, rfl, rfl, h1, r1⟩ := trodAll_cons r0
  obtain ⟨rfl, rfl, rfl⟩ := trodAll_nil r1
  obtain rfl : args = #[v0, v1] := by cases args; simp_all
  obtain ⟨rfl, rfl⟩ := trodVars_none hV
  have hlt' : ∀ x ∈ p0 ++ p1, x.block < W.heap.size := fun x hx => hlt x (by simpa using hx)
  have hsz' : (DataW.weightsEach Tryd.prog [22, 3] [d0, d1]).all (fun x => decide (x ≤ reachBytes)) = true := hsz
  simp only [DataW.weightsEach] at hsz'
  have sz0 := all_left hsz'
  have rs0 := all_right hsz'
  obtain ⟨l0, en0, sl0, dd0⟩ := read_lbs (hval 0 22 v0 rfl rfl) h0
  have sm0 := lbs_small dd0 sz0
  have sz1 := all_left rs0
  obtain ⟨x1, rfl, rfl, rfl, wx1⟩ := open_int Tryd.underlying3 (hval 1 3 v1 rfl rfl) h1
  have bx1 := bounds_i64 wx1
  refine (law_calls1 sl0 (lawFresh_does l0 x1 sm0) Tryd.call3 ⟨_, _, rfl, sl0.den rfl, _, _, rfl, rfl, rfl⟩ (globOf rfl hL)).mono fun e W' ⟨he, hb⟩ => ?_
  subst he
  exact ⟨_, rfl, law_post laidOut readable rfl Tryd.underlying4 hW' rfl rfl rfl rfl hb⟩
/-- A world for the witness: the settled one, each listed variable holding what its initialiser lays. -/
noncomputable def laidWorld (os : Os) : World :=
  { World.holding Tryd.prog os ⟨#[], #[], []⟩ with heap := ((((World.holding Tryd.prog os ⟨#[], #[], []⟩).heap.modify 1 fun | .cells _ t fz => .cells #[.int .u8 0, .int .u8 1, .int .u8 28, .int .u8 2, .int .u8 29, .int .u8 14, .int .u8 24, .int .u8 3, .int .u8 30, .int .u8 22, .int .u8 20, .int .u8 15, .int .u8 25, .int .u8 17, .int .u8 4, .int .u8 8, .int .u8 31, .int .u8 27, .int .u8 13, .int .u8 23, .int .u8 21, .int .u8 19, .int .u8 16, .int .u8 7, .int .u8 26, .int .u8 12, .int .u8 18, .int .u8 6, .int .u8 11, .int .u8 5, .int .u8 10, .int .u8 9] t fz | o => o).modify 2 fun | .cells _ t fz => .cells #[.int .u8 0, .int .u8 1, .int .u8 56, .int .u8 2, .int .u8 57, .int .u8 49, .int .u8 28, .int .u8 3, .int .u8 61, .int .u8 58, .int .u8 42, .int .u8 50, .int .u8 38, .int .u8 29, .int .u8 17, .int .u8 4, .int .u8 62, .int .u8 47, .int .u8 59, .int .u8 36, .int .u8 45, .int .u8 43, .int .u8 51, .int .u8 22, .int .u8 53, .int .u8 39, .int .u8 33, .int .u8 30, .int .u8 24, .int .u8 18, .int .u8 12, .int .u8 5, .int .u8 63, .int .u8 55, .int .u8 48, .int .u8 27, .int .u8 60, .int .u8 41, .int .u8 37, .int .u8 16, .int .u8 46, .int .u8 35, .int .u8 44, .int .u8 21, .int .u8 52, .int .u8 32, .int .u8 23, .int .u8 11, .int .u8 54, .int .u8 26, .int .u8 40, .int .u8 15, .int .u8 34, .int .u8 20, .int .u8 31, .int .u8 10, .int .u8 25, .int .u8 14, .int .u8 19, .int .u8 9, .int .u8 13, .int .u8 8, .int .u8 7, .int .u8 6] t fz | o => o).modify 0 fun | .cells _ t fz => .cells #[.int .u64 1, .int .u64 10, .int .u64 100, .int .u64 1000, .int .u64 10000, .int .u64 100000, .int .u64 1000000, .int .u64 10000000, .int .u64 100000000, .int .u64 1000000000, .int .u64 10000000000, .int .u64 100000000000, .int .u64 1000000000000, .int .u64 10000000000000, .int .u64 100000000000000, .int .u64 1000000000000000, .int .u64 10000000000000000, .int .u64 100000000000000000, .int .u64 1000000000000000000, .int .u64 10000000000000000000] t fz | o => o) }
theorem laid_met (os : Os) : laidMet Tryd.prog Rows.turtleFreshRow.laid ((laidWorld os).forCall (fun _ _ => 0) ⟨#[], #[Value.slice none 0 0, Value.int .i64 0], []⟩).memory :=
  laidMet_of_run' 8 (by kernel_rfl) (by kernel_rfl)
theorem reads (os : Os) {H : Type} (enc : TypeId × Value → H) : ∃ places, DataW.whole enc Tryd.prog ((laidWorld os).forCall (fun _ _ => 0) ⟨#[], #[Value.slice none 0 0, Value.int .i64 0], []⟩).memory Tryd.f3.params.toList Rows.turtleFreshSpec.vars false #[Value.slice none 0 0, Value.int .i64 0].toList 8 = some ([.nil, .lit (.int .i64 0)], [], places) :=
  ⟨[], by kernel_rfl⟩
set_option maxRecDepth 100000 in
theorem lifted (os : Os) (started : os.Started) (H : Type) (enc : TypeId × Value → H) (F : Stop.Interp) :
    ReturnsInHanded {} Tryd.checked os 3 .any ((OpenSpec.ofChange Rows.turtleFreshSpec).preRow enc Tryd.prog Tryd.f3 Rows.turtleFreshRow.domain false Rows.turtleFreshRow.laid) (((OpenSpec.ofChange Rows.turtleFreshSpec).at F).post enc Tryd.prog Tryd.f3 false true false false) := by
  obtain ⟨places, hx⟩ := reads os enc
  refine returnsInHanded_of_row (C := Tryd.checked) (s := (OpenSpec.ofChange Rows.turtleFreshSpec)) own started (by kernel_rfl) Tryd.func3
    (witness_row_at (enc := enc) (C := Tryd.checked) false (laidWorld os) #[.slice none 0 0, .int .i64 0] rfl (by kernel_rfl) (by kernel_rfl) (by kernel_rfl)
      (OpenSpec.preRow_of_cond 8 hx (by kernel_rfl) (fun k hk => by cases hk) (by kernel_rfl) (laid_met os))) ?_
  intro W base args ds gs before hval hW _ hcond hsz hL _ _
  exact contract H enc W base args ds gs before hval hW hsz hL
theorem said : Rows.TurtleFreshSaid :=
  OpenClaim.holds_of_cond 3 Tryd.f3 rfl rfl rfl rfl rfl rfl rfl ⟨rfl, rfl, rfl, rfl, rfl⟩ rfl rfl rfl rfl rfl (by kernel_rfl) Tryd.func3 (by kernel_rfl)
    (of_decide_eq_true (by kernel_rfl)) (by unfold Func.isWrapper; first | (rw [if_pos (by decide +kernel)]; kernel_rfl) | (rw [if_neg (by decide +kernel)]; exact ⟨rfl, rfl⟩))
    (fun os started H enc _ F => by rw [OpenClaim.pre_eq_preRow]; exact lifted os started H enc F)
theorem plain (f : FuncId) (fn : Func) (hf : Tryd.pinned.checked.prog.funcNamed "tessera/tesseralaw11.TurtleFresh" = some f) (hfn : Tryd.pinned.checked.prog.funcs[f]? = some fn) :
    false = Tryd.pinned.checked.prog.looks [] ∧ ∀ (j : Nat) t, fn.params[j]? = some t → Tryd.pinned.checked.prog.wantsStandIn t = false := by
  obtain rfl : f = 3 := Option.some.inj ((show Tryd.prog.funcNamed "tessera/tesseralaw11.TurtleFresh" = some 3 by kernel_rfl).symm.trans hf) |>.symm
  obtain rfl : fn = Tryd.f3 := (Option.some.inj (Tryd.func3.symm.trans hfn)).symm
  refine ⟨by kernel_rfl, fun j t ht => ?_⟩
  have h : (Tryd.f3.params.toList.all fun t => !Tryd.prog.wantsStandIn t) = true := by kernel_rfl
  have := List.all_eq_true.1 h t (by simpa using Array.mem_of_getElem? ht)
  have e : Tryd.prog.wantsStandIn t = false := by simpa using this
  exact e
theorem card : Rows.TurtleFreshCardSaid :=
  Claim7.holds_tied_plain_at .later [] _ _ _ _ said (fun _ h => by cases h) (by kernel_rfl) (fun _ h => by cases h) turtleFresh_row_tie rfl ⟨rfl, rfl⟩ (by kernel_rfl) rfl plain (by kernel_rfl)
end Go.Proofs.YtpnphbjoalbejaaDoor.turtleFresh
