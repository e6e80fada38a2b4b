/- Part 2 of the texts that the last one leans on: SxDrawn, SxDrawnS, SxDrawnT, Tab, ReadG, SxAuto, Utf, TmM, ReadM, CmpM, ReadS, SxAuto2, SxAuto3, Cmp7, Lists7, Rise7, SetM, SetN, Sort. Conditions: as each part says. -/
import Derived.Test.YtillkgjdbnjnoaaProg
import Derived.Test.YtillkgjdbnjnoaaRows
import Derived.Lib.LaidTab
import Derived.LaidSub
import Derived.IntWalk
import Derived.Lib.Bytealg
import Derived.Lib.Strings
import Derived.Shelf.SlSortCmp.NoneTotal
import Derived.Test.YtillkgjdbnjnoaaLst1
/- Regions whose order is drawn, walked in one order by the engine. Conditions: none. -/
set_option linter.unusedVariables false
set_option linter.unusedSimpArgs false
namespace Go.Sx
open Go

/-! ### Values that a reading settles -/
def Det (v : SV) : Prop := ∀ η u u', Den η v u → Den η v u' → u = u'
def DetL (vs : List SV) : Prop := ∀ η us us', DenL η vs us → DenL η vs us' → us = us'
mutual
def detV : SV → Bool
  | .bool _ | .int _ _ | .str _ | .ptr _ _ _ _ | .val _ | .mp _ | .yf _ => true
  | .dfs _ => false
  | .sl _ r _ _ _ => Nat.beq r 0
  | .agg cs => detVL cs
  | .tup vs => detVL vs
  | .ifc _ v => detV v
  | .fn _ a b => detVL a && detVL b
  | .arr _ _ => false
  | .any => false
  | .nb _ => false
def detVL : List SV → Bool
  | [] => true
  | c :: cs => detV c && detVL cs
end
mutual
theorem Det.of : ∀ {v : SV}, detV v = true → Det v
  | .bool _, _ => fun η u u' h h' => by simp only [Den] at h h'; rw [h, h']
  | .int _ _, _ => fun η u u' h h' => by simp only [Den] at h h'; rw [h, h']
  | .str _, _ => fun η u u' h h' => by simp only [Den] at h h'; rw [h, h']
  | .val _, _ => fun η u u' h h' => by simp only [Den] at h h'; rw [h.1, h'.1]
  | .mp b, _ => fun η u u' h h' => by
    simp only [Den] at h h'
    obtain ⟨e, h1, rfl⟩ := h
    obtain ⟨e', h2, rfl⟩ := h'
    rw [h1] at h2; injection h2 with h2; injection h2 with h2; rw [h2]
  | .ptr b r es c, _ => fun η u u' h h' => by
    simp only [Den] at h h'
    obtain ⟨e, h1, rfl⟩ := h
    obtain ⟨e', h2, rfl⟩ := h'
    rw [h1] at h2; injection h2 with h2; injection h2 with h2; rw [h2]
  | .sl b r es len lim, hd => fun η u u' h h' => by
    simp only [detV] at hd
    have hd := beq_eq hd
    simp only [Den] at h h'
    rcases h with ⟨h1, rfl, _⟩ | ⟨e, o, h1, rfl, _, _, h2⟩
    · rcases h' with ⟨h1', rfl, _⟩ | ⟨e', o', h1', rfl, _, _, h2'⟩
      · rfl
      · rw [h1] at h1'; cases h1'
    · rcases h' with ⟨h1', rfl, _⟩ | ⟨e', o', h1', rfl, _, _, h2'⟩
      · rw [h1] at h1'; cases h1'
      · rw [h1] at h1'; injection h1' with h1'; injection h1' with h1'; subst h1'
        rw [h2 (.inr hd), h2' (.inr hd)]
  | .agg cs, hd => fun η u u' h h' => by
    simp only [detV] at hd
    simp only [Den] at h h'
    obtain ⟨us, rfl, h1, _⟩ := h
    obtain ⟨us', rfl, h2, _⟩ := h'
    rw [DetL.of hd η us us' h1 h2]
  | .tup cs, hd => fun η u u' h h' => by
    simp only [detV] at hd
    simp only [Den] at h h'
    obtain ⟨us, rfl, h1⟩ := h
    obtain ⟨us', rfl, h2⟩ := h'
    rw [DetL.of hd η us us' h1 h2]
  | .ifc t v, hd => fun η u u' h h' => by
    simp only [detV] at hd
    simp only [Den] at h h'
    obtain ⟨us, rfl, h1⟩ := h
    obtain ⟨us', rfl, h2⟩ := h'
    rw [Det.of hd η us us' h1 h2]
  | .fn f a b, hd => fun η u u' h h' => by
    simp only [detV, Bool.and_eq_true] at hd
    simp only [Den] at h h'
    obtain ⟨us, vs, rfl, h1, h3⟩ := h
    obtain ⟨us', vs', rfl, h2, h4⟩ := h'
    rw [DetL.of hd.1 η us us' h1 h2, DetL.of hd.2 η vs vs' h3 h4]
  | .arr _ _, hd => by simp [detV] at hd
  | .any, hd => by simp [detV] at hd
  | .nb _, hd => by simp [detV] at hd
  | .dfs _, hd => by simp [detV] at hd
  | .yf b, _ => fun η u u' h h' => by
    simp only [Den] at h h'
    obtain ⟨e, h1, rfl⟩ := h
    obtain ⟨e', h2, rfl⟩ := h'
    rw [h1] at h2; injection h2 with h2; injection h2 with h2; rw [h2]
theorem DetL.of : ∀ {vs : List SV}, detVL vs = true → DetL vs
  | [], _ => fun η us us' h h' => by simp only [DenL] at h h'; rw [h, h']
  | c :: cs, hd => fun η us us' h h' => by
    simp only [detVL, Bool.and_eq_true] at hd
    simp only [DenL] at h h'
    obtain ⟨u, r, rfl, h1, h2⟩ := h
    obtain ⟨u', r', rfl, h1', h2'⟩ := h'
    rw [Det.of hd.1 η u u' h1 h1', DetL.of hd.2 η r r' h2 h2']
end

/-! ### The walk -/
def sharedOf : Hps → List (Blk × Hp)
  | [] => []
  | (i, h) :: r => (.loc i, h) :: sharedOf r
/-- All that is known, only to be looked at. -/
def cxRead (C : Cx) (O : Hps) : Cx := ⟨C.T, C.N, sharedOf O ++ C.S, C.ro⟩
def cxBlind (C : Cx) : Cx := ⟨{ C.T with globs := [], gplain := rfl }, C.N, [], C.ro⟩
def shMx (M : Mx) (O : Hps) (η : Env) (w : World) : Mx := ⟨M.P, cxRead M.C O, w, fun _ => False, η⟩
def blMx (M : Mx) (η : Env) (w : World) : Mx := ⟨M.P, cxBlind M.C, w, fun _ => False, η⟩
def settled : SV → Prop → Prop
  | .bool _, K | .int _ _, K | .str _, K | .ptr _ _ _ _, K | .val _, K => K
  | .agg cs, K => match detVL cs with | true => K | false => NEED (Det (.agg cs)) K
  | .tup cs, K => match detVL cs with | true => K | false => NEED (Det (.tup cs)) K
  | v, K => NEED (Det v) K
def stepQ (N : Nat) (C : Cx) (o : Oper) (fr : Fr) (nx : Nat) (K : SV → Prop) : Prop :=
  match dstOk N o.dst with
  | false => STOP "slot"
  | true => match o.op with
    | .move x => match lookF fr x with | some v => K v | none => STOP "operand"
    | .assign x => match lookF fr x with | some v => K v | none => STOP "operand"
    | op => match stores op with
      | true => STOP "writes"
      | false => (opR C (lookF fr) [] nx op).gv fun v => settled v (K v)
/-- An operation that adds to what is known and changes nothing of it. -/
structure ADD (M : Mx) (o : Oper) (fr : Fr) (O : Hps) (nx : Nat) (K : SV → Hps → Nat → Prop) : Prop where
  out : ∀ η w, stepO (shMx M O η w) o (lookF fr) [] nx fun v O2 nx => K v (O2 ++ O) nx
def carry (M : Mx) (m : Nat) (o : Oper) (fr : Fr) (O : Hps) (nx : Nat) (K : SV → Hps → Nat → Prop) : Prop :=
  match m with
  | 0 => stepO M o (lookF fr) O nx K
  | 1 => stepQ M.C.N (cxBlind M.C) o fr nx fun v => K v O nx
  | 2 => stepQ M.C.N (cxRead M.C O) o fr nx fun v => K v O nx
  | _ => ADD M o fr O nx K
/-- Operations in a given order, each with its mode: 0 as ever, 1 from its operands alone, 2 reading, 3 adding; where two may come up and neither is quiet, both ways. -/
inductive Plan where
  | nil
  | take (i m : Nat) (t : Plan)
  | fork (i mi j mj : Nat) (a b : Plan)
  | fork3 (i mi j mj k mk : Nat) (a b c : Plan)
def planOf : List (Nat × Nat) → Plan
  | [] => .nil
  | (i, m) :: r => .take i m (planOf r)
def Plan.depth : Plan → Nat
  | .nil => 0
  | .take _ _ t => t.depth + 1
  | .fork _ _ _ _ a _ => a.depth + 1
  | .fork3 _ _ _ _ _ _ a _ _ => a.depth + 1
structure FORK (A B : Prop) : Prop where
  a : A
  b : B
/-- One operation of such a region, if it is wanted. -/
def oneD (M : Mx) (ops : List Oper) (i m : Nat) (fr : Fr) (O : Hps) (nx : Nat) (K : Fr → Hps → Nat → Prop) : Prop :=
  match nth ops i with
  | none => STOP "order"
  | some o => match o.guard with
    | none => carry M m o fr O nx fun v O nx => putK o.dst v fr fun fr => K fr O nx
    | some (j, want) =>
      match slotOf ops j with
      | none => STOP "guard"
      | some s => match lkp s fr with
        | some (.bool b) => IF b
          (fun J => match want with
           | true => carry M m o ((s, .bool true) :: fr) O nx fun v O nx => putK o.dst v ((s, .bool true) :: fr) fun fr => J fr O nx
           | false => match dstOk M.C.N o.dst with | true => putK o.dst undefS ((s, .bool true) :: fr) fun fr => J fr O nx | false => STOP "slot")
          (fun J => match want with
           | false => carry M m o ((s, .bool false) :: fr) O nx fun v O nx => putK o.dst v ((s, .bool false) :: fr) fun fr => J fr O nx
           | true => match dstOk M.C.N o.dst with | true => putK o.dst undefS ((s, .bool false) :: fr) fun fr => J fr O nx | false => STOP "slot")
          K
        | some (.tup []) => match dstOk M.C.N o.dst with | true => putK o.dst undefS fr fun fr => K fr O nx | false => STOP "slot"
        | _ => STOP "guard"
def runD (M : Mx) (ops : List Oper) : Plan → Fr → Hps → Nat → (Fr → Hps → Nat → Prop) → Prop
  | .nil, fr, O, nx, K => K fr O nx
  | .take i m rest, fr, O, nx, K => oneD M ops i m fr O nx fun fr O nx => runD M ops rest fr O nx K
  | .fork i mi j mj a b, fr, O, nx, K => FORK (oneD M ops i mi fr O nx fun fr O nx => runD M ops a fr O nx K) (oneD M ops j mj fr O nx fun fr O nx => runD M ops b fr O nx K)
  | .fork3 i mi j mj k mk a b c, fr, O, nx, K => FORK (oneD M ops i mi fr O nx fun fr O nx => runD M ops a fr O nx K) (FORK (oneD M ops j mj fr O nx fun fr O nx => runD M ops b fr O nx K) (oneD M ops k mk fr O nx fun fr O nx => runD M ops c fr O nx K))

/-! ### The order -/
def afterMask (acc : List Nat) (o : Oper) : Nat := o.after.foldl (fun s e => if Region.binds .any e then s ||| 2 ^ e.on ||| acc.getD e.on 0 else s) 0
def masks : List Oper → List Nat → List Nat
  | [], acc => acc
  | o :: r, acc => masks r (acc ++ [afterMask acc o])
def killIf (i : Nat) : Nat → List Nat → List Nat
  | 0, l => i :: l
  | _, l => l
def modeOK (m : Nat) : Bool := m == 0 || m == 3
def killsOf : Plan → List Nat
  | .nil => []
  | .take i 0 t => i :: killsOf t
  | .take _ _ t => killsOf t
  | .fork i mi j mj a b => killIf i mi (killIf j mj (killsOf a ++ killsOf b))
  | .fork3 i mi j mj k mk a b c => killIf i mi (killIf j mj (killIf k mk (killsOf a ++ (killsOf b ++ killsOf c))))
def stepsOK (ops : Array Oper) (ms : List Nat) : Plan → Array Bool → Bool
  | .nil, l => (Region.ready .any ops l).isEmpty
  | .take i m rest, l =>
    (match m with
     | 0 => Region.ready .any ops l == [i]
     | 1 => (Region.ready .any ops l).contains i && Region.free .any ops l i && (killsOf rest).all (fun k => k != i)
     | 2 => (Region.ready .any ops l).contains i && Region.free .any ops l i && (killsOf rest).all (fun k => k != i && (ms.getD k 0).testBit i)
     | _ => Region.ready .any ops l == [i]) &&
    stepsOK ops ms rest (l.setIfInBounds i true)
  | .fork i mi j mj a b, l => Region.ready .any ops l == [i, j] && modeOK mi && modeOK mj && a.depth == b.depth && stepsOK ops ms a (l.setIfInBounds i true) && stepsOK ops ms b (l.setIfInBounds j true)
  | .fork3 i mi j mj k mk a b c, l => Region.ready .any ops l == [i, j, k] && modeOK mi && modeOK mj && modeOK mk && a.depth == b.depth && a.depth == c.depth && stepsOK ops ms a (l.setIfInBounds i true) && stepsOK ops ms b (l.setIfInBounds j true) && stepsOK ops ms c (l.setIfInBounds k true)
def orderOK (ops : Array Oper) (steps : Plan) : Bool :=
  Region.noSelect ops && steps.depth == ops.size && stepsOK ops (masks ops.toList []) steps (Array.replicate ops.size false)
end Go.Sx
/- Regions whose order is drawn: the walk in one order is sound for every order. Conditions: none. -/
set_option linter.unusedVariables false
set_option linter.unusedSimpArgs false
namespace Go.Sx
open Go

/-! ### What an operation waits for -/
theorem masks_spec : ∀ (os : List Oper) (acc : List Nat), (masks os acc).take acc.length = acc ∧ ∀ j o, os[j]? = some o → (masks os acc)[acc.length + j]? = some (afterMask ((masks os acc).take (acc.length + j)) o)
  | [], acc => ⟨by simp [masks], fun j o h => by simp at h⟩
  | o :: os, acc => by
    simp only [masks]
    obtain ⟨h1, h2⟩ := masks_spec os (acc ++ [afterMask acc o])
    simp only [List.length_append, List.length_singleton] at h1 h2
    have h0 : (masks os (acc ++ [afterMask acc o])).take acc.length = acc := by
      have := congrArg (List.take acc.length) h1
      rw [List.take_take] at this
      simpa using this
    refine ⟨h0, fun j o' hj => ?_⟩
    cases j with
    | zero =>
      simp at hj; subst hj
      rw [Nat.add_zero, h0]
      have := congrArg (fun l : List Nat => l[acc.length]?) h1
      simpa [List.getElem?_take] using this
    | succ j =>
      have := h2 j o' (by simpa using hj)
      rw [show acc.length + (j + 1) = acc.length + 1 + j by omega]
      exact this
theorem afterMask_spec {acc : List Nat} {o : Oper} {i : Nat} (h : (afterMask acc o).testBit i = true) : ∃ e ∈ o.after, Region.binds .any e = true ∧ (e.on = i ∨ (acc.getD e.on 0).testBit i = true) := by
  unfold afterMask at h
  rw [← Array.foldl_toList] at h
  have key : ∀ (es : List Edge) (s : Nat), (es.foldl (fun s e => if Region.binds .any e then s ||| 2 ^ e.on ||| acc.getD e.on 0 else s) s).testBit i = true →
      s.testBit i = true ∨ ∃ e ∈ es, Region.binds .any e = true ∧ (e.on = i ∨ (acc.getD e.on 0).testBit i = true) := by
    intro es
    induction es with
    | nil => intro s h; exact .inl h
    | cons e es ih =>
      intro s h
      simp only [List.foldl_cons] at h
      rcases ih _ h with h | ⟨e', he', h⟩
      · split at h
        · rename_i hb
          simp only [Nat.testBit_or, Bool.or_eq_true] at h
          rcases h with (h | h) | h
          · exact .inl h
          · refine .inr ⟨e, List.mem_cons_self .., hb, .inl ?_⟩
            rw [Nat.testBit_two_pow] at h
            simpa using h
          · exact .inr ⟨e, List.mem_cons_self .., hb, .inr h⟩
        · exact .inl h
      · exact .inr ⟨e', List.mem_cons_of_mem _ he', h⟩
  rcases key _ _ h with h | ⟨e, he, h⟩
  · simp at h
  · exact ⟨e, by simpa using he, h⟩
theorem waits_closed {ops : Array Oper} {l : Array Bool} (hc : Closed .any ops l) {i : Nat} : ∀ (k : Nat), ((masks ops.toList []).getD k 0).testBit i = true → l.getD k false = true → l.getD i false = true := by
  intro k
  induction k using Nat.strongRecOn with
  | _ k ih =>
    intro h hk
    cases hg : (masks ops.toList [])[k]? with
    | none => rw [List.getD_eq_getElem?_getD, hg] at h; simp at h
    | some m =>
      have hlt : k < ops.size := by
        rcases Nat.lt_or_ge k ops.size with h' | h'
        · exact h'
        · rw [← hc.1] at h'
          simp [Array.getElem?_eq_none h'] at hk
      have ho : ops[k]? = some ops[k] := Array.getElem?_eq_getElem hlt
      have hm := (masks_spec ops.toList []).2 k ops[k] (by simp)
      simp only [List.length_nil, Nat.zero_add] at hm
      rw [List.getD_eq_getElem?_getD, hm, Option.getD_some] at h
      obtain ⟨e, he, hb, h⟩ := afterMask_spec h
      have hon := hc.2 k _ ho hk e he hb
      rcases h with rfl | h
      · exact hon
      · rw [List.getD_eq_getElem?_getD, List.getElem?_take] at h
        split at h
        · rename_i hlt'
          exact ih e.on hlt' (by rw [List.getD_eq_getElem?_getD]; exact h) hon
        · simp at h

/-! ### Worlds that agree -/
def agree (w w' : World) : Prop := ∀ k, k < w.heap.size → w'.heap[k]? = w.heap[k]?
theorem agree.refl (w : World) : agree w w := fun _ _ => rfl
theorem agree.trans {a b c : World} (h : agree a b) (k : agree b c) : agree a c := fun n hn => by
  have h1 := h n hn
  have hlt : n < b.heap.size := by
    rw [Array.getElem?_eq_getElem hn] at h1
    exact (Array.getElem?_eq_some_iff.1 h1).1
  rw [k n hlt, h1]
section
variable {M : Mx} {η : Env} {w : World} {O : Hps} {nx : Nat}
theorem lkpB_shared {C : Cx} : ∀ {O : Hps} {j : Nat}, lkpB (.loc j) (sharedOf O ++ C.S) = hLook C O (.loc j)
  | [], j => by simp [sharedOf, hLook, lkp]
  | (i, h) :: r, j => by
    have ih := lkpB_shared (C := C) (O := r) (j := j)
    simp only [sharedOf, List.cons_append, lkpB, blkEq, hLook, lkp]
    cases e : Nat.beq j i
    · simp only [e]; rw [ih]; rfl
    · simp only [e]
theorem lkS_shared {C : Cx} {O : Hps} {b : Blk} : lkS (cxRead C O) b = hLook C O b := by
  cases b with
  | glob g => rfl
  | loc j => exact lkpB_shared
theorem HeapOK.read (H : HeapOK M η w O nx) {w' : World} (hag : agree w w') : HeapOK (shMx M O η w') η w' [] nx := by
  refine ⟨List.prefix_rfl, H.len, ⟨fun i h hi => by simp [lkp] at hi, fun i j h h' n hi => by simp [lkp] at hi⟩, FrW.refl _ _, fun b h hb => ?_⟩
  have hb' : hLook M.C O b = some h := by rw [← lkS_shared]; exact hb
  have hsat := H.look hb'
  have hag' : ∀ k, feet η w b h k → w'.heap[k]? = w.heap[k]? := fun k f => hag _ (hsat.feet_lt f)
  have hs' := hsat.keep hag'
  exact ⟨hs', fun k f => ⟨hs'.feet_lt f, fun h => h⟩⟩
theorem HeapOK.blind (hl : η.length = nx) (w : World) : HeapOK (blMx M η w) η w [] nx :=
  ⟨List.prefix_rfl, hl, ⟨fun i h hi => by simp [lkp] at hi, fun i j h h' n hi => by simp [lkp] at hi⟩, FrW.refl _ _, fun b h hb => by cases b <;> simp [blMx, cxBlind, lkS, lkpB, lkp] at hb⟩
theorem HeapOK.join (H : HeapOK M η w O nx) {η' : Env} {w' : World} {O2 : Hps} {nx2 : Nat} (H2 : HeapOK (shMx M O η w) η' w' O2 nx2) : HeapOK M η' w' (O2 ++ O) nx2 ∧ agree w w' := by
  have hag : agree w w' := fun k hk => H2.fr.block k hk (fun h => h)
  have hp : η <+: η' := H2.pre
  have old : ∀ {i : Nat} {h : Hp}, lkp i O = some h → HpSat η' w' true (.loc i) h ∧ ∀ k, feet η' w' (.loc i) h k → feet η w (.loc i) h k ∧ k < w.heap.size := by
    intro i h hi
    obtain ⟨hsat, hF⟩ := H.own.1 i h hi
    have hk : ∀ k, feet η w (.loc i) h k → w'.heap[k]? = w.heap[k]? := fun k f => hag _ (hsat.feet_lt f)
    refine ⟨(hsat.keep (w' := w') hk).mono hp, fun k f => ?_⟩
    have f' := H.stands hp hi hk f
    exact ⟨f', hsat.feet_lt f'⟩
  refine ⟨⟨H.pre.trans hp, H2.len, ⟨fun i h hi => ?_, fun i j h h' k hi hj hij f f' => ?_⟩, H.fr.trans H2.fr (fun n hn => hn.elim), H.sok⟩, hag⟩
  · rcases lkp_append hi with hi | ⟨_, hi⟩
    · obtain ⟨h1, h2⟩ := H2.own.1 i h hi
      refine ⟨h1, fun k f => .inr ?_⟩
      rcases h2 k f with h3 | h3
      · exact h3.elim
      · exact Nat.le_trans H.fr.size h3
    · obtain ⟨h1, h2⟩ := old hi
      exact ⟨h1, fun k f => (H.own.1 i h hi).2 k (h2 k f).1⟩
  · rcases lkp_append hi with hi | ⟨_, hi⟩
    · rcases lkp_append hj with hj | ⟨_, hj⟩
      · exact H2.own.2 i j h h' k hi hj hij f f'
      · have h1 := ((old hj).2 k f').2
        rcases (H2.own.1 i h hi).2 k f with h3 | h3
        · exact h3.elim
        · have h3 : w.heap.size ≤ k := h3
          omega
    · rcases lkp_append hj with hj | ⟨_, hj⟩
      · have h1 := ((old hi).2 k f).2
        rcases (H2.own.1 j h' hj).2 k f' with h3 | h3
        · exact h3.elim
        · have h3 : w.heap.size ≤ k := h3
          omega
      · exact H.own.2 i j h h' k hi hj hij ((old hi).2 k f).1 ((old hj).2 k f').1

/-! ### Quiet operations -/
theorem settled_iff {v : SV} {K : Prop} (h : settled v K) : Det v ∧ K := by
  cases v with
  | agg cs =>
    simp only [settled] at h
    split at h
    · rename_i e; exact ⟨Det.of (by simpa only [detV] using e), h⟩
    · exact ⟨h.p, h.k⟩
  | tup cs =>
    simp only [settled] at h
    split at h
    · rename_i e; exact ⟨Det.of (by simpa only [detV] using e), h⟩
    · exact ⟨h.p, h.k⟩
  | _ => first | exact ⟨h.p, h.k⟩ | exact ⟨Det.of rfl, h⟩
theorem stepQ_yields {P : Program} {C' : Cx} (hT : TabOK P C'.T) {N : World → Prop} {o : Oper} {a : Act} {fr : Fr} {nx N0 : Nat} {K : SV → Prop} (hf : FrOK η a fr)
    (hN : ∀ w', N w' → HeapOK ⟨P, C', w', fun _ => False, η⟩ η w' [] nx) (hw : N w) (h : stepQ N0 C' o fr nx K) :
    dstOk N0 o.dst = true ∧ ∃ u v, (∀ w', N w' → (execOp a.eval o).run P w' = .ok (.value u) w' ∨ ((execOp a.eval o).run P w' = .ok .skip w' ∧ u = undef)) ∧ Den η v u ∧ K v := by
  unfold stepQ at h
  split at h
  · exact h.out.elim
  rename_i hd
  refine ⟨hd, ?_⟩
  split at h
  · rename_i x ho
    split at h
    case h_2 => exact h.out.elim
    rename_i v hv
    exact ⟨a.eval x, v, fun w' _ => .inl (by simp [execOp, ho]), lookF_den hf hv, h⟩
  · rename_i x ho
    split at h
    case h_2 => exact h.out.elim
    rename_i v hv
    exact ⟨a.eval x, v, fun w' _ => .inl (by simp [execOp, ho]), lookF_den hf hv, h⟩
  · split at h
    · exact h.out.elim
    rename_i hst
    obtain ⟨v, hok, h⟩ := Res.gv_ok h
    obtain ⟨hdet, h⟩ := settled_iff h
    have one : ∀ w', N w' → ∃ u, ((execOp a.eval o).run P w' = .ok (.value u) w' ∨ ((execOp a.eval o).run P w' = .ok .skip w' ∧ u = undef)) ∧ Den η v u := by
      intro w' hw'
      have H := hN w' hw'
      obtain ⟨u, w'', η'', h1, h2, h3, h4, h5⟩ := op_sound (M := ⟨P, C', w', fun _ => False, η⟩) (w := w') (ρ := a.eval) ⟨H, hT, fun x sv hx => lookF_den hf hx⟩ o (hok [] nx)
      have he : η'' = η := (h2.eq_of_length (by rw [H.len, h3.len])).symm
      subst he
      have hww := h5 hst rfl
      subst hww
      exact ⟨u, h1, h4⟩
    obtain ⟨u, h1, h2⟩ := one w hw
    refine ⟨u, v, fun w' hw' => ?_, h2, h⟩
    obtain ⟨u', h3, h4⟩ := one w' hw'
    rw [hdet η u u' h2 h4]
    exact h3
end
end Go.Sx
/- Regions whose order is drawn: the walk in one order is sound for every order. Conditions: none. -/
set_option linter.unusedVariables false
set_option linter.unusedSimpArgs false
namespace Go.Sx
open Go
/-- Until one of these has come up, what stood in that world stands. -/
def SS (ks : List Nat) (wc : World) (l : Array Bool) (w : World) : Prop := (∀ k ∈ ks, l.getD k false = false) → agree wc w
section
variable {M : Mx} {ops : Array Oper} {Q : Exit → Act → World → Prop}
theorem killsOf_quiet {i m : Nat} {rest : Plan} (h : m ≠ 0) : killsOf (.take i m rest) = killsOf rest := by
  cases m with
  | zero => exact (h rfl).elim
  | succ m => rfl
theorem killsOf_kill {i : Nat} {rest : Plan} : killsOf (.take i 0 rest) = i :: killsOf rest := rfl
theorem getD_false_of_true {l : Array Bool} {i : Nat} (h : l.getD i true = false) : l.getD i false = false := by
  rcases Nat.lt_or_ge i l.size with h' | h'
  · simp [h'] at h ⊢; exact h
  · simp [Array.getElem?_eq_none h'] at h
theorem models_put {η : Env} {fr : Fr} {O : Hps} {nx : Nat} {a : Act} {w : World} (hm : Models M η fr O nx a w) {o : Oper} (hd : dstOk M.C.N o.dst = true) {u : Value} {v : SV} (hv : Den η v u) {Kp : Fr → Prop} (hk : putK o.dst v fr Kp) :
    ∃ fr', Kp fr' ∧ Models M η fr' O nx (a.put o.dst u) w := hm.put hd List.prefix_rfl hm.heap hv hk
/-- A quiet operation, taken first. -/
theorem quiet_first (hQ : ∀ c a w, ¬ Q (.panic c) a w) (hs : Region.noSelect ops = true) {i n : Nat} {o : Oper} {l : Array Bool} {ks : List Nat} (ho : ops[i]? = some o) (hready : i ∈ Region.ready .any ops l) (hfree : Region.free .any ops l i = true) (hne : ∀ k ∈ ks, k ≠ i) (hc : Closed .any ops l)
    {N : World → Prop} {wc : World} (hN : ∀ l w, Closed .any ops l → l.getD i true = false → SS ks wc l w → N w) {a : Act} {w : World} {u : Value} (hy : YieldsN M.P ops N o u a) (hag : agree wc w)
    (h : wpH M.fence M.P .any ops Q (SS ks wc) n (l.setIfInBounds i true) (a.put o.dst u) w) : wpH M.fence M.P .any ops Q (SS ks wc) (n + 1) l a w := by
  refine wpH_first M.all ho (Region.noSelect_spec hs) (fun c a w hq => (hQ _ _ _ hq).elim) hN (fun l' w' hc' hun hr hS hk => hS fun k hk' => ?_) n l a w hc (Region.free_spec ho hfree) hready hy (fun _ => hag) (fun _ => hag) h
  rw [getD_set_ne false (Ne.symm (hne k hk'))]; exact hk k hk'
theorem HeapOK.drawn {η : Env} {w : World} {O : Hps} {nx : Nat} (H : HeapOK M η w O nx) {n : Nat} (hn : w.drawn ≤ n) : HeapOK M η { w with drawn := n } O nx :=
  ⟨H.pre, H.len, H.own.still rfl, ⟨H.fr.os, H.fr.tape, H.fr.output, Nat.le_trans H.fr.drawn hn, H.fr.size, H.fr.block⟩, H.sok⟩
theorem modeOK_of {m : Nat} (h : modeOK m = true) : m = 0 ∨ m = 3 := by
  unfold modeOK at h
  simpa using h
theorem killIf_mem {i m : Nat} {l : List Nat} {x : Nat} (h : x ∈ l) : x ∈ killIf i m l := by
  cases m with
  | zero => exact List.mem_cons_of_mem _ h
  | succ m => exact h
theorem killIf_self {i : Nat} {l : List Nat} : i ∈ killIf i 0 l := List.mem_cons_self ..
/-- One operation, in a mode that may write or in one that adds: whatever comes of it. -/
theorem oneD_op (hT : TabOK M.P M.C.T) {i m : Nat} (hmode : m = 0 ∨ m = 3) {fr : Fr} {O : Hps} {nx : Nat} {Kn : Fr → Hps → Nat → Prop} (h : oneD M ops.toList i m fr O nx Kn) {η : Env} {a : Act} {w : World} (hm : Models M η fr O nx a w) {R : Act → World → Prop}
    (hR : ∀ {fr : Fr} {O : Hps} {nx : Nat} {η : Env} {a : Act} {w' : World}, Kn fr O nx → Models M η fr O nx a w' → (m = 3 → agree w w') → R a w') : wpOpIn M.fence 0 M.P ops Q i R a w := by
  unfold oneD at h
  split at h
  · exact h.out.elim
  rename_i o ho
  have ho : ops[i]? = some o := by rw [nth_get] at ho; simpa using ho
  have skip : ∀ {fr' : Fr}, Models M η fr' O nx a w → Region.wanted o (yielded ops a.tmps) ≠ true → (match dstOk M.C.N o.dst with | true => putK o.dst undefS fr' fun fr => Kn fr O nx | false => STOP "slot") → wpOpIn M.fence 0 M.P ops Q i R a w := by
    intro fr' hm' hw h
    split at h
    case h_2 => exact h.out.elim
    rename_i hd
    obtain ⟨fr2, h1, h2⟩ := models_put hm' hd (denNone η) h
    unfold wpOpIn
    simp only [ho]
    rw [if_neg hw]; exact ⟨fun f _ => M.all f, hR h1 h2 fun _ => agree.refl w⟩
  have go : ∀ {fr' : Fr}, Models M η fr' O nx a w → Region.wanted o (yielded ops a.tmps) = true → (carry M m o fr' O nx fun v O nx => putK o.dst v fr' fun fr => Kn fr O nx) → wpOpIn M.fence 0 M.P ops Q i R a w := by
    intro fr' hm' hw h
    unfold wpOpIn
    simp only [ho]
    rw [if_pos hw]
    rcases hmode with rfl | rfl
    · have h : stepO M o (lookF fr') O nx fun v O nx => putK o.dst v fr' fun fr => Kn fr O nx := h
      refine (stepO_wp hT hm' (fun x sv hx => lookF_den hm'.frame hx) h fun u v O' nx' η' w' hd hp hH hv hk => ?_)
      obtain ⟨fr2, h1, h2⟩ := hm'.put hd hp hH hv hk
      exact hR h1 h2 fun h => by cases h
    · have h : ADD M o fr' O nx fun v O nx => putK o.dst v fr' fun fr => Kn fr O nx := h
      have hm2 : Models (shMx M O η w) η fr' [] nx a w := ⟨hm'.heap.read (agree.refl w), hm'.size, hm'.nds, hm'.defers, hm'.ro, hm'.frame⟩
      refine (stepO_wp (M := shMx M O η w) hT hm2 (fun x sv hx => lookF_den hm'.frame hx) (h.out η w) fun u v O2 nx2 η' w' hd hp hH hv hk => ?_)
      obtain ⟨hJ, hag2⟩ := hm'.heap.join hH
      obtain ⟨fr2, h1, h2⟩ := hm'.put hd hp hJ hv hk
      exact hR h1 h2 fun _ => hag2
  split at h
  · rename_i hg
    exact go hm (wanted_none hg) h
  · rename_i j want hg
    split at h
    · exact h.out.elim
    rename_i s hsl
    split at h
    · rename_i b hb
      have hbv := denBool (hm.frame s _ hb)
      have hy := yielded_of hsl hbv
      cases b with
      | true =>
        have h := h.t rfl
        have hm' : Models M η ((s, .bool true) :: fr) O nx a w := hm.know hb rfl rfl hbv
        cases want with
        | true => exact go hm' ((wanted_some hg).2 hy) h
        | false => exact skip hm' (fun hw => by rw [wanted_some hg, hy] at hw; cases hw) h
      | false =>
        have h := h.f rfl
        have hm' : Models M η ((s, .bool false) :: fr) O nx a w := hm.know hb rfl rfl hbv
        cases want with
        | false => exact go hm' ((wanted_some hg).2 hy) h
        | true => exact skip hm' (fun hw => by rw [wanted_some hg, hy] at hw; cases hw) h
    · rename_i hb
      have hbv := hm.frame s _ hb
      simp only [Den, DenL] at hbv
      obtain ⟨vs, hbv, rfl⟩ := hbv
      exact skip hm (fun hw => by rw [wanted_some hg] at hw; exact yielded_not hsl (by rw [hbv]; simp) hw) h
    · exact h.out.elim
/-- One arm of a fork. -/
theorem arm (hT : TabOK M.P M.C.T) {fk t : Plan} {d : Nat} {fr : Fr} {O : Hps} {nx : Nat} {K : Fr → Hps → Nat → Prop} {η : Env} {a : Act} {w wc : World} {l : Array Bool} (hm : Models M η fr O nx a w) (hag : agree wc w) (hc : Closed .any ops l)
    {x m : Nat} (hmo : modeOK m = true) (hx : x ∈ Region.ready .any ops l) (hxk : m = 0 → x ∈ killsOf fk) (hsub : ∀ k ∈ killsOf t, k ∈ killsOf fk) (hd : t.depth = d)
    (ih : ∀ {fr : Fr} {O : Hps} {nx : Nat} {η : Env} {a : Act} {w wc : World}, runD M ops.toList t fr O nx K → Models M η fr O nx a w → agree wc w → wpH M.fence M.P .any ops Q (SS (killsOf t) wc) t.depth (l.setIfInBounds x true) a w)
    (hrun : oneD M ops.toList x m fr O nx fun fr O nx => runD M ops.toList t fr O nx K) :
    wpOpIn M.fence 0 M.P ops Q x (fun a' w' => SS (killsOf fk) wc (l.setIfInBounds x true) w' ∧ wpH M.fence M.P .any ops Q (SS (killsOf fk) wc) d (l.setIfInBounds x true) a' w') a w := by
  have hin : x < l.size := by
    obtain ⟨h1, o, ho, _⟩ := mem_ready.1 hx
    rw [hc.1]; exact (Array.getElem?_eq_some_iff.1 ho).1
  have hset : (l.setIfInBounds x true).getD x false = true := by simp [hin]
  refine oneD_op hT (modeOK_of hmo) hrun hm fun {fr O nx η a w'} hk hm' hag' => ?_
  rcases modeOK_of hmo with h0 | h3
  · have hno : ∀ l' w', Grows (l.setIfInBounds x true) l' → SS (killsOf fk) wc l' w' := by
      intro l' w' hg hk
      have h1 := hk x (hxk h0)
      rw [hg x hset] at h1; cases h1
    refine ⟨hno _ _ (fun _ h => h), ?_⟩
    have := ih hk hm' (agree.refl _)
    rw [hd] at this
    exact wpH_mono (l0 := l.setIfInBounds x true) (fun l' w' hg _ => hno l' w' hg) _ _ _ _ (fun _ h => h) this
  · have hag2 : agree wc w' := hag.trans (hag' h3)
    refine ⟨fun _ => hag2, ?_⟩
    have := ih hk hm' hag2
    rw [hd] at this
    exact wpH_mono (l0 := l.setIfInBounds x true) (fun l' w'' hg hS hk => hS fun k hkt => hk k (hsub k hkt)) _ _ _ _ (fun _ h => h) this
theorem runD_sound (hT : TabOK M.P M.C.T) (hQ : ∀ c a w, ¬ Q (.panic c) a w) (hs : Region.noSelect ops = true) : ∀ (steps : Plan) {fr : Fr} {O : Hps} {nx : Nat} {K : Fr → Hps → Nat → Prop}, runD M ops.toList steps fr O nx K →
    ∀ {l : Array Bool}, stepsOK ops (masks ops.toList []) steps l = true → Closed .any ops l → ∀ {η : Env} {a : Act} {w : World}, Models M η fr O nx a w → (∀ η fr O nx a w, Models M η fr O nx a w → K fr O nx → Q .normal a w) →
    ∀ {wc : World}, agree wc w → wpH M.fence M.P .any ops Q (SS (killsOf steps) wc) steps.depth l a w
  | .nil, fr, O, nx, K, h, l, hl, hc, η, a, w, hm, hq, wc, hag => by
    simp only [stepsOK, List.isEmpty_iff] at hl
    exact ⟨hl, hq η fr O nx a w hm h⟩
  | .take i m rest, fr, O, nx, K, h, l, hl, hc, η, a, w, hm, hq, wc, hag => by
    have IH := @runD_sound hT hQ hs rest
    unfold runD oneD at h
    split at h
    · exact h.out.elim
    rename_i o ho
    have ho : ops[i]? = some o := by rw [nth_get] at ho; simpa using ho
    simp only [stepsOK, Bool.and_eq_true] at hl
    obtain ⟨hl1, hl2⟩ := hl
    have hready : i ∈ Region.ready .any ops l := by
      revert hl1
      split <;> intro hl1
      · rw [beq_iff_eq.1 hl1]; exact List.mem_singleton.2 rfl
      · simp only [Bool.and_eq_true] at hl1; simpa using hl1.1.1
      · simp only [Bool.and_eq_true] at hl1; simpa using hl1.1.1
      · rw [beq_iff_eq.1 hl1]; exact List.mem_singleton.2 rfl
    have hc' := hc.set hready
    have hin : i < l.size := by rw [hc.1]; exact (Array.getElem?_eq_some_iff.1 ho).1
    have hset : (l.setIfInBounds i true).getD i false = true := by simp [hin]
    have modes : ∀ {p : Prop}, (m = 0 → p) → (m = 1 → p) → (m = 2 → p) → (3 ≤ m → p) → p := by
      intro p h0 h1 h2 h3
      match m, h0, h1, h2, h3 with
      | 0, h0, _, _, _ => exact h0 rfl
      | 1, _, h1, _, _ => exact h1 rfl
      | 2, _, _, h2, _ => exact h2 rfl
      | m + 3, _, _, _, h3 => exact h3 (by omega)
    -- an operation that waits for nobody's leave: but this one may come up
    have alone : Region.ready .any ops l = [i] → ∀ {a : Act} {w : World}, agree wc w → wpOpIn M.fence 0 M.P ops Q i (fun a' w' => SS (killsOf (.take i m rest)) wc (l.setIfInBounds i true) w' ∧ wpH M.fence M.P .any ops Q (SS (killsOf (.take i m rest)) wc) rest.depth (l.setIfInBounds i true) a' w') a w →
        wpH M.fence M.P .any ops Q (SS (killsOf (.take i m rest)) wc) (Plan.take i m rest).depth l a w := fun hr a w hag h => wpH_one hr h
    -- what follows an operation that writes
    have afterKill : m = 0 → ∀ {fr : Fr} {O : Hps} {nx : Nat} {η : Env} {a : Act} {w : World}, runD M ops.toList rest fr O nx K → Models M η fr O nx a w →
        SS (killsOf (.take i m rest)) wc (l.setIfInBounds i true) w ∧ wpH M.fence M.P .any ops Q (SS (killsOf (.take i m rest)) wc) rest.depth (l.setIfInBounds i true) a w := by
      intro h0 fr O nx η a w hrun hm
      subst h0
      rw [killsOf_kill]
      have hno : ∀ l' w', Grows (l.setIfInBounds i true) l' → SS (i :: killsOf rest) wc l' w' := by
        intro l' w' hg hk
        have h1 := hk i (List.mem_cons_self ..)
        rw [hg i hset] at h1; cases h1
      exact ⟨hno _ _ (fun _ h => h), wpH_mono (l0 := l.setIfInBounds i true) (fun l' w' hg _ => hno l' w' hg) _ _ _ _ (fun _ h => h) (IH hrun hl2 hc' hm hq (agree.refl w))⟩
    -- what follows one that does not
    have afterElse : m ≠ 0 → ∀ {fr : Fr} {O : Hps} {nx : Nat} {η : Env} {a : Act} {w : World}, runD M ops.toList rest fr O nx K → Models M η fr O nx a w → agree wc w →
        SS (killsOf (.take i m rest)) wc (l.setIfInBounds i true) w ∧ wpH M.fence M.P .any ops Q (SS (killsOf (.take i m rest)) wc) rest.depth (l.setIfInBounds i true) a w := by
      intro h0 fr O nx η a w hrun hm hag
      rw [killsOf_quiet h0]
      exact ⟨fun _ => hag, IH hrun hl2 hc' hm hq hag⟩
    have quiet1 : m = 1 → Region.free .any ops l i = true ∧ ∀ k ∈ killsOf rest, k ≠ i := by
      intro h1; subst h1
      simp only [Bool.and_eq_true, List.all_eq_true, bne_iff_ne] at hl1
      exact ⟨hl1.1.2, hl1.2⟩
    have quiet2 : m = 2 → Region.free .any ops l i = true ∧ ∀ k ∈ killsOf rest, k ≠ i ∧ ((masks ops.toList []).getD k 0).testBit i = true := by
      intro h1; subst h1
      simp only [Bool.and_eq_true, List.all_eq_true, bne_iff_ne] at hl1
      exact ⟨hl1.1.2, hl1.2⟩
    have alone0 : m = 0 → Region.ready .any ops l = [i] := by intro h1; subst h1; exact beq_iff_eq.1 hl1
    have alone3 : 3 ≤ m → Region.ready .any ops l = [i] := by
      intro h1
      match m, h1, hl1 with
      | m + 3, _, hl1 => exact beq_iff_eq.1 hl1
    -- it is passed over
    have skip : ∀ {fr' : Fr}, Models M η fr' O nx a w → Region.wanted o (yielded ops a.tmps) ≠ true → (match dstOk M.C.N o.dst with | true => putK o.dst undefS fr' fun fr => runD M ops.toList rest fr O nx K | false => STOP "slot") →
        wpH M.fence M.P .any ops Q (SS (killsOf (.take i m rest)) wc) (Plan.take i m rest).depth l a w := by
      intro fr' hm' hw h
      split at h
      case h_2 => exact h.out.elim
      rename_i hd
      obtain ⟨fr2, h1, h2⟩ := models_put hm' hd (denNone η) h
      have hwf : Region.wanted o (yielded ops a.tmps) = false := by simpa using hw
      have op : ∀ {K' : Act → World → Prop}, K' (a.put o.dst undef) w → wpOpIn M.fence 0 M.P ops Q i K' a w := by
        intro K' hk
        unfold wpOpIn
        simp only [ho]
        rw [if_neg hw]; exact ⟨fun f _ => M.all f, hk⟩
      refine modes (fun h0 => alone (alone0 h0) hag (op (afterKill h0 h1 h2))) (fun h0 => ?_) (fun h0 => ?_) (fun h0 => alone (alone3 h0) hag (op (afterElse (by omega) h1 h2 hag)))
      · have hn : m ≠ 0 := by omega
        have := (afterElse hn h1 h2 hag).2
        rw [killsOf_quiet hn] at this ⊢
        exact quiet_first hQ hs ho hready (quiet1 h0).1 (quiet1 h0).2 hc (N := fun _ => True) (fun _ _ _ _ _ => trivial) (.inr ⟨hwf, rfl⟩) hag this
      · have hn : m ≠ 0 := by omega
        have := (afterElse hn h1 h2 hag).2
        rw [killsOf_quiet hn] at this ⊢
        exact quiet_first hQ hs ho hready (quiet2 h0).1 (fun k hk => ((quiet2 h0).2 k hk).1) hc (N := fun _ => True) (fun _ _ _ _ _ => trivial) (.inr ⟨hwf, rfl⟩) hag this
    -- it is carried out
    have go : ∀ {fr' : Fr}, Models M η fr' O nx a w → Region.wanted o (yielded ops a.tmps) = true → (carry M m o fr' O nx fun v O nx => putK o.dst v fr' fun fr => runD M ops.toList rest fr O nx K) →
        wpH M.fence M.P .any ops Q (SS (killsOf (.take i m rest)) wc) (Plan.take i m rest).depth l a w := by
      intro fr' hm' hw h
      have op : ∀ {K' : Act → World → Prop}, o.wpIn M.fence 0 M.P a w K' Q → wpOpIn M.fence 0 M.P ops Q i K' a w := by
        intro K' hk
        unfold wpOpIn
        simp only [ho]
        rw [if_pos hw]; exact hk
      refine modes (fun h0 => ?_) (fun h0 => ?_) (fun h0 => ?_) (fun h0 => ?_)
      · have h : stepO M o (lookF fr') O nx fun v O nx => putK o.dst v fr' fun fr => runD M ops.toList rest fr O nx K := by subst h0; exact h
        refine alone (alone0 h0) hag (op (stepO_wp hT hm' (fun x sv hx => lookF_den hm'.frame hx) h fun u v O' nx' η' w' hd hp hH hv hk => ?_))
        obtain ⟨fr2, h1, h2⟩ := hm'.put hd hp hH hv hk
        exact afterKill h0 h1 h2
      · have h : stepQ M.C.N (cxBlind M.C) o fr' nx fun v => putK o.dst v fr' fun fr => runD M ops.toList rest fr O nx K := by subst h0; exact h
        obtain ⟨hd, u, v, hy, hv, hk⟩ := stepQ_yields (P := M.P) (C' := cxBlind M.C) ⟨hT.und, hT.info, hT.zero, hT.zsh, hT.flat, hT.key⟩ (N := fun _ => True) (w := w) hm'.frame (fun w' _ => HeapOK.blind (M := M) hm'.heap.len w') trivial h
        obtain ⟨fr2, h1, h2⟩ := models_put hm' hd hv hk
        have hn : m ≠ 0 := by omega
        have := (afterElse hn h1 h2 hag).2
        rw [killsOf_quiet hn] at this ⊢
        exact quiet_first hQ hs ho hready (quiet1 h0).1 (quiet1 h0).2 hc (N := fun _ => True) (fun _ _ _ _ _ => trivial) (.inl ⟨hw, fun w' h => hy w' h⟩) hag this
      · have h : stepQ M.C.N (cxRead M.C O) o fr' nx fun v => putK o.dst v fr' fun fr => runD M ops.toList rest fr O nx K := by subst h0; exact h
        obtain ⟨hd, u, v, hy, hv, hk⟩ := stepQ_yields (P := M.P) (C' := cxRead M.C O) hT (N := agree w) hm'.frame (fun w' h => hm'.heap.read h) (agree.refl w) h
        obtain ⟨fr2, h1, h2⟩ := models_put hm' hd hv hk
        have hn : m ≠ 0 := by omega
        have := IH h1 hl2 hc' h2 hq (agree.refl w)
        rw [killsOf_quiet hn]
        refine wpH_mono (S' := SS (killsOf rest) w) (l0 := l) (fun l' w' _ hS hk => hag.trans (hS hk)) _ _ _ _ (fun _ h => h) ?_
        refine quiet_first hQ hs ho hready (quiet2 h0).1 (fun k hk => ((quiet2 h0).2 k hk).1) hc (N := agree w) (fun l' w' hcl hun hS => hS fun k hk => ?_) (.inl ⟨hw, fun w' h => hy w' h⟩) (agree.refl w) this
        cases hlk : l'.getD k false with
        | false => rfl
        | true =>
          have := waits_closed hcl k ((quiet2 h0).2 k hk).2 hlk
          rw [getD_false_of_true hun] at this; cases this
      · have h : ADD M o fr' O nx fun v O nx => putK o.dst v fr' fun fr => runD M ops.toList rest fr O nx K := by
          match m, h0, h with
          | m + 3, _, h => exact h
        have hm2 : Models (shMx M O η w) η fr' [] nx a w := ⟨hm'.heap.read (agree.refl w), hm'.size, hm'.nds, hm'.defers, hm'.ro, hm'.frame⟩
        refine alone (alone3 h0) hag (op (stepO_wp (M := shMx M O η w) hT hm2 (fun x sv hx => lookF_den hm'.frame hx) (h.out η w) fun u v O2 nx2 η' w' hd hp hH hv hk => ?_))
        obtain ⟨hJ, hag2⟩ := hm'.heap.join hH
        obtain ⟨fr2, h1, h2⟩ := hm'.put hd hp hJ hv hk
        exact afterElse (by omega) h1 h2 (hag.trans hag2)
    split at h
    · rename_i hg
      exact go hm (wanted_none hg) h
    · rename_i j want hg
      split at h
      · exact h.out.elim
      rename_i s hsl
      split at h
      · rename_i b hb
        have hbv := denBool (hm.frame s _ hb)
        have hy := yielded_of hsl hbv
        cases b with
        | true =>
          have h := h.t rfl
          have hm' : Models M η ((s, .bool true) :: fr) O nx a w := hm.know hb rfl rfl hbv
          cases want with
          | true => exact go hm' ((wanted_some hg).2 hy) h
          | false => exact skip hm' (fun hw => by rw [wanted_some hg, hy] at hw; cases hw) h
        | false =>
          have h := h.f rfl
          have hm' : Models M η ((s, .bool false) :: fr) O nx a w := hm.know hb rfl rfl hbv
          cases want with
          | false => exact go hm' ((wanted_some hg).2 hy) h
          | true => exact skip hm' (fun hw => by rw [wanted_some hg, hy] at hw; cases hw) h
      · rename_i hb
        have hbv := hm.frame s _ hb
        simp only [Den, DenL] at hbv
        obtain ⟨vs, hbv, rfl⟩ := hbv
        exact skip hm (fun hw => by rw [wanted_some hg] at hw; exact yielded_not hsl (by rw [hbv]; simp) hw) h
      · exact h.out.elim
  | .fork i mi j mj p q, fr, O, nx, K, h, l, hl, hc, η, a, w, hm, hq, wc, hag => by
    simp only [stepsOK, Bool.and_eq_true, beq_iff_eq] at hl
    obtain ⟨⟨⟨⟨⟨hr, hmi⟩, hmj⟩, hdep⟩, hlp⟩, hlq⟩ := hl
    unfold runD at h
    have hi : i ∈ Region.ready .any ops l := by rw [hr]; simp
    have hj : j ∈ Region.ready .any ops l := by rw [hr]; simp
    refine ⟨fun h0 => (by rw [hr] at h0; cases h0), fun x hx => ?_⟩
    rw [hr] at hx
    rcases List.mem_cons.1 hx with rfl | hx
    · exact arm hT hm hag hc hmi hi (fun h0 => by subst h0; exact killIf_self) (fun k hk => killIf_mem (killIf_mem (List.mem_append_left _ hk))) rfl (fun hk hm' hag => runD_sound hT hQ hs p hk hlp (hc.set hi) hm' hq hag) h.a
    · have hx := List.mem_singleton.1 hx
      subst hx
      exact arm hT hm hag hc hmj hj (fun h0 => by subst h0; exact killIf_mem killIf_self) (fun k hk => killIf_mem (killIf_mem (List.mem_append_right _ hk))) hdep.symm (fun hk hm' hag => runD_sound hT hQ hs q hk hlq (hc.set hj) hm' hq hag) h.b
  | .fork3 i mi j mj k mk p q r, fr, O, nx, K, h, l, hl, hc, η, a, w, hm, hq, wc, hag => by
    simp only [stepsOK, Bool.and_eq_true, beq_iff_eq] at hl
    obtain ⟨⟨⟨⟨⟨⟨⟨⟨hr, hmi⟩, hmj⟩, hmk⟩, hdep⟩, hdep2⟩, hlp⟩, hlq⟩, hlr⟩ := hl
    unfold runD at h
    have hi : i ∈ Region.ready .any ops l := by rw [hr]; simp
    have hj : j ∈ Region.ready .any ops l := by rw [hr]; simp
    have hk' : k ∈ Region.ready .any ops l := by rw [hr]; simp
    refine ⟨fun h0 => (by rw [hr] at h0; cases h0), fun x hx => ?_⟩
    rw [hr] at hx
    rcases List.mem_cons.1 hx with rfl | hx
    · exact arm hT hm hag hc hmi hi (fun h0 => by subst h0; exact killIf_self) (fun k hk => killIf_mem (killIf_mem (killIf_mem (List.mem_append_left _ hk)))) rfl (fun hk hm' hag => runD_sound hT hQ hs p hk hlp (hc.set hi) hm' hq hag) h.a
    · rcases List.mem_cons.1 hx with rfl | hx
      · exact arm hT hm hag hc hmj hj (fun h0 => by subst h0; exact killIf_mem killIf_self) (fun k hk => killIf_mem (killIf_mem (killIf_mem (List.mem_append_right _ (List.mem_append_left _ hk))))) hdep.symm (fun hk hm' hag => runD_sound hT hQ hs q hk hlq (hc.set hj) hm' hq hag) h.b.a
      · have hx := List.mem_singleton.1 hx
        subst hx
        exact arm hT hm hag hc hmk hk' (fun h0 => by subst h0; exact killIf_mem (killIf_mem killIf_self)) (fun k hk => killIf_mem (killIf_mem (killIf_mem (List.mem_append_right _ (List.mem_append_right _ hk))))) hdep2.symm (fun hk hm' hag => runD_sound hT hQ hs r hk hlr (hc.set hk') hm' hq hag) h.b.b
/-- A region whose order is drawn: it is walked in one order. -/
theorem DRAWN.of {M : Mx} (hT : TabOK M.P M.C.T) (hP : M.P.follows .mixedOrders = true) {id : Nat} {ops : Array Oper} {fr : Fr} {O : Hps} {nx : Nat} {Q : Post} (steps : Plan) (hord : orderOK ops steps = true)
    (h : runD M ops.toList steps fr O nx fun fr O nx => Q .normal fr O nx) : DRAWN M id ops fr O nx Q := by
  simp only [orderOK, Bool.and_eq_true, beq_iff_eq] at hord
  obtain ⟨⟨hs, hlen⟩, hord⟩ := hord
  refine ⟨fun η a w hm => wpIn_region_any hP (wpAny_of_wpH (S := SS (killsOf steps) { w with drawn := w.drawn + 1 }) _ _ _ _ ?_)⟩
  have hm' : Models M η fr O nx a { w with drawn := w.drawn + 1 } := ⟨hm.heap.drawn (Nat.le_succ _), hm.size, hm.nds, hm.defers, hm.ro, hm.frame⟩
  have hc0 : Closed .any ops (Array.replicate ops.size false) := by
    refine ⟨by simp, fun j o hj hl => ?_⟩
    rcases Nat.lt_or_ge j ops.size with h' | h'
    · simp [h'] at hl
    · simp [h'] at hl
  have key := runD_sound (Q := liftQ M Q) hT (fun c a w hq => hq) hs steps h hord hc0 hm' (fun η fr O nx a w hm hq => ⟨η, fr, O, nx, hm, hq⟩) (agree.refl _)
  rw [hlen] at key
  exact key
end
end Go.Sx
/- What the engine knows of the types of this program. Made by gen_tab.py. Conditions: none. -/
set_option maxRecDepth 100000
namespace Go.Proofs.Ytillkgjdbnjnoaa
open Go.Sx
def tabSh (t : TypeId) : Sh := match Nat.ble t 147 with | true => (match Nat.ble t 73 with | true => (match Nat.ble t 36 with | true => (match Nat.ble t 17 with | true => (match Nat.ble t 8 with | true => (match Nat.ble t 3 with | true => (match Nat.ble t 1 with | true => (match Nat.ble t 0 with | true => .plain | false => .func) | false => (match Nat.ble t 2 with | true => .int .i64 | false => .int .i64)) | false => (match Nat.ble t 5 with | true => (match Nat.ble t 4 with | true => .bool | false => .int .u8) | false => (match Nat.ble t 6 with | true => .int .u8 | false => (match Nat.ble t 7 with | true => .struct [(0, 2), (1, 3), (2, 4), (3, 6)] | false => .struct [(0, 2), (1, 3), (2, 4), (3, 6)])))) | false => (match Nat.ble t 12 with | true => (match Nat.ble t 10 with | true => (match Nat.ble t 9 with | true => .str | false => .str) | false => (match Nat.ble t 11 with | true => .str | false => .int .u64)) | false => (match Nat.ble t 14 with | true => (match Nat.ble t 13 with | true => .struct [(0, 9), (1, 12)] | false => .struct [(0, 9), (1, 12)]) | false => (match Nat.ble t 15 with | true => .ptr 134 | false => (match Nat.ble t 16 with | true => .ptr 137 | false => .ptr 146))))) | false => (match Nat.ble t 26 with | true => (match Nat.ble t 21 with | true => (match Nat.ble t 19 with | true => (match Nat.ble t 18 with | true => .struct [(0, 17)] | false => .struct [(0, 17)]) | false => (match Nat.ble t 20 with | true => .iface | false => .int .i32)) | false => (match Nat.ble t 23 with | true => (match Nat.ble t 22 with | true => .slice 26 | false => .struct [(0, 3), (1, 9), (2, 9), (3, 9)]) | false => (match Nat.ble t 24 with | true => .struct [(0, 3), (1, 9), (2, 9), (3, 9)] | false => (match Nat.ble t 25 with | true => .struct [(0, 24), (4, 24), (8, 24), (12, 24)] | false => .struct [(0, 24), (4, 24), (8, 24), (12, 24)])))) | false => (match Nat.ble t 31 with | true => (match Nat.ble t 28 with | true => (match Nat.ble t 27 with | true => .slice 3 | false => .func) | false => (match Nat.ble t 29 with | true => .func | false => (match Nat.ble t 30 with | true => .func | false => .func))) | false => (match Nat.ble t 33 with | true => (match Nat.ble t 32 with | true => .func | false => .func) | false => (match Nat.ble t 34 with | true => .func | false => (match Nat.ble t 35 with | true => .func | false => .plain)))))) | false => (match Nat.ble t 54 with | true => (match Nat.ble t 45 with | true => (match Nat.ble t 40 with | true => (match Nat.ble t 38 with | true => (match Nat.ble t 37 with | true => .func | false => .func) | false => (match Nat.ble t 39 with | true => .func | false => .slice 42)) | false => (match Nat.ble t 42 with | true => (match Nat.ble t 41 with | true => .struct [(0, 9), (1, 9)] | false => .struct [(0, 9), (1, 9)]) | false => (match Nat.ble t 43 with | true => .slice 24 | false => (match Nat.ble t 44 with | true => .func | false => .slice 9)))) | false => (match Nat.ble t 49 with | true => (match Nat.ble t 47 with | true => (match Nat.ble t 46 with | true => .func | false => .func) | false => (match Nat.ble t 48 with | true => .func | false => .func)) | false => (match Nat.ble t 51 with | true => (match Nat.ble t 50 with | true => .func | false => .ptr 24) | false => (match Nat.ble t 52 with | true => .array 4 51 | false => (match Nat.ble t 53 with | true => .func | false => .ptr 26))))) | false => (match Nat.ble t 63 with | true => (match Nat.ble t 58 with | true => (match Nat.ble t 56 with | true => (match Nat.ble t 55 with | true => .func | false => .func) | false => (match Nat.ble t 57 with | true => .func | false => .func)) | false => (match Nat.ble t 60 with | true => (match Nat.ble t 59 with | true => .func | false => .int .i64) | false => (match Nat.ble t 61 with | true => .plain | false => (match Nat.ble t 62 with | true => .func | false => .plain)))) | false => (match Nat.ble t 68 with | true => (match Nat.ble t 65 with | true => (match Nat.ble t 64 with | true => .func | false => .func) | false => (match Nat.ble t 66 with | true => .func | false => (match Nat.ble t 67 with | true => .func | false => .func))) | false => (match Nat.ble t 70 with | true => (match Nat.ble t 69 with | true => .func | false => .map 9 3) | false => (match Nat.ble t 71 with | true => .func | false => (match Nat.ble t 72 with | true => .func | false => .func))))))) | false => (match Nat.ble t 110 with | true => (match Nat.ble t 91 with | true => (match Nat.ble t 82 with | true => (match Nat.ble t 77 with | true => (match Nat.ble t 75 with | true => (match Nat.ble t 74 with | true => .func | false => .array 4 24) | false => (match Nat.ble t 76 with | true => .func | false => .func)) | false => (match Nat.ble t 79 with | true => (match Nat.ble t 78 with | true => .func | false => .func) | false => (match Nat.ble t 80 with | true => .func | false => (match Nat.ble t 81 with | true => .func | false => .int .u64)))) | false => (match Nat.ble t 86 with | true => (match Nat.ble t 84 with | true => (match Nat.ble t 83 with | true => .func | false => .func) | false => (match Nat.ble t 85 with | true => .func | false => .func)) | false => (match Nat.ble t 88 with | true => (match Nat.ble t 87 with | true => .func | false => .func) | false => (match Nat.ble t 89 with | true => .func | false => (match Nat.ble t 90 with | true => .func | false => .func))))) | false => (match Nat.ble t 100 with | true => (match Nat.ble t 95 with | true => (match Nat.ble t 93 with | true => (match Nat.ble t 92 with | true => .func | false => .func) | false => (match Nat.ble t 94 with | true => .int .i64 | false => .plain)) | false => (match Nat.ble t 97 with | true => (match Nat.ble t 96 with | true => .func | false => .func) | false => (match Nat.ble t 98 with | true => .func | false => (match Nat.ble t 99 with | true => .func | false => .func)))) | false => (match Nat.ble t 105 with | true => (match Nat.ble t 102 with | true => (match Nat.ble t 101 with | true => .func | false => .int .u32) | false => (match Nat.ble t 103 with | true => .func | false => (match Nat.ble t 104 with | true => .int .u64 | false => .func))) | false => (match Nat.ble t 107 with | true => (match Nat.ble t 106 with | true => .func | false => .func) | false => (match Nat.ble t 108 with | true => .func | false => (match Nat.ble t 109 with | true => .func | false => .func)))))) | false => (match Nat.ble t 128 with | true => (match Nat.ble t 119 with | true => (match Nat.ble t 114 with | true => (match Nat.ble t 112 with | true => (match Nat.ble t 111 with | true => .func | false => .func) | false => (match Nat.ble t 113 with | true => .func | false => .func)) | false => (match Nat.ble t 116 with | true => (match Nat.ble t 115 with | true => .func | false => .int .u64) | false => (match Nat.ble t 117 with | true => .func | false => (match Nat.ble t 118 with | true => .func | false => .func)))) | false => (match Nat.ble t 123 with | true => (match Nat.ble t 121 with | true => (match Nat.ble t 120 with | true => .ptr 3 | false => .func) | false => (match Nat.ble t 122 with | true => .func | false => .func)) | false => (match Nat.ble t 125 with | true => (match Nat.ble t 124 with | true => .func | false => .func) | false => (match Nat.ble t 126 with | true => .func | false => (match Nat.ble t 127 with | true => .ptr 116 | false => .plain))))) | false => (match Nat.ble t 137 with | true => (match Nat.ble t 132 with | true => (match Nat.ble t 130 with | true => (match Nat.ble t 129 with | true => .func | false => .func) | false => (match Nat.ble t 131 with | true => .func | false => .func)) | false => (match Nat.ble t 134 with | true => (match Nat.ble t 133 with | true => .struct [(0, 17), (1, 17), (2, 17), (3, 9)] | false => .struct [(0, 17), (1, 17), (2, 17), (3, 9)]) | false => (match Nat.ble t 135 with | true => .array 0 16 | false => (match Nat.ble t 136 with | true => .struct [(0, 135)] | false => .struct [(0, 135)])))) | false => (match Nat.ble t 142 with | true => (match Nat.ble t 139 with | true => (match Nat.ble t 138 with | true => .func | false => .int .u8) | false => (match Nat.ble t 140 with | true => .int .u8 | false => (match Nat.ble t 141 with | true => .func | false => .ptr 5))) | false => (match Nat.ble t 144 with | true => (match Nat.ble t 143 with | true => .int .i32 | false => .int .i32) | false => (match Nat.ble t 145 with | true => .struct [(0, 12), (1, 12), (2, 102), (3, 139), (4, 5), (5, 5), (6, 140), (7, 141), (8, 142), (9, 143), (10, 144)] | false => (match Nat.ble t 146 with | true => .struct [(0, 12), (1, 12), (2, 102), (3, 139), (4, 5), (5, 5), (6, 140), (7, 141), (8, 142), (9, 143), (10, 144)] | false => .plain)))))))) | false => .other
def tabSize (t : TypeId) : Nat := match Nat.ble t 147 with | true => (match Nat.ble t 73 with | true => (match Nat.ble t 36 with | true => (match Nat.ble t 17 with | true => (match Nat.ble t 8 with | true => (match Nat.ble t 3 with | true => (match Nat.ble t 1 with | true => (match Nat.ble t 0 with | true => 1 | false => 1) | false => (match Nat.ble t 2 with | true => 1 | false => 1)) | false => (match Nat.ble t 5 with | true => (match Nat.ble t 4 with | true => 1 | false => 1) | false => (match Nat.ble t 6 with | true => 1 | false => (match Nat.ble t 7 with | true => 4 | false => 4)))) | false => (match Nat.ble t 12 with | true => (match Nat.ble t 10 with | true => (match Nat.ble t 9 with | true => 1 | false => 1) | false => (match Nat.ble t 11 with | true => 1 | false => 1)) | false => (match Nat.ble t 14 with | true => (match Nat.ble t 13 with | true => 2 | false => 2) | false => (match Nat.ble t 15 with | true => 1 | false => (match Nat.ble t 16 with | true => 1 | false => 1))))) | false => (match Nat.ble t 26 with | true => (match Nat.ble t 21 with | true => (match Nat.ble t 19 with | true => (match Nat.ble t 18 with | true => 1 | false => 1) | false => (match Nat.ble t 20 with | true => 1 | false => 1)) | false => (match Nat.ble t 23 with | true => (match Nat.ble t 22 with | true => 1 | false => 4) | false => (match Nat.ble t 24 with | true => 4 | false => (match Nat.ble t 25 with | true => 16 | false => 16)))) | false => (match Nat.ble t 31 with | true => (match Nat.ble t 28 with | true => (match Nat.ble t 27 with | true => 1 | false => 1) | false => (match Nat.ble t 29 with | true => 1 | false => (match Nat.ble t 30 with | true => 1 | false => 1))) | false => (match Nat.ble t 33 with | true => (match Nat.ble t 32 with | true => 1 | false => 1) | false => (match Nat.ble t 34 with | true => 1 | false => (match Nat.ble t 35 with | true => 1 | false => 1)))))) | false => (match Nat.ble t 54 with | true => (match Nat.ble t 45 with | true => (match Nat.ble t 40 with | true => (match Nat.ble t 38 with | true => (match Nat.ble t 37 with | true => 1 | false => 1) | false => (match Nat.ble t 39 with | true => 1 | false => 1)) | false => (match Nat.ble t 42 with | true => (match Nat.ble t 41 with | true => 2 | false => 2) | false => (match Nat.ble t 43 with | true => 1 | false => (match Nat.ble t 44 with | true => 1 | false => 1)))) | false => (match Nat.ble t 49 with | true => (match Nat.ble t 47 with | true => (match Nat.ble t 46 with | true => 1 | false => 1) | false => (match Nat.ble t 48 with | true => 1 | false => 1)) | false => (match Nat.ble t 51 with | true => (match Nat.ble t 50 with | true => 1 | false => 1) | false => (match Nat.ble t 52 with | true => 4 | false => (match Nat.ble t 53 with | true => 1 | false => 1))))) | false => (match Nat.ble t 63 with | true => (match Nat.ble t 58 with | true => (match Nat.ble t 56 with | true => (match Nat.ble t 55 with | true => 1 | false => 1) | false => (match Nat.ble t 57 with | true => 1 | false => 1)) | false => (match Nat.ble t 60 with | true => (match Nat.ble t 59 with | true => 1 | false => 1) | false => (match Nat.ble t 61 with | true => 1 | false => (match Nat.ble t 62 with | true => 1 | false => 1)))) | false => (match Nat.ble t 68 with | true => (match Nat.ble t 65 with | true => (match Nat.ble t 64 with | true => 1 | false => 1) | false => (match Nat.ble t 66 with | true => 1 | false => (match Nat.ble t 67 with | true => 1 | false => 1))) | false => (match Nat.ble t 70 with | true => (match Nat.ble t 69 with | true => 1 | false => 1) | false => (match Nat.ble t 71 with | true => 1 | false => (match Nat.ble t 72 with | true => 1 | false => 1))))))) | false => (match Nat.ble t 110 with | true => (match Nat.ble t 91 with | true => (match Nat.ble t 82 with | true => (match Nat.ble t 77 with | true => (match Nat.ble t 75 with | true => (match Nat.ble t 74 with | true => 1 | false => 16) | false => (match Nat.ble t 76 with | true => 1 | false => 1)) | false => (match Nat.ble t 79 with | true => (match Nat.ble t 78 with | true => 1 | false => 1) | false => (match Nat.ble t 80 with | true => 1 | false => (match Nat.ble t 81 with | true => 1 | false => 1)))) | false => (match Nat.ble t 86 with | true => (match Nat.ble t 84 with | true => (match Nat.ble t 83 with | true => 1 | false => 1) | false => (match Nat.ble t 85 with | true => 1 | false => 1)) | false => (match Nat.ble t 88 with | true => (match Nat.ble t 87 with | true => 1 | false => 1) | false => (match Nat.ble t 89 with | true => 1 | false => (match Nat.ble t 90 with | true => 1 | false => 1))))) | false => (match Nat.ble t 100 with | true => (match Nat.ble t 95 with | true => (match Nat.ble t 93 with | true => (match Nat.ble t 92 with | true => 1 | false => 1) | false => (match Nat.ble t 94 with | true => 1 | false => 1)) | false => (match Nat.ble t 97 with | true => (match Nat.ble t 96 with | true => 1 | false => 1) | false => (match Nat.ble t 98 with | true => 1 | false => (match Nat.ble t 99 with | true => 1 | false => 1)))) | false => (match Nat.ble t 105 with | true => (match Nat.ble t 102 with | true => (match Nat.ble t 101 with | true => 1 | false => 1) | false => (match Nat.ble t 103 with | true => 1 | false => (match Nat.ble t 104 with | true => 1 | false => 1))) | false => (match Nat.ble t 107 with | true => (match Nat.ble t 106 with | true => 1 | false => 1) | false => (match Nat.ble t 108 with | true => 1 | false => (match Nat.ble t 109 with | true => 1 | false => 1)))))) | false => (match Nat.ble t 128 with | true => (match Nat.ble t 119 with | true => (match Nat.ble t 114 with | true => (match Nat.ble t 112 with | true => (match Nat.ble t 111 with | true => 1 | false => 1) | false => (match Nat.ble t 113 with | true => 1 | false => 1)) | false => (match Nat.ble t 116 with | true => (match Nat.ble t 115 with | true => 1 | false => 1) | false => (match Nat.ble t 117 with | true => 1 | false => (match Nat.ble t 118 with | true => 1 | false => 1)))) | false => (match Nat.ble t 123 with | true => (match Nat.ble t 121 with | true => (match Nat.ble t 120 with | true => 1 | false => 1) | false => (match Nat.ble t 122 with | true => 1 | false => 1)) | false => (match Nat.ble t 125 with | true => (match Nat.ble t 124 with | true => 1 | false => 1) | false => (match Nat.ble t 126 with | true => 1 | false => (match Nat.ble t 127 with | true => 1 | false => 1))))) | false => (match Nat.ble t 137 with | true => (match Nat.ble t 132 with | true => (match Nat.ble t 130 with | true => (match Nat.ble t 129 with | true => 1 | false => 1) | false => (match Nat.ble t 131 with | true => 1 | false => 1)) | false => (match Nat.ble t 134 with | true => (match Nat.ble t 133 with | true => 4 | false => 4) | false => (match Nat.ble t 135 with | true => 0 | false => (match Nat.ble t 136 with | true => 0 | false => 0)))) | false => (match Nat.ble t 142 with | true => (match Nat.ble t 139 with | true => (match Nat.ble t 138 with | true => 1 | false => 1) | false => (match Nat.ble t 140 with | true => 1 | false => (match Nat.ble t 141 with | true => 1 | false => 1))) | false => (match Nat.ble t 144 with | true => (match Nat.ble t 143 with | true => 1 | false => 1) | false => (match Nat.ble t 145 with | true => 11 | false => (match Nat.ble t 146 with | true => 11 | false => 1)))))))) | false => 0
def tabZero (t : TypeId) : List SV := match Nat.ble t 147 with | true => (match Nat.ble t 73 with | true => (match Nat.ble t 36 with | true => (match Nat.ble t 17 with | true => (match Nat.ble t 8 with | true => (match Nat.ble t 3 with | true => (match Nat.ble t 1 with | true => (match Nat.ble t 0 with | true => [] | false => [.val .nilFunc]) | false => (match Nat.ble t 2 with | true => [.int .i64 (0)] | false => [.int .i64 (0)])) | false => (match Nat.ble t 5 with | true => (match Nat.ble t 4 with | true => [.bool false] | false => [.int .u8 (0)]) | false => (match Nat.ble t 6 with | true => [.int .u8 (0)] | false => (match Nat.ble t 7 with | true => [.int .i64 (0), .int .i64 (0), .bool false, .int .u8 (0)] | false => [.int .i64 (0), .int .i64 (0), .bool false, .int .u8 (0)])))) | false => (match Nat.ble t 12 with | true => (match Nat.ble t 10 with | true => (match Nat.ble t 9 with | true => [.str []] | false => [.str []]) | false => (match Nat.ble t 11 with | true => [.str []] | false => [.int .u64 (0)])) | false => (match Nat.ble t 14 with | true => (match Nat.ble t 13 with | true => [.str [], .int .u64 (0)] | false => [.str [], .int .u64 (0)]) | false => (match Nat.ble t 15 with | true => [.val (.pointer none)] | false => (match Nat.ble t 16 with | true => [.val (.pointer none)] | false => [.val (.pointer none)]))))) | false => (match Nat.ble t 26 with | true => (match Nat.ble t 21 with | true => (match Nat.ble t 19 with | true => (match Nat.ble t 18 with | true => [.val (.pointer none)] | false => [.val (.pointer none)]) | false => (match Nat.ble t 20 with | true => [.val .nilIface] | false => [.int .i32 (0)])) | false => (match Nat.ble t 23 with | true => (match Nat.ble t 22 with | true => [.val (.slice none 0 0)] | false => [.int .i64 (0), .str [], .str [], .str []]) | false => (match Nat.ble t 24 with | true => [.int .i64 (0), .str [], .str [], .str []] | false => (match Nat.ble t 25 with | true => [.int .i64 (0), .str [], .str [], .str [], .int .i64 (0), .str [], .str [], .str [], .int .i64 (0), .str [], .str [], .str [], .int .i64 (0), .str [], .str [], .str []] | false => [.int .i64 (0), .str [], .str [], .str [], .int .i64 (0), .str [], .str [], .str [], .int .i64 (0), .str [], .str [], .str [], .int .i64 (0), .str [], .str [], .str []])))) | false => (match Nat.ble t 31 with | true => (match Nat.ble t 28 with | true => (match Nat.ble t 27 with | true => [.val (.slice none 0 0)] | false => [.val .nilFunc]) | false => (match Nat.ble t 29 with | true => [.val .nilFunc] | false => (match Nat.ble t 30 with | true => [.val .nilFunc] | false => [.val .nilFunc]))) | false => (match Nat.ble t 33 with | true => (match Nat.ble t 32 with | true => [.val .nilFunc] | false => [.val .nilFunc]) | false => (match Nat.ble t 34 with | true => [.val .nilFunc] | false => (match Nat.ble t 35 with | true => [.val .nilFunc] | false => [])))))) | false => (match Nat.ble t 54 with | true => (match Nat.ble t 45 with | true => (match Nat.ble t 40 with | true => (match Nat.ble t 38 with | true => (match Nat.ble t 37 with | true => [.val .nilFunc] | false => [.val .nilFunc]) | false => (match Nat.ble t 39 with | true => [.val .nilFunc] | false => [.val (.slice none 0 0)])) | false => (match Nat.ble t 42 with | true => (match Nat.ble t 41 with | true => [.str [], .str []] | false => [.str [], .str []]) | false => (match Nat.ble t 43 with | true => [.val (.slice none 0 0)] | false => (match Nat.ble t 44 with | true => [.val .nilFunc] | false => [.val (.slice none 0 0)])))) | false => (match Nat.ble t 49 with | true => (match Nat.ble t 47 with | true => (match Nat.ble t 46 with | true => [.val .nilFunc] | false => [.val .nilFunc]) | false => (match Nat.ble t 48 with | true => [.val .nilFunc] | false => [.val .nilFunc])) | false => (match Nat.ble t 51 with | true => (match Nat.ble t 50 with | true => [.val .nilFunc] | false => [.val (.pointer none)]) | false => (match Nat.ble t 52 with | true => [.val (.pointer none), .val (.pointer none), .val (.pointer none), .val (.pointer none)] | false => (match Nat.ble t 53 with | true => [.val .nilFunc] | false => [.val (.pointer none)]))))) | false => (match Nat.ble t 63 with | true => (match Nat.ble t 58 with | true => (match Nat.ble t 56 with | true => (match Nat.ble t 55 with | true => [.val .nilFunc] | false => [.val .nilFunc]) | false => (match Nat.ble t 57 with | true => [.val .nilFunc] | false => [.val .nilFunc])) | false => (match Nat.ble t 60 with | true => (match Nat.ble t 59 with | true => [.val .nilFunc] | false => [.int .i64 (0)]) | false => (match Nat.ble t 61 with | true => [] | false => (match Nat.ble t 62 with | true => [.val .nilFunc] | false => [])))) | false => (match Nat.ble t 68 with | true => (match Nat.ble t 65 with | true => (match Nat.ble t 64 with | true => [.val .nilFunc] | false => [.val .nilFunc]) | false => (match Nat.ble t 66 with | true => [.val .nilFunc] | false => (match Nat.ble t 67 with | true => [.val .nilFunc] | false => [.val .nilFunc]))) | false => (match Nat.ble t 70 with | true => (match Nat.ble t 69 with | true => [.val .nilFunc] | false => [.val (.map none)]) | false => (match Nat.ble t 71 with | true => [.val .nilFunc] | false => (match Nat.ble t 72 with | true => [.val .nilFunc] | false => [.val .nilFunc]))))))) | false => (match Nat.ble t 110 with | true => (match Nat.ble t 91 with | true => (match Nat.ble t 82 with | true => (match Nat.ble t 77 with | true => (match Nat.ble t 75 with | true => (match Nat.ble t 74 with | true => [.val .nilFunc] | false => [.int .i64 (0), .str [], .str [], .str [], .int .i64 (0), .str [], .str [], .str [], .int .i64 (0), .str [], .str [], .str [], .int .i64 (0), .str [], .str [], .str []]) | false => (match Nat.ble t 76 with | true => [.val .nilFunc] | false => [.val .nilFunc])) | false => (match Nat.ble t 79 with | true => (match Nat.ble t 78 with | true => [.val .nilFunc] | false => [.val .nilFunc]) | false => (match Nat.ble t 80 with | true => [.val .nilFunc] | false => (match Nat.ble t 81 with | true => [.val .nilFunc] | false => [.int .u64 (0)])))) | false => (match Nat.ble t 86 with | true => (match Nat.ble t 84 with | true => (match Nat.ble t 83 with | true => [.val .nilFunc] | false => [.val .nilFunc]) | false => (match Nat.ble t 85 with | true => [.val .nilFunc] | false => [.val .nilFunc])) | false => (match Nat.ble t 88 with | true => (match Nat.ble t 87 with | true => [.val .nilFunc] | false => [.val .nilFunc]) | false => (match Nat.ble t 89 with | true => [.val .nilFunc] | false => (match Nat.ble t 90 with | true => [.val .nilFunc] | false => [.val .nilFunc]))))) | false => (match Nat.ble t 100 with | true => (match Nat.ble t 95 with | true => (match Nat.ble t 93 with | true => (match Nat.ble t 92 with | true => [.val .nilFunc] | false => [.val .nilFunc]) | false => (match Nat.ble t 94 with | true => [.int .i64 (0)] | false => [])) | false => (match Nat.ble t 97 with | true => (match Nat.ble t 96 with | true => [.val .nilFunc] | false => [.val .nilFunc]) | false => (match Nat.ble t 98 with | true => [.val .nilFunc] | false => (match Nat.ble t 99 with | true => [.val .nilFunc] | false => [.val .nilFunc])))) | false => (match Nat.ble t 105 with | true => (match Nat.ble t 102 with | true => (match Nat.ble t 101 with | true => [.val .nilFunc] | false => [.int .u32 (0)]) | false => (match Nat.ble t 103 with | true => [.val .nilFunc] | false => (match Nat.ble t 104 with | true => [.int .u64 (0)] | false => [.val .nilFunc]))) | false => (match Nat.ble t 107 with | true => (match Nat.ble t 106 with | true => [.val .nilFunc] | false => [.val .nilFunc]) | false => (match Nat.ble t 108 with | true => [.val .nilFunc] | false => (match Nat.ble t 109 with | true => [.val .nilFunc] | false => [.val .nilFunc])))))) | false => (match Nat.ble t 128 with | true => (match Nat.ble t 119 with | true => (match Nat.ble t 114 with | true => (match Nat.ble t 112 with | true => (match Nat.ble t 111 with | true => [.val .nilFunc] | false => [.val .nilFunc]) | false => (match Nat.ble t 113 with | true => [.val .nilFunc] | false => [.val .nilFunc])) | false => (match Nat.ble t 116 with | true => (match Nat.ble t 115 with | true => [.val .nilFunc] | false => [.int .u64 (0)]) | false => (match Nat.ble t 117 with | true => [.val .nilFunc] | false => (match Nat.ble t 118 with | true => [.val .nilFunc] | false => [.val .nilFunc])))) | false => (match Nat.ble t 123 with | true => (match Nat.ble t 121 with | true => (match Nat.ble t 120 with | true => [.val (.pointer none)] | false => [.val .nilFunc]) | false => (match Nat.ble t 122 with | true => [.val .nilFunc] | false => [.val .nilFunc])) | false => (match Nat.ble t 125 with | true => (match Nat.ble t 124 with | true => [.val .nilFunc] | false => [.val .nilFunc]) | false => (match Nat.ble t 126 with | true => [.val .nilFunc] | false => (match Nat.ble t 127 with | true => [.val (.pointer none)] | false => []))))) | false => (match Nat.ble t 137 with | true => (match Nat.ble t 132 with | true => (match Nat.ble t 130 with | true => (match Nat.ble t 129 with | true => [.val .nilFunc] | false => [.val .nilFunc]) | false => (match Nat.ble t 131 with | true => [.val .nilFunc] | false => [.val .nilFunc])) | false => (match Nat.ble t 134 with | true => (match Nat.ble t 133 with | true => [.val (.pointer none), .val (.pointer none), .val (.pointer none), .str []] | false => [.val (.pointer none), .val (.pointer none), .val (.pointer none), .str []]) | false => (match Nat.ble t 135 with | true => [] | false => (match Nat.ble t 136 with | true => [] | false => [])))) | false => (match Nat.ble t 142 with | true => (match Nat.ble t 139 with | true => (match Nat.ble t 138 with | true => [.val .nilFunc] | false => [.int .u8 (0)]) | false => (match Nat.ble t 140 with | true => [.int .u8 (0)] | false => (match Nat.ble t 141 with | true => [.val .nilFunc] | false => [.val (.pointer none)]))) | false => (match Nat.ble t 144 with | true => (match Nat.ble t 143 with | true => [.int .i32 (0)] | false => [.int .i32 (0)]) | false => (match Nat.ble t 145 with | true => [.int .u64 (0), .int .u64 (0), .int .u32 (0), .int .u8 (0), .int .u8 (0), .int .u8 (0), .int .u8 (0), .val .nilFunc, .val (.pointer none), .int .i32 (0), .int .i32 (0)] | false => (match Nat.ble t 146 with | true => [.int .u64 (0), .int .u64 (0), .int .u32 (0), .int .u8 (0), .int .u8 (0), .int .u8 (0), .int .u8 (0), .val .nilFunc, .val (.pointer none), .int .i32 (0), .int .i32 (0)] | false => [.val (.pointer none)])))))))) | false => []
def tabBytes (t : TypeId) : Nat := match Nat.ble t 147 with | true => (match Nat.ble t 73 with | true => (match Nat.ble t 36 with | true => (match Nat.ble t 17 with | true => (match Nat.ble t 8 with | true => (match Nat.ble t 3 with | true => (match Nat.ble t 1 with | true => (match Nat.ble t 0 with | true => 0 | false => 8) | false => (match Nat.ble t 2 with | true => 8 | false => 8)) | false => (match Nat.ble t 5 with | true => (match Nat.ble t 4 with | true => 1 | false => 1) | false => (match Nat.ble t 6 with | true => 1 | false => (match Nat.ble t 7 with | true => 24 | false => 24)))) | false => (match Nat.ble t 12 with | true => (match Nat.ble t 10 with | true => (match Nat.ble t 9 with | true => 16 | false => 16) | false => (match Nat.ble t 11 with | true => 16 | false => 8)) | false => (match Nat.ble t 14 with | true => (match Nat.ble t 13 with | true => 24 | false => 24) | false => (match Nat.ble t 15 with | true => 8 | false => (match Nat.ble t 16 with | true => 8 | false => 8))))) | false => (match Nat.ble t 26 with | true => (match Nat.ble t 21 with | true => (match Nat.ble t 19 with | true => (match Nat.ble t 18 with | true => 8 | false => 8) | false => (match Nat.ble t 20 with | true => 16 | false => 4)) | false => (match Nat.ble t 23 with | true => (match Nat.ble t 22 with | true => 24 | false => 56) | false => (match Nat.ble t 24 with | true => 56 | false => (match Nat.ble t 25 with | true => 224 | false => 224)))) | false => (match Nat.ble t 31 with | true => (match Nat.ble t 28 with | true => (match Nat.ble t 27 with | true => 24 | false => 8) | false => (match Nat.ble t 29 with | true => 8 | false => (match Nat.ble t 30 with | true => 8 | false => 8))) | false => (match Nat.ble t 33 with | true => (match Nat.ble t 32 with | true => 8 | false => 8) | false => (match Nat.ble t 34 with | true => 8 | false => (match Nat.ble t 35 with | true => 8 | false => 0)))))) | false => (match Nat.ble t 54 with | true => (match Nat.ble t 45 with | true => (match Nat.ble t 40 with | true => (match Nat.ble t 38 with | true => (match Nat.ble t 37 with | true => 8 | false => 8) | false => (match Nat.ble t 39 with | true => 8 | false => 24)) | false => (match Nat.ble t 42 with | true => (match Nat.ble t 41 with | true => 32 | false => 32) | false => (match Nat.ble t 43 with | true => 24 | false => (match Nat.ble t 44 with | true => 8 | false => 24)))) | false => (match Nat.ble t 49 with | true => (match Nat.ble t 47 with | true => (match Nat.ble t 46 with | true => 8 | false => 8) | false => (match Nat.ble t 48 with | true => 8 | false => 8)) | false => (match Nat.ble t 51 with | true => (match Nat.ble t 50 with | true => 8 | false => 8) | false => (match Nat.ble t 52 with | true => 32 | false => (match Nat.ble t 53 with | true => 8 | false => 8))))) | false => (match Nat.ble t 63 with | true => (match Nat.ble t 58 with | true => (match Nat.ble t 56 with | true => (match Nat.ble t 55 with | true => 8 | false => 8) | false => (match Nat.ble t 57 with | true => 8 | false => 8)) | false => (match Nat.ble t 60 with | true => (match Nat.ble t 59 with | true => 8 | false => 8) | false => (match Nat.ble t 61 with | true => 0 | false => (match Nat.ble t 62 with | true => 8 | false => 0)))) | false => (match Nat.ble t 68 with | true => (match Nat.ble t 65 with | true => (match Nat.ble t 64 with | true => 8 | false => 8) | false => (match Nat.ble t 66 with | true => 8 | false => (match Nat.ble t 67 with | true => 8 | false => 8))) | false => (match Nat.ble t 70 with | true => (match Nat.ble t 69 with | true => 8 | false => 8) | false => (match Nat.ble t 71 with | true => 8 | false => (match Nat.ble t 72 with | true => 8 | false => 8))))))) | false => (match Nat.ble t 110 with | true => (match Nat.ble t 91 with | true => (match Nat.ble t 82 with | true => (match Nat.ble t 77 with | true => (match Nat.ble t 75 with | true => (match Nat.ble t 74 with | true => 8 | false => 224) | false => (match Nat.ble t 76 with | true => 8 | false => 8)) | false => (match Nat.ble t 79 with | true => (match Nat.ble t 78 with | true => 8 | false => 8) | false => (match Nat.ble t 80 with | true => 8 | false => (match Nat.ble t 81 with | true => 8 | false => 8)))) | false => (match Nat.ble t 86 with | true => (match Nat.ble t 84 with | true => (match Nat.ble t 83 with | true => 8 | false => 8) | false => (match Nat.ble t 85 with | true => 8 | false => 8)) | false => (match Nat.ble t 88 with | true => (match Nat.ble t 87 with | true => 8 | false => 8) | false => (match Nat.ble t 89 with | true => 8 | false => (match Nat.ble t 90 with | true => 8 | false => 8))))) | false => (match Nat.ble t 100 with | true => (match Nat.ble t 95 with | true => (match Nat.ble t 93 with | true => (match Nat.ble t 92 with | true => 8 | false => 8) | false => (match Nat.ble t 94 with | true => 8 | false => 0)) | false => (match Nat.ble t 97 with | true => (match Nat.ble t 96 with | true => 8 | false => 8) | false => (match Nat.ble t 98 with | true => 8 | false => (match Nat.ble t 99 with | true => 8 | false => 8)))) | false => (match Nat.ble t 105 with | true => (match Nat.ble t 102 with | true => (match Nat.ble t 101 with | true => 8 | false => 4) | false => (match Nat.ble t 103 with | true => 8 | false => (match Nat.ble t 104 with | true => 8 | false => 8))) | false => (match Nat.ble t 107 with | true => (match Nat.ble t 106 with | true => 8 | false => 8) | false => (match Nat.ble t 108 with | true => 8 | false => (match Nat.ble t 109 with | true => 8 | false => 8)))))) | false => (match Nat.ble t 128 with | true => (match Nat.ble t 119 with | true => (match Nat.ble t 114 with | true => (match Nat.ble t 112 with | true => (match Nat.ble t 111 with | true => 8 | false => 8) | false => (match Nat.ble t 113 with | true => 8 | false => 8)) | false => (match Nat.ble t 116 with | true => (match Nat.ble t 115 with | true => 8 | false => 8) | false => (match Nat.ble t 117 with | true => 8 | false => (match Nat.ble t 118 with | true => 8 | false => 8)))) | false => (match Nat.ble t 123 with | true => (match Nat.ble t 121 with | true => (match Nat.ble t 120 with | true => 8 | false => 8) | false => (match Nat.ble t 122 with | true => 8 | false => 8)) | false => (match Nat.ble t 125 with | true => (match Nat.ble t 124 with | true => 8 | false => 8) | false => (match Nat.ble t 126 with | true => 8 | false => (match Nat.ble t 127 with | true => 8 | false => 0))))) | false => (match Nat.ble t 137 with | true => (match Nat.ble t 132 with | true => (match Nat.ble t 130 with | true => (match Nat.ble t 129 with | true => 8 | false => 8) | false => (match Nat.ble t 131 with | true => 8 | false => 8)) | false => (match Nat.ble t 134 with | true => (match Nat.ble t 133 with | true => 40 | false => 40) | false => (match Nat.ble t 135 with | true => 0 | false => (match Nat.ble t 136 with | true => 0 | false => 0)))) | false => (match Nat.ble t 142 with | true => (match Nat.ble t 139 with | true => (match Nat.ble t 138 with | true => 8 | false => 1) | false => (match Nat.ble t 140 with | true => 1 | false => (match Nat.ble t 141 with | true => 8 | false => 8))) | false => (match Nat.ble t 144 with | true => (match Nat.ble t 143 with | true => 4 | false => 4) | false => (match Nat.ble t 145 with | true => 48 | false => (match Nat.ble t 146 with | true => 48 | false => 8)))))))) | false => 0
def tabFlat (t : TypeId) : Option (List CK) := match Nat.ble t 147 with | true => (match Nat.ble t 73 with | true => (match Nat.ble t 36 with | true => (match Nat.ble t 17 with | true => (match Nat.ble t 8 with | true => (match Nat.ble t 3 with | true => (match Nat.ble t 1 with | true => (match Nat.ble t 0 with | true => none | false => none) | false => (match Nat.ble t 2 with | true => none | false => none)) | false => (match Nat.ble t 5 with | true => (match Nat.ble t 4 with | true => none | false => none) | false => (match Nat.ble t 6 with | true => none | false => (match Nat.ble t 7 with | true => none | false => none)))) | false => (match Nat.ble t 12 with | true => (match Nat.ble t 10 with | true => (match Nat.ble t 9 with | true => none | false => none) | false => (match Nat.ble t 11 with | true => none | false => none)) | false => (match Nat.ble t 14 with | true => (match Nat.ble t 13 with | true => none | false => none) | false => (match Nat.ble t 15 with | true => none | false => (match Nat.ble t 16 with | true => none | false => none))))) | false => (match Nat.ble t 26 with | true => (match Nat.ble t 21 with | true => (match Nat.ble t 19 with | true => (match Nat.ble t 18 with | true => none | false => none) | false => (match Nat.ble t 20 with | true => none | false => none)) | false => (match Nat.ble t 23 with | true => (match Nat.ble t 22 with | true => none | false => none) | false => (match Nat.ble t 24 with | true => some [.int .i64, .str, .str, .str] | false => (match Nat.ble t 25 with | true => none | false => some [.int .i64, .str, .str, .str, .int .i64, .str, .str, .str, .int .i64, .str, .str, .str, .int .i64, .str, .str, .str])))) | false => (match Nat.ble t 31 with | true => (match Nat.ble t 28 with | true => (match Nat.ble t 27 with | true => none | false => none) | false => (match Nat.ble t 29 with | true => none | false => (match Nat.ble t 30 with | true => none | false => none))) | false => (match Nat.ble t 33 with | true => (match Nat.ble t 32 with | true => none | false => none) | false => (match Nat.ble t 34 with | true => none | false => (match Nat.ble t 35 with | true => none | false => none)))))) | false => (match Nat.ble t 54 with | true => (match Nat.ble t 45 with | true => (match Nat.ble t 40 with | true => (match Nat.ble t 38 with | true => (match Nat.ble t 37 with | true => none | false => none) | false => (match Nat.ble t 39 with | true => none | false => none)) | false => (match Nat.ble t 42 with | true => (match Nat.ble t 41 with | true => none | false => some [.str, .str]) | false => (match Nat.ble t 43 with | true => none | false => (match Nat.ble t 44 with | true => none | false => none)))) | false => (match Nat.ble t 49 with | true => (match Nat.ble t 47 with | true => (match Nat.ble t 46 with | true => none | false => none) | false => (match Nat.ble t 48 with | true => none | false => none)) | false => (match Nat.ble t 51 with | true => (match Nat.ble t 50 with | true => none | false => none) | false => (match Nat.ble t 52 with | true => none | false => (match Nat.ble t 53 with | true => none | false => none))))) | false => (match Nat.ble t 63 with | true => (match Nat.ble t 58 with | true => (match Nat.ble t 56 with | true => (match Nat.ble t 55 with | true => none | false => none) | false => (match Nat.ble t 57 with | true => none | false => none)) | false => (match Nat.ble t 60 with | true => (match Nat.ble t 59 with | true => none | false => none) | false => (match Nat.ble t 61 with | true => none | false => (match Nat.ble t 62 with | true => none | false => none)))) | false => (match Nat.ble t 68 with | true => (match Nat.ble t 65 with | true => (match Nat.ble t 64 with | true => none | false => none) | false => (match Nat.ble t 66 with | true => none | false => (match Nat.ble t 67 with | true => none | false => none))) | false => (match Nat.ble t 70 with | true => (match Nat.ble t 69 with | true => none | false => none) | false => (match Nat.ble t 71 with | true => none | false => (match Nat.ble t 72 with | true => none | false => none))))))) | false => (match Nat.ble t 110 with | true => (match Nat.ble t 91 with | true => (match Nat.ble t 82 with | true => (match Nat.ble t 77 with | true => (match Nat.ble t 75 with | true => (match Nat.ble t 74 with | true => none | false => some [.int .i64, .str, .str, .str, .int .i64, .str, .str, .str, .int .i64, .str, .str, .str, .int .i64, .str, .str, .str]) | false => (match Nat.ble t 76 with | true => none | false => none)) | false => (match Nat.ble t 79 with | true => (match Nat.ble t 78 with | true => none | false => none) | false => (match Nat.ble t 80 with | true => none | false => (match Nat.ble t 81 with | true => none | false => none)))) | false => (match Nat.ble t 86 with | true => (match Nat.ble t 84 with | true => (match Nat.ble t 83 with | true => none | false => none) | false => (match Nat.ble t 85 with | true => none | false => none)) | false => (match Nat.ble t 88 with | true => (match Nat.ble t 87 with | true => none | false => none) | false => (match Nat.ble t 89 with | true => none | false => (match Nat.ble t 90 with | true => none | false => none))))) | false => (match Nat.ble t 100 with | true => (match Nat.ble t 95 with | true => (match Nat.ble t 93 with | true => (match Nat.ble t 92 with | true => none | false => none) | false => (match Nat.ble t 94 with | true => none | false => none)) | false => (match Nat.ble t 97 with | true => (match Nat.ble t 96 with | true => none | false => none) | false => (match Nat.ble t 98 with | true => none | false => (match Nat.ble t 99 with | true => none | false => none)))) | false => (match Nat.ble t 105 with | true => (match Nat.ble t 102 with | true => (match Nat.ble t 101 with | true => none | false => none) | false => (match Nat.ble t 103 with | true => none | false => (match Nat.ble t 104 with | true => none | false => none))) | false => (match Nat.ble t 107 with | true => (match Nat.ble t 106 with | true => none | false => none) | false => (match Nat.ble t 108 with | true => none | false => (match Nat.ble t 109 with | true => none | false => none)))))) | false => (match Nat.ble t 128 with | true => (match Nat.ble t 119 with | true => (match Nat.ble t 114 with | true => (match Nat.ble t 112 with | true => (match Nat.ble t 111 with | true => none | false => none) | false => (match Nat.ble t 113 with | true => none | false => none)) | false => (match Nat.ble t 116 with | true => (match Nat.ble t 115 with | true => none | false => none) | false => (match Nat.ble t 117 with | true => none | false => (match Nat.ble t 118 with | true => none | false => none)))) | false => (match Nat.ble t 123 with | true => (match Nat.ble t 121 with | true => (match Nat.ble t 120 with | true => none | false => none) | false => (match Nat.ble t 122 with | true => none | false => none)) | false => (match Nat.ble t 125 with | true => (match Nat.ble t 124 with | true => none | false => none) | false => (match Nat.ble t 126 with | true => none | false => (match Nat.ble t 127 with | true => none | false => none))))) | false => (match Nat.ble t 137 with | true => (match Nat.ble t 132 with | true => (match Nat.ble t 130 with | true => (match Nat.ble t 129 with | true => none | false => none) | false => (match Nat.ble t 131 with | true => none | false => none)) | false => (match Nat.ble t 134 with | true => (match Nat.ble t 133 with | true => none | false => none) | false => (match Nat.ble t 135 with | true => none | false => (match Nat.ble t 136 with | true => none | false => none)))) | false => (match Nat.ble t 142 with | true => (match Nat.ble t 139 with | true => (match Nat.ble t 138 with | true => none | false => none) | false => (match Nat.ble t 140 with | true => none | false => (match Nat.ble t 141 with | true => none | false => none))) | false => (match Nat.ble t 144 with | true => (match Nat.ble t 143 with | true => none | false => none) | false => (match Nat.ble t 145 with | true => none | false => (match Nat.ble t 146 with | true => none | false => none)))))))) | false => none
def tabKey (t : TypeId) : Option (Bool × List CK) := match Nat.ble t 147 with | true => (match Nat.ble t 73 with | true => (match Nat.ble t 36 with | true => (match Nat.ble t 17 with | true => (match Nat.ble t 8 with | true => (match Nat.ble t 3 with | true => (match Nat.ble t 1 with | true => (match Nat.ble t 0 with | true => none | false => none) | false => (match Nat.ble t 2 with | true => none | false => none)) | false => (match Nat.ble t 5 with | true => (match Nat.ble t 4 with | true => none | false => none) | false => (match Nat.ble t 6 with | true => none | false => (match Nat.ble t 7 with | true => none | false => none)))) | false => (match Nat.ble t 12 with | true => (match Nat.ble t 10 with | true => (match Nat.ble t 9 with | true => some (false, [.str]) | false => none) | false => (match Nat.ble t 11 with | true => none | false => none)) | false => (match Nat.ble t 14 with | true => (match Nat.ble t 13 with | true => none | false => none) | false => (match Nat.ble t 15 with | true => none | false => (match Nat.ble t 16 with | true => none | false => none))))) | false => (match Nat.ble t 26 with | true => (match Nat.ble t 21 with | true => (match Nat.ble t 19 with | true => (match Nat.ble t 18 with | true => none | false => none) | false => (match Nat.ble t 20 with | true => none | false => none)) | false => (match Nat.ble t 23 with | true => (match Nat.ble t 22 with | true => none | false => none) | false => (match Nat.ble t 24 with | true => none | false => (match Nat.ble t 25 with | true => none | false => none)))) | false => (match Nat.ble t 31 with | true => (match Nat.ble t 28 with | true => (match Nat.ble t 27 with | true => none | false => none) | false => (match Nat.ble t 29 with | true => none | false => (match Nat.ble t 30 with | true => none | false => none))) | false => (match Nat.ble t 33 with | true => (match Nat.ble t 32 with | true => none | false => none) | false => (match Nat.ble t 34 with | true => none | false => (match Nat.ble t 35 with | true => none | false => none)))))) | false => (match Nat.ble t 54 with | true => (match Nat.ble t 45 with | true => (match Nat.ble t 40 with | true => (match Nat.ble t 38 with | true => (match Nat.ble t 37 with | true => none | false => none) | false => (match Nat.ble t 39 with | true => none | false => none)) | false => (match Nat.ble t 42 with | true => (match Nat.ble t 41 with | true => none | false => none) | false => (match Nat.ble t 43 with | true => none | false => (match Nat.ble t 44 with | true => none | false => none)))) | false => (match Nat.ble t 49 with | true => (match Nat.ble t 47 with | true => (match Nat.ble t 46 with | true => none | false => none) | false => (match Nat.ble t 48 with | true => none | false => none)) | false => (match Nat.ble t 51 with | true => (match Nat.ble t 50 with | true => none | false => none) | false => (match Nat.ble t 52 with | true => none | false => (match Nat.ble t 53 with | true => none | false => none))))) | false => (match Nat.ble t 63 with | true => (match Nat.ble t 58 with | true => (match Nat.ble t 56 with | true => (match Nat.ble t 55 with | true => none | false => none) | false => (match Nat.ble t 57 with | true => none | false => none)) | false => (match Nat.ble t 60 with | true => (match Nat.ble t 59 with | true => none | false => none) | false => (match Nat.ble t 61 with | true => none | false => (match Nat.ble t 62 with | true => none | false => none)))) | false => (match Nat.ble t 68 with | true => (match Nat.ble t 65 with | true => (match Nat.ble t 64 with | true => none | false => none) | false => (match Nat.ble t 66 with | true => none | false => (match Nat.ble t 67 with | true => none | false => none))) | false => (match Nat.ble t 70 with | true => (match Nat.ble t 69 with | true => none | false => none) | false => (match Nat.ble t 71 with | true => none | false => (match Nat.ble t 72 with | true => none | false => none))))))) | false => (match Nat.ble t 110 with | true => (match Nat.ble t 91 with | true => (match Nat.ble t 82 with | true => (match Nat.ble t 77 with | true => (match Nat.ble t 75 with | true => (match Nat.ble t 74 with | true => none | false => none) | false => (match Nat.ble t 76 with | true => none | false => none)) | false => (match Nat.ble t 79 with | true => (match Nat.ble t 78 with | true => none | false => none) | false => (match Nat.ble t 80 with | true => none | false => (match Nat.ble t 81 with | true => none | false => none)))) | false => (match Nat.ble t 86 with | true => (match Nat.ble t 84 with | true => (match Nat.ble t 83 with | true => none | false => none) | false => (match Nat.ble t 85 with | true => none | false => none)) | false => (match Nat.ble t 88 with | true => (match Nat.ble t 87 with | true => none | false => none) | false => (match Nat.ble t 89 with | true => none | false => (match Nat.ble t 90 with | true => none | false => none))))) | false => (match Nat.ble t 100 with | true => (match Nat.ble t 95 with | true => (match Nat.ble t 93 with | true => (match Nat.ble t 92 with | true => none | false => none) | false => (match Nat.ble t 94 with | true => none | false => none)) | false => (match Nat.ble t 97 with | true => (match Nat.ble t 96 with | true => none | false => none) | false => (match Nat.ble t 98 with | true => none | false => (match Nat.ble t 99 with | true => none | false => none)))) | false => (match Nat.ble t 105 with | true => (match Nat.ble t 102 with | true => (match Nat.ble t 101 with | true => none | false => none) | false => (match Nat.ble t 103 with | true => none | false => (match Nat.ble t 104 with | true => none | false => none))) | false => (match Nat.ble t 107 with | true => (match Nat.ble t 106 with | true => none | false => none) | false => (match Nat.ble t 108 with | true => none | false => (match Nat.ble t 109 with | true => none | false => none)))))) | false => (match Nat.ble t 128 with | true => (match Nat.ble t 119 with | true => (match Nat.ble t 114 with | true => (match Nat.ble t 112 with | true => (match Nat.ble t 111 with | true => none | false => none) | false => (match Nat.ble t 113 with | true => none | false => none)) | false => (match Nat.ble t 116 with | true => (match Nat.ble t 115 with | true => none | false => none) | false => (match Nat.ble t 117 with | true => none | false => (match Nat.ble t 118 with | true => none | false => none)))) | false => (match Nat.ble t 123 with | true => (match Nat.ble t 121 with | true => (match Nat.ble t 120 with | true => none | false => none) | false => (match Nat.ble t 122 with | true => none | false => none)) | false => (match Nat.ble t 125 with | true => (match Nat.ble t 124 with | true => none | false => none) | false => (match Nat.ble t 126 with | true => none | false => (match Nat.ble t 127 with | true => none | false => none))))) | false => (match Nat.ble t 137 with | true => (match Nat.ble t 132 with | true => (match Nat.ble t 130 with | true => (match Nat.ble t 129 with | true => none | false => none) | false => (match Nat.ble t 131 with | true => none | false => none)) | false => (match Nat.ble t 134 with | true => (match Nat.ble t 133 with | true => none | false => none) | false => (match Nat.ble t 135 with | true => none | false => (match Nat.ble t 136 with | true => none | false => none)))) | false => (match Nat.ble t 142 with | true => (match Nat.ble t 139 with | true => (match Nat.ble t 138 with | true => none | false => none) | false => (match Nat.ble t 140 with | true => none | false => (match Nat.ble t 141 with | true => none | false => none))) | false => (match Nat.ble t 144 with | true => (match Nat.ble t 143 with | true => none | false => none) | false => (match Nat.ble t 145 with | true => none | false => (match Nat.ble t 146 with | true => none | false => none)))))))) | false => none
def tab : Tab := { sh := tabSh, size := tabSize, zero := tabZero, bytes := tabBytes, flat := tabFlat, key := tabKey, globs := [] }
theorem tabOK : TabOK Try.prog tab := by
  refine tabOK_of 148 (by kernel_rfl) (fun t ht => ?_)
  have h : Nat.ble t 147 = false := by
    cases e : Nat.ble t 147
    · rfl
    · have := Nat.le_of_ble_eq_true e; omega
  exact ⟨by simp only [tab, tabSh, h], by simp only [tab, tabZero, h], by simp only [tab, tabFlat, h], by simp only [tab, tabKey, h]⟩
theorem mixed : Try.prog.follows .mixedOrders = true := by kernel_rfl
end Go.Proofs.Ytillkgjdbnjnoaa
/- What comes in, told to the engine; package variables; from a contract to a row's walk. Conditions: none. -/
set_option linter.unusedVariables false
set_option linter.unusedSimpArgs false
namespace Go.Sx
open Go
/-- A contract about what came in to be looked at, as a call. -/
theorem Does.callsS {P : Program} {T : Tab} {g : FuncId} {args : List SV} {r : SV} {vs : List Value} {w : World} {η0 : Env} {S : Hps} {k : Nat} (hk : η0.length = k) (sp : Does P T g k args [] S (ValK k r)) (eg : ∀ args w, (callFunc g args).run P w = .ok (.enter g args) w) (hd : DenL η0 args vs)
    (hs : ∀ p ∈ S, HpSat η0 w false (.loc p.1) p.2) (he : ∀ (i : Nat) (e : Ent), η0[i]? = some (some e) → e.g < w.heap.size)
    (hg : ∀ g h, lkp g T.globs = some h → HpSat [] w false (.glob g) h ∧ g < w.heap.size) :
    Calls P g ⟨vs⟩ w fun e w' => ∃ v η', e = .returned v ∧ Den η' r v ∧ FrW w w' fun _ => False := by
  have hmem : ∀ {S : Hps} {i : Nat} {h : Hp}, lkpB (.loc i) (shB S) = some h → (i, h) ∈ S := by
    intro S
    induction S with
    | nil => intro i h hh; simp [shB, lkpB] at hh
    | cons p S ih =>
      intro i h hh
      obtain ⟨j, h'⟩ := p
      simp only [shB, List.map_cons, lkpB, blkEq] at hh
      cases hb : Nat.beq i j with
      | true =>
        rw [hb] at hh
        have := beq_eq hb
        subst this
        injection hh with hh
        subst hh
        exact List.mem_cons_self ..
      | false =>
        rw [hb] at hh
        exact List.mem_cons_of_mem _ (ih hh)
  have hpl : ∀ g h, lkp g T.globs = some h → plainH h = true := by
    intro g h hh
    have := lkp_mem hh
    exact List.all_eq_true.1 T.gplain _ this
  have H : HeapOK ⟨P, ⟨T, 0, shB S, none⟩, w, fun _ => False, η0⟩ η0 w [] k := ⟨List.prefix_rfl, hk, ⟨fun i h hi => by simp [lkp] at hi, fun i j h h' n hi => by simp [lkp] at hi⟩, FrW.refl _ _, fun b h hb => by
    cases b with
    | loc i =>
      exact ⟨hs _ (hmem hb), fun n f => ⟨(hs _ (hmem hb)).feet_lt f, fun h => h⟩⟩
    | glob g =>
      obtain ⟨h1, h2⟩ := hg g h hb
      exact ⟨h1.plain (hpl g h hb), fun n f => ⟨(h1.plain (η' := η0) (hpl g h hb)).feet_lt f, fun h => h⟩⟩⟩
  have hF : (fun _ => False : Nat → Prop) = blocksOf η0 w [] := by
    funext n; simp [blocksOf, lkp]
  rcases sp.out ⟨P, ⟨T, 0, shB S, none⟩, w, fun _ => False, η0⟩ vs rfl rfl hF rfl H hd with ⟨g', h1, h2⟩ | ⟨v, w', h1, _⟩
  · rw [eg] at h1
    injection h1 with h1 _
    injection h1 with h1 _
    subst h1
    refine h2.mono fun e w' hee => ?_
    obtain ⟨v, rfl, r', O', nx', η', ⟨rfl, rfl, rfl⟩, _, h4, h5⟩ := hee
    exact ⟨v, η', rfl, h5, h4.fr⟩
  · rw [eg] at h1; cases h1
end Go.Sx
namespace Go.Our
open Go.RowKit Go.ChangeShapes Go.WideShapes Go.ChangeAt Go.Sx
section
variable {H : Type} {enc : TypeId × Value → H} {P : Program} {w : World}
/-- A slice that came in: what the engine may say of it. -/
def SliceIn (w : World) (v : Value) (es : Nat) (rs : List (List SV)) (en : Option Ent) : Prop :=
  (∀ x, en = some x → x.g < w.heap.size) ∧ ∀ (η : Env) (i : Nat), η[i]? = some en → Den η (.sl (.loc i) 0 es rs.length none) v ∧ HpSat η w false (.loc i) (.rows es rs)
theorem cell_of_cells {base : Nat} {a : Addr} {n : Nat} {cs : List Value} (h : w.cells? base a n = some cs) : cs.length = n ∧ ∀ j, j < n → w.cell? (a.add j) = cs[j]? := ⟨(World.cells?_some h).2.1, (World.cells?_some h).2.2⟩
theorem slice_in {α : Type} {t e : TypeId} {es : Nat} {v : Value} {d : DataW H} {p : List MemPlace} {r : Reach} {b0 : Nat} (cellsL : α → List Value) (dat : α → DataW H) (row : α → List SV) (hes : 0 < es)
    (hlen : ∀ a, (cellsL a).length = es ∧ (row a).length = es) (hrow : ∀ (η : Env) (a : α) (j : Nat) (sv : SV), (row a)[j]? = some sv → ∃ u, (cellsL a)[j]? = some u ∧ u.oneCell' = true ∧ Den η sv u)
    (ht : P.underlying t = some (.slice e)) (hc : P.cellsOf e = es) (el : ∀ fuel cs (x : DataW H × List MemPlace), DataW.trod enc P w 0 (fun _ => true) true fuel e cs = some x → ∃ a : α, cs = cellsL a ∧ x = (dat a, []))
    (ho : Value.okWide P w r b0 t v) (h : DataW.Trod enc P w 0 (fun _ => true) true t v d p) :
    ∃ (l : List α) (en : Option Ent), SliceIn w v es (l.map row) en ∧ ((l = [] ∧ d = .nil) ∨ ∃ z : List α, d = .slice (l.map dat) (z.map dat)) := by
  obtain ⟨fuel, hf⟩ := h
  obtain ⟨a0, l0, c0, rfl⟩ := okWide_slice ht ho
  have hcells : (Value.slice a0 l0 c0).cells.toList = [Value.slice a0 l0 c0] := rfl
  rw [hcells] at hf
  rcases DataW.trod_slice ht hf with ⟨hcs, hx⟩ | ⟨a, len, cap, elems, rest, n, _, hcs, hx, hb, hl, hm, hlen2, hel, hsp, hns⟩
  · injection hcs with hcs _
    injection hx with hx _
    injection hcs with h1 h2 h3
    subst h1 h2 h3 hx
    refine ⟨[], none, ⟨fun x hx => (by cases hx), fun η i hi => ?_⟩, .inl ⟨rfl, rfl⟩⟩
    refine ⟨?_, ?_⟩
    · unfold Den; exact .inl ⟨hi, rfl, rfl⟩
    · unfold HpSat; exact .inl ⟨hi, rfl⟩
  · injection hcs with hcs _
    injection hx with hx _
    injection hcs with h1 h2 h3
    subst h1 h2 h3
    simp only [Value.okWide, ht, Cell.okWide, Cell.ok] at ho
    obtain ⟨_, _, _, hspot, rw', cl, hsh, _⟩ := ho
    obtain ⟨ab, ao, asp⟩ := a
    simp only at hspot hsh
    subst hspot
    obtain ⟨arr, T, fz, hheap⟩ : ∃ arr T fz, w.heap[ab]? = some (.cells arr T fz) := by
      unfold World.shape? at hsh
      split at hsh
      · rename_i c e' f' hh; exact ⟨_, _, _, hh⟩
      · cases hsh
    -- each element
    have each : ∀ (i : Nat) y, (elems ++ rest)[i]? = some y → ∃ x : α, y = (dat x, []) ∧ ∀ j, j < es → w.cell? ⟨ab, ao + i * es + j, none⟩ = (cellsL x)[j]? := by
      intro i y hy
      have hb' : (w.cells? 0 ((⟨ab, ao, none⟩ : Addr).add (i * P.cellsOf e)) (P.cellsOf e)).bind (DataW.trod enc P w 0 (fun _ => true) true n e) = some y := by
        by_cases hi : i < l0
        · rw [hel i hi, ← hy, List.getElem?_append_left (by omega)]
        · obtain ⟨hrl, hr⟩ := hsp rfl
          have hlt := (List.getElem?_eq_some_iff.1 hy).1
          simp only [List.length_append] at hlt
          have := hr (i - l0) (by omega)
          rw [show l0 + (i - l0) = i by omega] at this
          rw [this, ← hy, List.getElem?_append_right (by omega), hlen2]
      obtain ⟨cs', hcs', hy'⟩ := Option.bind_eq_some_iff.1 hb'
      obtain ⟨x, rfl, rfl⟩ := el _ _ _ hy'
      refine ⟨x, rfl, fun j hj => ?_⟩
      rw [hc] at hcs'
      rw [← (cell_of_cells hcs').2 j hj]
      congr 1
      unfold Addr.add
      split <;> split <;> simp_all <;> omega
    have list : ∀ (ys : List (DataW H × List MemPlace)) (k : Nat), (∀ i y, ys[i]? = some y → (elems ++ rest)[k + i]? = some y) → ∃ xs : List α, ys.map (·.1) = xs.map dat ∧ xs.length = ys.length ∧ ∀ (i : Nat) x, xs[i]? = some x → ∀ j, j < es → w.cell? ⟨ab, ao + (k + i) * es + j, none⟩ = (cellsL x)[j]? := by
      intro ys
      induction ys with
      | nil => intro k _; exact ⟨[], rfl, rfl, fun i x hx => by simp at hx⟩
      | cons y ys ih =>
        intro k hk
        obtain ⟨x, hx1, hx2⟩ := each (k + 0) y (hk 0 y rfl)
        obtain ⟨xs, h1, h2, h3⟩ := ih (k + 1) fun i y' hy' => by rw [show k + 1 + i = k + (i + 1) by omega]; exact hk (i + 1) y' (by simpa using hy')
        refine ⟨x :: xs, by simp [h1, hx1], by simp [h2], fun i z hz j hj => ?_⟩
        cases i with
        | zero => simp at hz; subst hz; exact hx2 j hj
        | succ i => simp at hz; rw [show k + (i + 1) = k + 1 + i by omega]; exact h3 i z hz j hj
    obtain ⟨xs, h1, h2, h3⟩ := list elems 0 fun i y hy => by rw [Nat.zero_add, List.getElem?_append_left (List.getElem?_eq_some_iff.1 hy).1]; exact hy
    obtain ⟨zs, h4, _, _⟩ := list rest elems.length fun i y hy => by rw [List.getElem?_append_right (by omega)]; simpa using hy
    refine ⟨xs, some ⟨ab, ao, c0⟩, ⟨fun x hx => ?_, fun η i hi => ⟨?_, ?_⟩⟩, .inr ⟨zs, by rw [hx, h1, h4]⟩⟩
    · injection hx with hx; subst hx; exact (Array.getElem?_eq_some_iff.1 hheap).1
    · simp only [Den, Env.get]
      refine .inr ⟨⟨ab, ao, c0⟩, ao, hi, ?_, ?_, Nat.le_refl _, fun _ => by simp⟩
      · simp only [Option.getD_none, Nat.sub_zero, List.length_map, h2, hlen2]
      · simp only [Option.getD_none, List.length_map, h2, hlen2]; omega
    · simp only [HpSat, Env.get]
      refine .inr ⟨⟨ab, ao, c0⟩, arr, T, fz, hi, hheap, fun h => (by cases h), fun k rw1 hk => ?_⟩
      rw [List.getElem?_map] at hk
      obtain ⟨x, hx, rfl⟩ := Option.map_eq_some_iff.1 hk
      refine ⟨(hlen x).2, fun j sv hj => ?_⟩
      obtain ⟨u, hu1, hu2, hu3⟩ := hrow η x j sv hj
      have hj2 : j < es := by rw [← (hlen x).2]; exact (List.getElem?_eq_some_iff.1 hj).1
      have := h3 k x hx j hj2
      rw [Nat.zero_add, hu1] at this
      unfold World.cell? at this
      simp only [hheap] at this
      exact ⟨u, by simpa using this, hu2, hu3⟩
end
theorem SliceIn.den {α : Type} {W : World} {v : Value} {es : Nat} {l : List α} {row : α → List SV} {en : Option Ent} (h : SliceIn W v es (l.map row) en) {η : Env} {i : Nat} (hi : η[i]? = some en) : Den η (.sl (.loc i) 0 es l.length none) v := by
  have := (h.2 η i hi).1; rwa [List.length_map] at this
theorem SliceIn.sat {W : World} {v : Value} {es : Nat} {rs : List (List SV)} {en : Option Ent} (h : SliceIn W v es rs en) {η : Env} {i : Nat} (hi : η[i]? = some en) : HpSat η W false (.loc i) (.rows es rs) := (h.2 η i hi).2
end Go.Our
namespace Go.Proofs.Ytillkgjdbnjnoaa
open Go.RowKit Go.Our Go.ChangeShapes Go.WideShapes Go.ChangeAt Go.Sx
/-- What the walk takes for granted of the package variables. -/
abbrev GlobOK (W : World) : Prop := ∀ g h, lkp g tab.globs = some h → HpSat [] W false (.glob g) h ∧ g < W.heap.size
/-- A law that answers true, whatever came in. -/
theorem law_callsS {g : FuncId} {args : List SV} {vs : List Value} {W : World} {η0 : Env} {S : Hps} {k : Nat} (hk : η0.length = k) (sp : Does Try.prog tab g k args [] S (ValK k (.bool true))) (eg : ∀ args w, (callFunc g args).run Try.prog w = .ok (.enter g args) w) (hd : DenL η0 args vs)
    (hs : ∀ p ∈ S, HpSat η0 W false (.loc p.1) p.2) (he : ∀ (i : Nat) (e : Ent), η0[i]? = some (some e) → e.g < W.heap.size) (hg : GlobOK W) :
    Calls Try.prog g ⟨vs⟩ W fun e W' => e = .returned (.bool true) ∧ Below W.heap.size W W' := by
  refine (sp.callsS hk eg hd hs he hg).mono fun e W' ⟨v, η', he, hv, hf⟩ => ?_
  simp only [Den] at hv
  subst hv
  exact ⟨he, hf.os, hf.tape, hf.output, hf.size, fun k hk => hf.block k hk fun h => h⟩
theorem law_calls2 {g : FuncId} {args : List SV} {vs : List Value} {W : World} {v v' : Value} {es es' : Nat} {rs rs' : List (List SV)} {en en' : Option Ent} (h : SliceIn W v es rs en) (h' : SliceIn W v' es' rs' en') (sp : Does Try.prog tab g 2 args [] [(0, .rows es rs), (1, .rows es' rs')] (ValK 2 (.bool true))) (eg : ∀ args w, (callFunc g args).run Try.prog w = .ok (.enter g args) w) (hd : DenL [en, en'] args vs) (hg : GlobOK W) :
    Calls Try.prog g ⟨vs⟩ W fun e W' => e = .returned (.bool true) ∧ Below W.heap.size W W' := by
  refine law_callsS (η0 := [en, en']) rfl sp eg hd (fun p hp => ?_) (fun i e hi => ?_) hg
  · rcases List.mem_cons.1 hp with rfl | hp
    · exact h.sat rfl
    · have hp := List.mem_singleton.1 hp
      subst hp; exact h'.sat rfl
  · match i, hi with
    | 0, hi => injection hi with hi; exact h.1 e hi
    | 1, hi => injection hi with hi; exact h'.1 e hi
end Go.Proofs.Ytillkgjdbnjnoaa
/- From one state of a walk to another that says less; numbers within bounds; words for scripts. Conditions: none. -/
set_option linter.unusedVariables false
set_option linter.unusedSimpArgs false
namespace Go.Sx
open Go

/-! ### The same names -/
section
variable {σ : Nat → Nat}
theorem renB_id (h : ∀ j, σ j = j) : ∀ b, renB σ b = b
  | .glob g => rfl
  | .loc i => by simp only [renB, h]
mutual
theorem ren_id (h : ∀ j, σ j = j) : ∀ v, ren σ v = v
  | .bool _ => rfl
  | .int _ _ => rfl
  | .str _ => rfl
  | .val _ => rfl
  | .any => rfl
  | .nb _ => rfl
  | .dfs l => by simp only [ren, renL_id h l]
  | .yf b => by simp only [ren, renB_id h]
  | .mp b => by simp only [ren, renB_id h]
  | .ptr b _ _ _ => by simp only [ren, renB_id h]
  | .sl b _ _ _ _ => by simp only [ren, renB_id h]
  | .agg cs => by simp only [ren, renL_id h cs]
  | .arr _ rs => by simp only [ren, renLL_id h rs]
  | .tup vs => by simp only [ren, renL_id h vs]
  | .ifc _ v => by simp only [ren, ren_id h v]
  | .fn _ a b => by simp only [ren, renL_id h a, renL_id h b]
theorem renL_id (h : ∀ j, σ j = j) : ∀ vs, renL σ vs = vs
  | [] => rfl
  | c :: cs => by simp only [renL, ren_id h c, renL_id h cs]
theorem renLL_id (h : ∀ j, σ j = j) : ∀ vs, renLL σ vs = vs
  | [] => rfl
  | c :: cs => by simp only [renLL, renL_id h c, renLL_id h cs]
end
theorem renF_id (h : ∀ j, σ j = j) : ∀ fr, renF σ fr = fr
  | [] => rfl
  | (t, v) :: r => by simp only [renF, ren_id h v, renF_id h r]
theorem renH_id (h : ∀ j, σ j = j) : ∀ hp, renH σ hp = hp
  | .box _ => by simp only [renH, renL_id h]
  | .rows _ _ => by simp only [renH, renLL_id h]
  | .siter _ _ => rfl
  | .bld _ _ _ => rfl
  | .dfr => rfl
  | .lp _ _ fr => by simp only [renH, renF_id h]
  | .mp _ => by simp only [renH, renLL_id h]
end

/-! ### A state cut down -/
def CutFr (m : Nat) (fr : Fr) : Fr → Prop
  | [] => True
  | (t, v) :: r => (lkp t fr = some v ∧ below m v = true) ∧ CutFr m fr r
def CutO (m : Nat) (O : Hps) : Hps → Prop
  | [] => True
  | (i, h) :: r => (lkp i O = some h ∧ Nat.blt i m = true ∧ belowH m h = true) ∧ CutO m O r
theorem CutFr.at {m : Nat} {fr : Fr} : ∀ {fr' : Fr}, CutFr m fr fr' → ∀ t v, lkp t fr' = some v → lkp t fr = some v ∧ below m v = true
  | [], _, t, v, h => by simp [lkp] at h
  | (d, u) :: r, hs, t, v, h => by
    rw [lkp_cons] at h
    split at h
    · rename_i e; subst e; injection h with h; subst h; exact hs.1
    · exact CutFr.at hs.2 t v h
theorem CutO.at {m : Nat} {O : Hps} : ∀ {O' : Hps}, CutO m O O' → ∀ i h, lkp i O' = some h → lkp i O = some h ∧ i < m ∧ belowH m h = true
  | [], _, t, v, h => by simp [lkp] at h
  | (d, u) :: r, hs, t, v, h => by
    rw [lkp_cons] at h
    split at h
    · rename_i e; subst e; injection h with h; subst h
      exact ⟨hs.1.1, by simpa [Nat.blt_eq] using hs.1.2.1, hs.1.2.2⟩
    · exact CutO.at hs.2 t v h
variable {M : Mx} {fr fr' : Fr} {O O' : Hps} {nx : Nat}
theorem GOES.cut {k : Nat} (m : Nat) (hk : M.η0.length = k) (hkm : Nat.ble k m = true) (hmn : Nat.ble m nx = true) (hf : CutFr m fr fr') (hO : CutO m O O') (hd : dsSame fr fr' = true := by rfl) (hro : roSame M.C.ro id m = true := by rfl) : GOES M fr O nx fr' O' m := by
  have hkm := Nat.le_of_ble_eq_true hkm
  have hmn := Nat.le_of_ble_eq_true hmn
  refine ⟨fun η a w hm => ?_⟩
  have hid : ∀ j : Nat, id j = j := fun _ => rfl
  have hbwd : Bwd η (η.take m) id m := fun i x hi hx => by
    simp only [id] at hx
    rw [List.getElem?_take, if_pos hi]; exact hx
  have hlen : (η.take m).length = m := by rw [List.length_take, hm.heap.len]; omega
  refine ⟨η.take m, ⟨?_, hlen, ⟨fun i h hi => ?_, fun i j h h' n hi hj hij f f' => ?_⟩, hm.heap.fr, hm.heap.sok⟩, hm.size, hm.nds, hm.defers.goes hbwd hd (fun v hv => by rw [ren_id hid]; exact hf.at DS v hv), fun l j hj => ?_, fun t v ht => ?_⟩
  · obtain ⟨t, ht⟩ := hm.heap.pre
    refine ⟨t.take (m - k), ?_⟩
    rw [← ht, List.take_append, hk, List.take_of_length_le (l := M.η0) (by omega)]
  · obtain ⟨h1, h2, h3⟩ := hO.at i h hi
    refine ⟨HpSat.unren hbwd h2 h3 ?_, fun n f => (hm.heap.own.1 i h h1).2 n (f.mono (List.take_prefix m η))⟩
    rw [renH_id hid]; exact (hm.heap.own.1 i h h1).1
  · obtain ⟨h1, h2, h3⟩ := hO.at i h hi
    obtain ⟨h4, h5, h6⟩ := hO.at j h' hj
    exact hm.heap.own.2 i j h h' n h1 h4 hij (f.mono (List.take_prefix m η)) (f'.mono (List.take_prefix m η))
  · obtain ⟨h4, _⟩ := roSame_at hro hj
    obtain ⟨e, h6, h7⟩ := hm.ro l j hj
    exact ⟨e, hbwd j _ h4 h6, h7⟩
  · obtain ⟨h1, h2⟩ := hf.at t v ht
    exact Den.unren hbwd h2 (by rw [ren_id hid]; exact hm.frame t v h1)
/-- The same, as a reduction lays it out. -/
def cutK (fr : Fr) : Fr → Prop
  | [] => True
  | (t, v) :: r => match lkp t fr with
    | some u => u = v ∧ cutK fr r
    | none => False
def cutOK (O : Hps) : Hps → Prop
  | [] => True
  | (i, h) :: r => match lkp i O with
    | some g => g = h ∧ cutOK O r
    | none => False
def belowFr (m : Nat) : Fr → Bool
  | [] => true
  | (_, v) :: r => below m v && belowFr m r
def belowO (m : Nat) : Hps → Bool
  | [] => true
  | (i, h) :: r => Nat.blt i m && (belowH m h && belowO m r)
theorem cutK_fr {m : Nat} {fr : Fr} : ∀ {fr' : Fr}, cutK fr fr' → belowFr m fr' = true → CutFr m fr fr'
  | [], _, _ => trivial
  | (t, v) :: r, h, b => by
    simp only [cutK] at h
    simp only [belowFr, Bool.and_eq_true] at b
    split at h
    · rename_i u hu
      obtain ⟨rfl, h⟩ := h
      exact ⟨⟨hu, b.1⟩, cutK_fr h b.2⟩
    · exact h.elim
theorem cutOK_o {m : Nat} {O : Hps} : ∀ {O' : Hps}, cutOK O O' → belowO m O' = true → CutO m O O'
  | [], _, _ => trivial
  | (t, v) :: r, h, b => by
    simp only [cutOK] at h
    simp only [belowO, Bool.and_eq_true] at b
    split at h
    · rename_i u hu
      obtain ⟨rfl, h⟩ := h
      exact ⟨⟨hu, b.1, b.2.1⟩, cutOK_o h b.2.2⟩
    · exact h.elim
theorem GOES.cutting {k m : Nat} (hk : M.η0.length = k) (hkm : Nat.ble k m = true) (hmn : Nat.ble m nx = true) (hbf : belowFr m fr' = true) (hbo : belowO m O' = true) (hf : cutK fr fr') (hO : cutOK O O') (hd : dsSame fr fr' = true := by rfl) (hro : roSame M.C.ro id m = true := by rfl) : GOES M fr O nx fr' O' m :=
  GOES.cut m hk hkm hmn (cutK_fr hf hbf) (cutOK_o hO hbo) hd hro
theorem GOES.trans {fr2 : Fr} {O2 : Hps} {n1 n2 : Nat} (h : GOES M fr O nx fr' O' n1) (k : GOES M fr' O' n1 fr2 O2 n2) : GOES M fr O nx fr2 O2 n2 :=
  ⟨fun η a w hm => let ⟨η1, h1⟩ := h.out η a w hm; k.out η1 a w h1⟩
/-- The empty slice, by a name of its own. -/
theorem GOES.nil (t es : Nat) (h0 : lkp t fr = some (.val (.slice none 0 0))) : GOES M fr O nx ((t, .sl (.loc nx) 0 es 0 none) :: fr) ((nx, .rows es []) :: O) (nx + 1) := by
  refine ⟨fun η a w hm => ?_⟩
  have hpre : η <+: η ++ [none] := List.prefix_append _ _
  have hnew : (η ++ [none])[nx]? = some none := by rw [List.getElem?_append_right (by rw [hm.heap.len]; omega), hm.heap.len]; simp
  refine ⟨η ++ [none], hm.heap.push none (fun _ _ => rfl) (Nat.le_refl _) rfl rfl rfl (Nat.le_refl _) (.inl ⟨hnew, rfl⟩) (fun k f => (feet.none (b := .loc nx) hnew f).elim) (fun k f => (feet.none (b := .loc nx) hnew f).elim), hm.size, hm.nds, ?_, ro_mono hpre hm.ro, fun u v hu => ?_⟩
  · have hdf := hm.defers.mono hpre
    rw [lkp_cons]
    split
    · rename_i e
      rw [e, h0, DfOK.no rfl] at hdf
      rw [DfOK.no rfl]; exact hdf
    · exact hdf
  · rw [lkp_cons] at hu
    split at hu
    · rename_i e; subst e; injection hu with hu; subst hu
      have := hm.frame u _ h0
      simp only [Den] at this ⊢
      exact .inl ⟨hnew, this.1, trivial⟩
    · exact Den.mono hpre (hm.frame u v hu)
theorem LOOP.goes {body : Code} {Q : Post} {n1 : Nat} (h : GOES M fr O nx fr' O' n1) (k : LOOP M body fr' O' n1 Q) : LOOP M body fr O nx Q :=
  ⟨fun η a w hm => let ⟨η1, h1⟩ := h.out η a w hm; k.out η1 a w h1⟩
theorem LOOP.nil {body : Code} {Q : Post} (t es : Nat) (h0 : lkp t fr = some (.val (.slice none 0 0))) (k : LOOP M body ((t, .sl (.loc nx) 0 es 0 none) :: fr) ((nx, .rows es []) :: O) (nx + 1) Q) : LOOP M body fr O nx Q := LOOP.goes (GOES.nil t es h0) k

/-! ### Ends with a new slice -/
theorem FIN.rows {k : Nat} {r : SV} {Q : SV → Hps → Nat → Prop} (hk : M.η0.length = k) (i es len : Nat) {rs : List (List SV)} (hr : r = .sl (.loc i) 0 es len none) (hO : lkp i O = some (.rows es rs)) (hi : Nat.blt i nx = true) (hp : plainLL rs = true)
    (hQ : Q (.sl (.loc k) 0 es len none) [(k, .rows es rs)] (k + 1)) : FIN M O nx r Q := by
  have hi : i < nx := by simpa [Nat.blt_eq] using hi
  have hf : fname k [i] k = i := by simp [fname]
  refine FIN.keep hk [i] (rc := .sl (.loc k) 0 es len none) (Oc := [(k, .rows es rs)]) (fun j hj => by simp at hj; omega) (by rw [hr]; simp only [ren, renB, hf]) (by simp [below, belowB, Nat.blt_eq]) ?_ ?_ hQ
  · intro p hp'
    simp only [List.mem_singleton] at hp'
    subst hp'
    refine ⟨by simp, ?_, by simp only [belowH, plainLL_below _ hp]⟩
    simp only [renH, hf, renLL_plain _ hp, hO]
  · intro j hj j' hj' _
    simp [namesOf] at hj hj'
    omega

/-- A new slice of bytes, and nothing else. -/
def NewBytes (k : Nat) (l : List UInt8) : SV → Hps → Nat → Prop := fun r O nx => r = .sl (.loc k) 0 1 l.length none ∧ O = [(k, .rows 1 (l.map bytesRow))] ∧ nx = k + 1
theorem plainBytes (l : List UInt8) : plainLL (l.map bytesRow) = true := plainLL_map _ (fun _ => rfl) l
theorem cname_ge {L : List Nat} {nx k : Nat} (hL : L.length = k) : cname L nx k = nx := by simp [cname, hL]
theorem CALL.bytes {f : FuncId} {args : List SV} {K : SV → Hps → Nat → Prop} {l : List UInt8} (sp : Does M.P M.C.T f 0 args [] [] (NewBytes 0 l)) (hp : plainL args = true)
    (hK : K (.sl (.loc nx) 0 1 l.length none) ((nx, .rows 1 (l.map bytesRow)) :: O) (nx + 1)) : CALL M f args O nx K := by
  refine CALL.of [] sp rfl (fun i hi => by cases hi) (renL_plain _ hp).symm (plainL_below 0 hp) (fun p hp => by cases hp) (fun j hj => by cases hj) (fun p hp => by cases hp) ?_
  rintro r' O' nx' ⟨rfl, rfl, rfl⟩
  simp only [ren, renB, renO, renH, renLL_plain _ (plainBytes l), cname_ge (L := []) (nx := nx) (k := 0) rfl, namesOf, List.map_nil, outside_nil, List.cons_append, List.nil_append]
  exact hK
/-! ### Loops, told by what changes -/
/-- What stays of a frame. -/
def keepK : List Nat → Fr → (Fr → Prop) → Prop
  | [], fr, K => match lkp DS fr with
    | some v => K [(DS, v)]
    | none => K []
  | t :: ts, fr, K => match lkp t fr with
    | some v => keepK ts fr fun r => K ((t, v) :: r)
    | none => STOP "kept"
def appK : Fr → Fr → (Fr → Prop) → Prop
  | [], r, K => K r
  | (t, v) :: l, r, K => appK l r fun r => K ((t, v) :: r)
def appO : Hps → (Hps → Prop) → Prop
  | [], K => K []
  | (t, v) :: l, K => appO l fun r => K ((t, v) :: r)
theorem keepK_iff : ∀ {ts : List Nat} {fr : Fr} {K : Fr → Prop}, keepK ts fr K → ∃ r, K r
  | [], fr, K, h => by
    simp only [keepK] at h
    split at h
    · exact ⟨_, h⟩
    · exact ⟨_, h⟩
  | t :: ts, fr, K, h => by
    simp only [keepK] at h
    split at h
    · obtain ⟨r, hr⟩ := keepK_iff h; exact ⟨_, hr⟩
    · exact h.out.elim
theorem appK_iff : ∀ {l r : Fr} {K : Fr → Prop}, appK l r K ↔ K (l ++ r)
  | [], r, K => Iff.rfl
  | (t, v) :: l, r, K => by simp only [appK, List.cons_append, appK_iff]
theorem appO_iff : ∀ {l : Hps} {K : Hps → Prop}, appO l K ↔ K l
  | [], K => Iff.rfl
  | (t, v) :: l, K => by simp only [appO, appO_iff]
/-- A loop: of the frame stay the slots ks, and there is what chg tells of a tale x; the heap is Ox of it, by n0 names. -/
theorem LOOP.go {body : Code} {Q : Post} (hT : TabOK M.P M.C.T) (ks : List Nat) {X : Type} (P : X → Prop) (chg : X → Fr) (Ox : X → Hps) (n0 : Nat) (μ : X → Nat) (x0 : X) (hP : P x0)
    (h : keepK ks fr fun fr0 => (appK (chg x0) fr0 fun fr' => appO (Ox x0) fun O' => GOES M fr O nx fr' O' n0) ∧
      ∀ x, P x → appK (chg x) fr0 fun fr1 => appO (Ox x) fun O1 => run M body fr1 O1 n0 fun e fr O nx => match e with
        | .normal => ∃ x', P x' ∧ μ x' < μ x ∧ appK (chg x') fr0 fun fr' => appO (Ox x') fun O' => GOES M fr O nx fr' O' n0
        | e => Q e fr O nx) : LOOP M body fr O nx Q := by
  obtain ⟨fr0, h1, h2⟩ := keepK_iff h
  simp only [appK_iff, appO_iff] at h1 h2
  exact LOOP.inv hT P (fun x => (chg x ++ fr0, Ox x, n0)) μ x0 hP h1 h2

theorem GETG.at {rs : List (List SV)} {i : Nat} {g : Prop} {K : List SV → Prop} {row : List SV} (h : rs[i]? = some row) (k : K row) : GETG g rs i K := ⟨row, fun _ => h, k⟩

/-! ### Numbers within bounds -/
theorem wrap64 {a : Int} (h1 : -9223372036854775808 ≤ a) (h2 : a ≤ 9223372036854775807) : IntKind.i64.wrap a = a := IntWalk.i64_in _ ⟨by omega, by omega⟩
theorem wrap32 {a : Int} (h1 : -2147483648 ≤ a) (h2 : a ≤ 2147483647) : IntKind.i32.wrap a = a := IntWalk.i32_in _ ⟨by omega, by omega⟩
/-! ### What the walk's tests say in plain words: a row of rules under one name -/
theorem hsB : (∀ (p : Prop) [Decidable p], (decide p = true) = p) ∧ (∀ (p : Prop) [Decidable p], (decide p = false) ↔ ¬ p) ∧ (∀ b : Bool, (¬ b = true) = (b = false)) ∧ (∀ b : Bool, (¬ b = false) = (b = true)) ∧ (∀ a b : Bool, ((!a) = b) ↔ (a = !b)) ∧
    ((!true) = false) ∧ ((!false) = true) ∧ (∀ a b : Bool, ((a && b) = true) = (a = true ∧ b = true)) ∧ (∀ a b : Bool, ((a || b) = true) = (a = true ∨ b = true)) ∧ (∀ a b : Bool, ((a && b) = false) = (a = true → b = false)) ∧ (∀ a b : Bool, ((a || b) = false) = (a = false ∧ b = false)) ∧
    (∀ {α : Type} [BEq α] [LawfulBEq α] (a b : α), ((a != b) = true) ↔ a ≠ b) ∧ (∀ {α : Type} [BEq α] [LawfulBEq α] (a b : α), ((a != b) = false) ↔ a = b) ∧ (∀ {α : Type} [BEq α] [LawfulBEq α] (a b : α), ((a == b) = true) ↔ a = b) ∧ (∀ {α : Type} [BEq α] [LawfulBEq α] (a b : α), ((a == b) = false) ↔ a ≠ b) ∧
    (∀ {α : Type} (a b : α), (a ≠ b) = ¬ (a = b)) ∧ (∀ c : Bool, (bif c then c else false) = c) ∧ (∀ a b : Bool, (bif a then b else false) = (a && b)) ∧ (∀ a b : Bool, (bif a then true else b) = (a || b)) ∧ (∀ a b : Bool, (bif a then b else true) = (!a || b)) ∧ (∀ a b : Bool, (bif a then false else b) = (!a && b)) :=
  ⟨fun p _ => by simp, fun p _ => by simp, fun b => by simp, fun b => by simp, fun a b => by cases a <;> cases b <;> simp, rfl, rfl, fun a b => by simp, fun a b => by simp, fun a b => by simp, fun a b => by simp, fun a b => by simp, fun a b => by simp, fun a b => by simp, fun a b => by simp,
    fun a b => rfl, fun c => by cases c <;> rfl, fun a b => by cases a <;> rfl, fun a b => by cases a <;> rfl, fun a b => by cases a <;> rfl, fun a b => by cases a <;> rfl⟩
theorem hsC : (∀ a b : Int, (¬ a < b) ↔ b ≤ a) ∧ (∀ a b : Int, (¬ a ≤ b) ↔ b < a) ∧ (decide True = true) ∧ (decide False = false) ∧ (∀ {α : Type} (a b : α), (bif true then a else b) = a) ∧ (∀ {α : Type} (a b : α), (bif false then a else b) = b) ∧
    (∀ b : Bool, (true || b) = true) ∧ (∀ b : Bool, (b || true) = true) ∧ (∀ b : Bool, (false || b) = b) ∧ (∀ b : Bool, (b || false) = b) ∧ (∀ b : Bool, (true && b) = b) ∧ (∀ b : Bool, (b && true) = b) ∧ (∀ b : Bool, (false && b) = false) ∧ (∀ b : Bool, (b && false) = false) ∧
    (∀ p : Prop, (True ∨ p) = True) ∧ (∀ p : Prop, (p ∨ True) = True) ∧ (∀ p : Prop, (False ∨ p) = p) ∧ (∀ p : Prop, (p ∨ False) = p) ∧ (∀ p : Prop, (True ∧ p) = p) ∧ (∀ p : Prop, (p ∧ True) = p) ∧ (∀ p : Prop, (False ∧ p) = False) ∧ (∀ p : Prop, (p ∧ False) = False) ∧
    ((¬ True) = False) ∧ ((¬ False) = True) ∧ ((false = true) = False) ∧ ((true = false) = False) ∧ (∀ p q : Prop, (¬ (p ∨ q)) ↔ (¬ p ∧ ¬ q)) ∧ (∀ p q : Prop, (¬ (p ∧ q)) ↔ (p → ¬ q)) ∧ (∀ p : Prop, (¬ ¬ p) ↔ p) :=
  ⟨fun a b => Int.not_lt, fun a b => Int.not_le, by simp, by simp, fun a b => rfl, fun a b => rfl, fun b => by simp, fun b => by simp, fun b => by simp, fun b => by simp, fun b => by simp, fun b => by simp, fun b => by simp, fun b => by simp, fun p => by simp, fun p => by simp, fun p => by simp, fun p => by simp, fun p => by simp, fun p => by simp, fun p => by simp, fun p => by simp,
    by simp, by simp, by simp, by simp, fun p q => by simp, fun p q => by simp, fun p => Classical.not_not⟩
theorem lnB : (∀ {α : Type} (a : α) (l : List α), (a :: l).length = l.length + 1) ∧ (∀ {α : Type}, ([] : List α).length = 0) ∧ (∀ {α : Type} (a b : List α), (a ++ b).length = a.length + b.length) ∧ (∀ p : Prop, (True ∧ p) = p) ∧ (∀ p : Prop, (p ∧ True) = p) :=
  ⟨fun a l => rfl, rfl, fun a b => List.length_append, fun p => by simp, fun p => by simp⟩
/-- Room for what is appended: B is no less than an element's bytes. -/
theorem needApp {xs : List (List SV)} {m n k b : Nat} (B : Nat) (hb : Nat.ble b B = true) (hB : Nat.ble 1 B = true) (h1 : xs.length = m) (h2 : n ≤ k) (h3 : (n + m) * B ≤ 140737488355328) : xs.length = m ∧ n ≤ k ∧ n + m ≤ 9223372036854775807 ∧ (n + m) * b ≤ 140737488355328 := by
  have hb := Nat.le_of_ble_eq_true hb
  have hB := Nat.le_of_ble_eq_true hB
  refine ⟨h1, h2, ?_, Nat.le_trans (Nat.mul_le_mul_left _ hb) h3⟩
  have : n + m ≤ (n + m) * B := Nat.le_mul_of_pos_right _ hB
  omega
theorem le_reach {O : Hps} {b : Blk} {r len : Nat} {lim : Option Nat} {n : Nat} (h : n ≤ len) : (n : Int) ≤ (reach O b r len lim : Nat) := by
  have : len ≤ reach O b r len lim := by
    unfold reach
    split
    · exact Nat.le_refl _
    · split
      · exact Nat.le_max_left _ _
      · exact Nat.le_refl _
  omega
/-- The condition of an operation, shown at once. -/
theorem NEED.au {p K : Prop} (k : K) (h : p := by first | with_reducible rfl | omega | (simp (disch := omega) only [lnB, wrap64, wrap32] <;> omega) | (intro h; (try simp (disch := omega) only [hsB, hsC, lnB, wrap64, wrap32, simprocAttr] at h); (first | omega | (simp (disch := omega) only [lnB, wrap64, wrap32] <;> omega))) | (exact needApp 256 rfl rfl (by simp) (by simp) (by omega)) | (exact ⟨by omega, le_reach (by omega)⟩) | (exact ⟨by omega, by omega, le_reach (by omega)⟩) | (simp <;> omega)) : NEED p K := ⟨h, k⟩
end Go.Sx
/- UTF-8 in plain words: what stands at a place of a text. No program in sight. -/
set_option linter.unusedVariables false
namespace Go.Our
open Go.Sx

/-- Texts that fit into memory. -/
abbrev Sm (s : List UInt8) : Prop := s.length ≤ 1152921504606846976
/-- A byte as a number. -/
abbrev bn (c : UInt8) : Int := (c.toNat : Int)
def Scalar (r : Int) : Prop := 0 ≤ r ∧ r ≤ 1114111 ∧ (r < 55296 ∨ 57343 < r)
instance (r : Int) : Decidable (Scalar r) := by unfold Scalar; infer_instance
def r2 (a b : Int) : Int := a % 32 * 64 + b % 64
def r3 (a b c : Int) : Int := (a % 16 * 64 + b % 64) * 64 + c % 64
def r4 (a b c d : Int) : Int := ((a % 8 * 64 + b % 64) * 64 + c % 64) * 64 + d % 64
/-! ### Bits of bytes -/
end Go.Our
/- Terms and quads as they are laid. No program in sight. -/
set_option linter.unusedVariables false
set_option linter.unusedSimpArgs false
namespace Go.Our
open Go.Sx
/-- A term: its kind, text, datatype and language. -/
structure Tm where
  k : Int
  t : List UInt8
  y : List UInt8
  l : List UInt8
  deriving DecidableEq
structure Qd where
  s : Tm
  p : Tm
  o : Tm
  g : Tm
  deriving DecidableEq
abbrev TmSm (x : Tm) : Prop := Sm x.t ∧ Sm x.y ∧ Sm x.l
abbrev QdSm (q : Qd) : Prop := TmSm q.s ∧ TmSm q.p ∧ TmSm q.o ∧ TmSm q.g
def Tm.sv (x : Tm) : SV := .agg [.int .i64 x.k, .str x.t, .str x.y, .str x.l]
def Qd.sv (q : Qd) : SV := .agg [.int .i64 q.s.k, .str q.s.t, .str q.s.y, .str q.s.l, .int .i64 q.p.k, .str q.p.t, .str q.p.y, .str q.p.l, .int .i64 q.o.k, .str q.o.t, .str q.o.y, .str q.o.l, .int .i64 q.g.k, .str q.g.t, .str q.g.y, .str q.g.l]
def zeroTm : Tm := ⟨0, [], [], []⟩
end Go.Our
/- How terms and quads that come in read; what package variables hold; from a contract to a row's walk. Conditions: none. -/
set_option linter.unusedVariables false
set_option linter.unusedSimpArgs false
namespace Go.Proofs.Ytillkgjdbnjnoaa
open Go.RowKit Go.Our Go.ChangeShapes Go.WideShapes Go.ChangeAt Go.Sx

section
variable {H : Type} {enc : TypeId × Value → H} {w : World} {base : Nat} {sp : Nat → Bool} {held : Bool}
abbrev strV (s : List UInt8) : Value := .string ⟨s.toArray⟩
abbrev tmL (x : Tm) : List Value := [.int .i64 x.k, strV x.t, strV x.y, strV x.l]
abbrev tmV (x : Tm) : Value := .agg ⟨tmL x⟩
abbrev qdL (q : Qd) : List Value := [.int .i64 q.s.k, strV q.s.t, strV q.s.y, strV q.s.l, .int .i64 q.p.k, strV q.p.t, strV q.p.y, strV q.p.l, .int .i64 q.o.k, strV q.o.t, strV q.o.y, strV q.o.l, .int .i64 q.g.k, strV q.g.t, strV q.g.y, strV q.g.l]
abbrev qdV (q : Qd) : Value := .agg ⟨qdL q⟩
def tmD (x : Tm) : DataW H := .agg [.lit (.int .i64 x.k), .lit (.string x.t), .lit (.string x.y), .lit (.string x.l)]
def qdD (q : Qd) : DataW H := .agg [tmD q.s, tmD q.p, tmD q.o, tmD q.g]
abbrev TmWf (x : Tm) : Prop := (Lit.int .i64 x.k).wf = true
abbrev QdWf (q : Qd) : Prop := TmWf q.s ∧ TmWf q.p ∧ TmWf q.o ∧ TmWf q.g
theorem cellsOfI : Try.prog.cellsOf 3 = 1 := by kernel_rfl
theorem cellsOfS : Try.prog.cellsOf 9 = 1 := by kernel_rfl
theorem cellsOfT : Try.prog.cellsOf 24 = 4 := by kernel_rfl
theorem cellsOfQ : Try.prog.cellsOf 26 = 16 := by kernel_rfl
theorem strV_of (s : ByteArray) : Value.string s = strV s.data.toList := by cases s; rfl
set_option maxRecDepth 100000 in
theorem trod_tm {fuel : Nat} {cs : List Value} {x : DataW H × List MemPlace} (h : DataW.trod enc Try.prog w base sp held fuel 24 cs = some x) :
    ∃ t : Tm, cs = tmL t ∧ x = (tmD t, []) ∧ TmWf t := by
  cases fuel with
  | zero => simp [DataW.trod] at h
  | succ fuel =>
    simp only [DataW.trod, Try.underlying24, cellsOfT] at h
    split at h
    · rename_i hl
      match cs, hl with
      | [c0, c1, c2, c3], _ =>
        simp only [List.mapM_cons, List.mapM_nil, cellsOfI, cellsOfS, List.drop_zero, List.drop_succ_cons, List.take_succ_cons, List.take_zero] at h
        simp only [Option.map_eq_some_iff, Option.bind_eq_bind, Option.bind_eq_some_iff, Option.pure_def, Option.some.injEq] at h
        obtain ⟨xs, ⟨y0, h0, r1, ⟨y1, h1, r2, ⟨y2, h2, r3, ⟨y3, h3, r4, rfl, rfl⟩, rfl⟩, rfl⟩, rfl⟩, hx⟩ := h
        obtain ⟨k, hk, rfl, wk⟩ := DataW.trod_int Try.underlying3 h0
        obtain ⟨s1, hs1, rfl, w1⟩ := DataW.trod_string Try.underlying9 h1
        obtain ⟨s2, hs2, rfl, w2⟩ := DataW.trod_string Try.underlying9 h2
        obtain ⟨s3, hs3, rfl, w3⟩ := DataW.trod_string Try.underlying9 h3
        injection hk with hk _; injection hs1 with hs1 _; injection hs2 with hs2 _; injection hs3 with hs3 _
        subst hk hs1 hs2 hs3
        exact ⟨⟨k, s1.data.toList, s2.data.toList, s3.data.toList⟩, by rw [strV_of, strV_of, strV_of], by rw [← hx]; rfl, wk⟩
    · cases h
set_option maxRecDepth 100000 in
theorem trod_qd {fuel : Nat} {cs : List Value} {x : DataW H × List MemPlace} (h : DataW.trod enc Try.prog w base sp held fuel 26 cs = some x) :
    ∃ q : Qd, cs = qdL q ∧ x = (qdD q, []) ∧ QdWf q := by
  cases fuel with
  | zero => simp [DataW.trod] at h
  | succ fuel =>
    simp only [DataW.trod, Try.underlying26, cellsOfQ] at h
    split at h
    · rename_i hl
      simp only [List.mapM_cons, List.mapM_nil, cellsOfT] at h
      simp only [Option.map_eq_some_iff, Option.bind_eq_bind, Option.bind_eq_some_iff, Option.pure_def, Option.some.injEq] at h
      obtain ⟨xs, ⟨y0, h0, r1, ⟨y1, h1, r2, ⟨y2, h2, r3, ⟨y3, h3, r4, rfl, rfl⟩, rfl⟩, rfl⟩, rfl⟩, hx⟩ := h
      obtain ⟨s, hs, rfl, ws⟩ := trod_tm h0
      obtain ⟨p, hp, rfl, wp⟩ := trod_tm h1
      obtain ⟨o, ho, rfl, wo⟩ := trod_tm h2
      obtain ⟨g, hg, rfl, wg⟩ := trod_tm h3
      refine ⟨⟨s, p, o, g⟩, ?_, by rw [← hx]; rfl, ws, wp, wo, wg⟩
      match cs, hl with
      | [c0, c1, c2, c3, c4, c5, c6, c7, c8, c9, c10, c11, c12, c13, c14, c15], _ =>
        simp only [List.drop_zero, List.drop_succ_cons, List.take_succ_cons, List.take_zero, tmL, List.cons.injEq, and_true] at hs hp ho hg
        obtain ⟨rfl, rfl, rfl, rfl⟩ := hs
        obtain ⟨rfl, rfl, rfl, rfl⟩ := hp
        obtain ⟨rfl, rfl, rfl, rfl⟩ := ho
        obtain ⟨rfl, rfl, rfl, rfl⟩ := hg
        rfl
    · cases h
/-- What the size of a reading says of its texts. -/
theorem tm_small {x : Tm} (h : ((tmD x : DataW H).weights Try.prog 24).all (fun n => decide (n ≤ reachBytes)) = true) : x.t.length ≤ reachBytes ∧ x.y.length ≤ reachBytes ∧ x.l.length ≤ reachBytes := by
  simp only [tmD, DataW.weights, Try.underlying24, List.map_cons, List.map_nil, DataW.weightsEach, List.nil_append, List.append_nil, List.cons_append, List.all_cons, List.all_nil, Bool.and_true, Bool.and_eq_true, decide_eq_true_eq] at h
  exact h
theorem qd_small {q : Qd} (h : ((qdD q : DataW H).weights Try.prog 26).all (fun n => decide (n ≤ reachBytes)) = true) : (q.s.t.length ≤ reachBytes ∧ q.s.y.length ≤ reachBytes ∧ q.s.l.length ≤ reachBytes) ∧ (q.p.t.length ≤ reachBytes ∧ q.p.y.length ≤ reachBytes ∧ q.p.l.length ≤ reachBytes) ∧
    (q.o.t.length ≤ reachBytes ∧ q.o.y.length ≤ reachBytes ∧ q.o.l.length ≤ reachBytes) ∧ (q.g.t.length ≤ reachBytes ∧ q.g.y.length ≤ reachBytes ∧ q.g.l.length ≤ reachBytes) := by
  have e : (qdD q : DataW H).weights Try.prog 26 = (tmD q.s : DataW H).weights Try.prog 24 ++ ((tmD q.p : DataW H).weights Try.prog 24 ++ ((tmD q.o : DataW H).weights Try.prog 24 ++ ((tmD q.g : DataW H).weights Try.prog 24 ++ []))) := by
    simp only [qdD, DataW.weights, Try.underlying26, List.map_cons, List.map_nil, DataW.weightsEach]
  rw [e] at h
  simp only [List.all_append, Bool.and_eq_true] at h
  exact ⟨tm_small h.1, tm_small h.2.1, tm_small h.2.2.1, tm_small h.2.2.2.1⟩
theorem TmSm.of {x : Tm} (h : x.t.length ≤ reachBytes ∧ x.y.length ≤ reachBytes ∧ x.l.length ≤ reachBytes) : TmSm x := by
  unfold reachBytes at h
  exact ⟨by omega, by omega, by omega⟩
theorem qd_sm {q : Qd} (h : ((qdD q : DataW H).weights Try.prog 26).all (fun n => decide (n ≤ reachBytes)) = true) : QdSm q :=
  have h := qd_small h
  ⟨TmSm.of h.1, TmSm.of h.2.1, TmSm.of h.2.2.1, TmSm.of h.2.2.2⟩
end
end Go.Proofs.Ytillkgjdbnjnoaa
/- Terms and quads: their order is one total order. No program in sight. -/
set_option linter.unusedVariables false
set_option linter.unusedSimpArgs false
namespace Go.Our
open Go.Sx

/-! ### Three-way comparisons -/
structure Tri {α : Type} (c : α → α → Int) : Prop where
  rng : ∀ a b, c a b = -1 ∨ c a b = 0 ∨ c a b = 1
  anti : ∀ a b, c b a = - c a b
  zero : ∀ a b, c a b = 0 ↔ a = b
  trans : ∀ a b d, c a b ≤ 0 → c b d ≤ 0 → c a d ≤ 0

def cmpI (a b : Int) : Int := if a < b then -1 else if a > b then 1 else 0
theorem triI : Tri cmpI where
  rng a b := by unfold cmpI; (repeat' split) <;> omega
  anti a b := by unfold cmpI; (repeat' split) <;> omega
  zero a b := by unfold cmpI; (repeat' split) <;> omega
  trans a b d := by unfold cmpI; (repeat' split) <;> omega

open Lib (compareBytes)
theorem cb_rng : ∀ a b, compareBytes a b = -1 ∨ compareBytes a b = 0 ∨ compareBytes a b = 1
  | [], [] => by simp [compareBytes]
  | [], _ :: _ => by simp [compareBytes]
  | _ :: _, [] => by simp [compareBytes]
  | a :: as_, b :: bs => by
    unfold compareBytes
    split
    · simp
    · split
      · simp
      · exact cb_rng as_ bs
theorem cb_anti : ∀ a b, compareBytes b a = - compareBytes a b
  | [], [] => by simp [compareBytes]
  | [], _ :: _ => by simp [compareBytes]
  | _ :: _, [] => by simp [compareBytes]
  | a :: as_, b :: bs => by
    unfold compareBytes
    simp only [UInt8.lt_iff_toNat_lt]
    by_cases h : a.toNat < b.toNat
    · have : ¬ b.toNat < a.toNat := by omega
      simp [h, this]
    · by_cases h' : b.toNat < a.toNat
      · simp [h, h']
      · simp only [h, h', if_false]; exact cb_anti as_ bs
theorem cb_zero : ∀ a b, compareBytes a b = 0 ↔ a = b
  | [], [] => by simp [compareBytes]
  | [], _ :: _ => by simp [compareBytes]
  | _ :: _, [] => by simp [compareBytes]
  | a :: as_, b :: bs => by
    unfold compareBytes
    simp only [UInt8.lt_iff_toNat_lt, List.cons.injEq, ← UInt8.toNat_inj]
    by_cases h : a.toNat < b.toNat
    · simp [h]; omega
    · by_cases h' : b.toNat < a.toNat
      · simp [h, h']; omega
      · have : a.toNat = b.toNat := by omega
        simp only [this, Nat.lt_irrefl, if_false, true_and]; exact cb_zero as_ bs
theorem cb_trans : ∀ a b c, compareBytes a b ≤ 0 → compareBytes b c ≤ 0 → compareBytes a c ≤ 0
  | [], _, [] => by simp [compareBytes]
  | [], _, _ :: _ => by simp [compareBytes]
  | _ :: _, [], _ => by simp [compareBytes]
  | _ :: _, _ :: _, [] => by simp [compareBytes]
  | a :: as_, b :: bs, c :: cs => by
    unfold compareBytes
    simp only [UInt8.lt_iff_toNat_lt]
    have ih := cb_trans as_ bs cs
    (repeat' split) <;> first | omega | (intro x y; first | exact ih x y | omega)
def cmpL (a b : List UInt8) : Int := compareBytes a b
theorem triL : Tri cmpL where
  rng a b := cb_rng _ _
  anti a b := cb_anti _ _
  zero a b := cb_zero _ _
  trans a b d := cb_trans _ _ _

/-- First by the one, then by the other. -/
def pairCmp {β γ : Type} (c : β → β → Int) (d : γ → γ → Int) (a b : β × γ) : Int := if c a.1 b.1 ≠ 0 then c a.1 b.1 else d a.2 b.2
theorem tri_pair {β γ : Type} {c : β → β → Int} {d : γ → γ → Int} (hc : Tri c) (hd : Tri d) : Tri (pairCmp c d) where
  rng a b := by unfold pairCmp; split <;> first | exact hc.rng _ _ | exact hd.rng _ _
  anti a b := by
    unfold pairCmp
    rw [hc.anti a.1 b.1, hd.anti a.2 b.2]
    by_cases h : c a.1 b.1 = 0
    · simp [h]
    · have : ¬ - c a.1 b.1 = 0 := by omega
      simp [h, this]
  zero a b := by
    unfold pairCmp
    by_cases h : c a.1 b.1 = 0
    · simp only [h, ne_eq, not_true_eq_false, if_false]
      rw [hd.zero]
      have hf := (hc.zero _ _).1 h
      exact ⟨fun hg => Prod.ext hf hg, fun e => by rw [e]⟩
    · simp only [ne_eq, h, not_false_eq_true, if_true, false_iff]
      intro e; subst e
      exact h ((hc.zero _ _).2 rfl)
  trans a b e := by
    unfold pairCmp
    intro h1 h2
    have r1 := hc.rng a.1 b.1; have r2 := hc.rng b.1 e.1
    have t1 := hc.trans a.1 b.1 e.1
    by_cases x : c a.1 b.1 = 0
    · have ex := (hc.zero _ _).1 x
      simp only [x, ne_eq, not_true_eq_false, if_false] at h1
      rw [ex]
      by_cases y : c b.1 e.1 = 0
      · simp only [y, ne_eq, not_true_eq_false, if_false] at h2 ⊢
        exact hd.trans _ _ _ h1 h2
      · simp only [ne_eq, y, not_false_eq_true, if_true] at h2 ⊢
        exact h2
    · simp only [ne_eq, x, not_false_eq_true, if_true] at h1
      by_cases y : c b.1 e.1 = 0
      · have ey := (hc.zero _ _).1 y
        rw [← ey]
        simp only [ne_eq, x, not_false_eq_true, if_true]; exact h1
      · simp only [ne_eq, y, not_false_eq_true, if_true] at h2
        have hle := t1 h1 h2
        have hne : c a.1 e.1 ≠ 0 := by
          intro hz
          have e1 := (hc.zero _ _).1 hz
          rw [← e1] at h2 y
          have := hc.anti a.1 b.1
          omega
        simp only [ne_eq, hne, not_false_eq_true, if_true]; exact hle
theorem tri_map {α β : Type} {c : β → β → Int} (hc : Tri c) (f : α → β) (hf : ∀ a b, f a = f b → a = b) : Tri (fun a b => c (f a) (f b)) where
  rng a b := hc.rng _ _
  anti a b := hc.anti _ _
  zero a b := by rw [hc.zero]; exact ⟨hf a b, fun e => by rw [e]⟩
  trans a b d := hc.trans _ _ _

theorem bytesLess_cb : ∀ a b : List UInt8, Op.bytesLess a b = decide (Lib.compareBytes a b < 0)
  | [], [] => by simp [Op.bytesLess, Lib.compareBytes]
  | [], _ :: _ => by simp [Op.bytesLess, Lib.compareBytes]
  | _ :: _, [] => by simp [Op.bytesLess, Lib.compareBytes]
  | a :: as_, b :: bs => by
    unfold Op.bytesLess Lib.compareBytes
    rw [bytesLess_cb as_ bs]
    simp only [UInt8.lt_iff_toNat_lt]
    have hbeq : (a == b) = decide (a.toNat = b.toNat) := by
      rw [Bool.eq_iff_iff]; simp [UInt8.toNat_inj]
    rw [hbeq]
    by_cases h : a.toNat < b.toNat
    · simp [h]
    · by_cases h' : b.toNat < a.toNat
      · have : ¬ a.toNat = b.toNat := by omega
        simp [h, h', this]
      · have : a.toNat = b.toNat := by omega
        simp [this]
theorem sLess_cmp (a b : List UInt8) : sLess a b = decide (cmpL a b < 0) := bytesLess_cb a b
/-! ### The order of terms and of quads -/
def Tm.key (x : Tm) : Int × List UInt8 × List UInt8 × List UInt8 := (x.k, x.t, x.y, x.l)
def tmCmp (a b : Tm) : Int := pairCmp cmpI (pairCmp cmpL (pairCmp cmpL cmpL)) a.key b.key
theorem triT : Tri tmCmp := tri_map (tri_pair triI (tri_pair triL (tri_pair triL triL))) Tm.key (fun a b h => by
  cases a; cases b; simp [Tm.key] at h; simp [h])
def Qd.key (q : Qd) : Tm × Tm × Tm × Tm := (q.g, q.s, q.p, q.o)
def qdCmp (a b : Qd) : Int := pairCmp tmCmp (pairCmp tmCmp (pairCmp tmCmp tmCmp)) a.key b.key
theorem triQ : Tri qdCmp := tri_map (tri_pair triT (tri_pair triT (tri_pair triT triT))) Qd.key (fun a b h => by
  cases a; cases b; simp [Qd.key] at h; simp [h])
/-- The first that is not nought. -/
def orI : List Int → Int
  | [] => 0
  | x :: l => if x ≠ 0 then x else orI l
theorem orI_tm (a b : Tm) : orI [cmpI a.k b.k, cmpL a.t b.t, cmpL a.y b.y, cmpL a.l b.l] = tmCmp a b := by
  simp only [orI, tmCmp, pairCmp, Tm.key]
  (repeat' split) <;> simp_all
theorem orI_qd (a b : Qd) : orI [tmCmp a.g b.g, tmCmp a.s b.s, tmCmp a.p b.p, tmCmp a.o b.o] = qdCmp a b := by
  simp only [orI, qdCmp, pairCmp, Qd.key]
  (repeat' split) <;> simp_all
/-! ### Lists of quads -/
abbrev Qd.row (q : Qd) : List SV := [.int .i64 q.s.k, .str q.s.t, .str q.s.y, .str q.s.l, .int .i64 q.p.k, .str q.p.t, .str q.p.y, .str q.p.l, .int .i64 q.o.k, .str q.o.t, .str q.o.y, .str q.o.l, .int .i64 q.g.k, .str q.g.t, .str q.g.y, .str q.g.l]
def qdRow (q : Qd) : List SV := q.row
def tmRow (x : Tm) : List SV := [.int .i64 x.k, .str x.t, .str x.y, .str x.l]
theorem plainTms (l : List Tm) : plainLL (l.map tmRow) = true := plainLL_map _ (fun _ => rfl) l
theorem Tm.ext' {a b : Tm} (h : tmRow a = tmRow b) : a = b := by
  obtain ⟨_, _, _, _⟩ := a
  obtain ⟨_, _, _, _⟩ := b
  simp only [tmRow, List.cons.injEq, SV.int.injEq, SV.str.injEq, true_and, and_true] at h
  simp_all
def zeroQd : Qd := ⟨zeroTm, zeroTm, zeroTm, zeroTm⟩
theorem plainQds (l : List Qd) : plainLL (l.map qdRow) = true := plainLL_map _ (fun _ => rfl) l
theorem qdRow_get {l : List Qd} {i : Nat} (h : i < l.length) : (l.map qdRow)[i]? = some (qdRow l[i]) := by rw [List.getElem?_map, List.getElem?_eq_getElem h]; rfl
theorem rows_take {α : Type} (f : α → List SV) (l z : List α) : (((l ++ z).map f).drop 0).take l.length = l.map f := by
  rw [List.drop_zero, List.map_append, List.take_append_of_le_length (by simp), List.take_of_length_le (by simp)]
theorem rows_set {α : Type} (f : α → List SV) (l : List α) (i : Nat) (x : α) : (l.map f).set i (f x) = (l.set i x).map f := by rw [List.map_set]
theorem row_at0 {α : Type} {f : α → List SV} {l : List α} {i j : Nat} (h : i < l.length) (hj : j = i) : (l.map f)[j]? = some (f l[i]) := by
  subst hj
  rw [List.getElem?_map, List.getElem?_eq_getElem h]; rfl
theorem Qd.ext' {a b : Qd} (h : qdRow a = qdRow b) : a = b := by
  obtain ⟨⟨_, _, _, _⟩, ⟨_, _, _, _⟩, ⟨_, _, _, _⟩, ⟨_, _, _, _⟩⟩ := a
  obtain ⟨⟨_, _, _, _⟩, ⟨_, _, _, _⟩, ⟨_, _, _, _⟩, ⟨_, _, _, _⟩⟩ := b
  simp only [qdRow, Qd.row, List.cons.injEq, SV.int.injEq, SV.str.injEq, true_and, and_true] at h
  simp_all
end Go.Our
/- Slices that come in, told to the engine; from a contract over them to a row's walk. Conditions: none. -/
set_option linter.unusedVariables false
set_option linter.unusedSimpArgs false
namespace Go.Proofs.Ytillkgjdbnjnoaa
open Go.RowKit Go.Our Go.ChangeShapes Go.WideShapes Go.ChangeAt Go.Sx
section
variable {H : Type} {enc : TypeId × Value → H} {w : World}
theorem qdRow_den (η : Env) (q : Qd) (j : Nat) (sv : SV) (h : (qdRow q)[j]? = some sv) : ∃ u, (qdL q)[j]? = some u ∧ u.oneCell' = true ∧ Den η sv u := by
  have hlt := (List.getElem?_eq_some_iff.1 h).1
  have hl : (qdRow q).length = 16 := rfl
  rw [hl] at hlt
  match j, hlt with
  | 0, _ | 1, _ | 2, _ | 3, _ | 4, _ | 5, _ | 6, _ | 7, _ | 8, _ | 9, _ | 10, _ | 11, _ | 12, _ | 13, _ | 14, _ | 15, _ => injection h with h; subst h; exact ⟨_, rfl, rfl, by simp only [Den]⟩
set_option maxRecDepth 100000 in
theorem read_qds {v : Value} {d : DataW H} {p : List MemPlace} {r : Reach} {b0 : Nat} (ho : Value.okWide Try.prog w r b0 22 v) (h : DataW.Trod enc Try.prog w 0 (fun _ => true) true 22 v d p) :
    ∃ (l : List Qd) (en : Option Ent), SliceIn w v 16 (l.map qdRow) en ∧ ((l = [] ∧ d = .nil) ∨ ∃ z : List Qd, d = .slice (l.map qdD) (z.map qdD)) :=
  slice_in qdL qdD qdRow (by omega) (fun a => ⟨rfl, rfl⟩) qdRow_den Try.underlying22 cellsOfQ (fun fuel cs x hx => let ⟨q, h1, h2, _⟩ := trod_qd hx; ⟨q, h1, h2⟩) ho h
theorem bytesOfQ : Try.prog.bytesOf 26 = 224 := by kernel_rfl
theorem qds_small {l : List Qd} {d : DataW H} (hd : (l = [] ∧ d = .nil) ∨ ∃ z : List Qd, d = .slice (l.map qdD) (z.map qdD)) (h : (d.weights Try.prog 22).all (fun n => decide (n ≤ reachBytes)) = true) : l.length * 224 ≤ 140737488351232 ∧ ∀ q ∈ l, QdSm q := by
  rcases hd with ⟨rfl, rfl⟩ | ⟨z, rfl⟩
  · simp
  · simp only [DataW.weights, Try.underlying22, bytesOfQ, List.length_map, List.all_cons, List.all_append, Bool.and_eq_true, decide_eq_true_eq] at h
    obtain ⟨h1, h2, _⟩ := h
    refine ⟨by unfold reachBytes at h1; rw [Nat.add_mul] at h1; omega, ?_⟩
    have hall : ∀ (l : List Qd), (DataW.weightsAll Try.prog 26 (l.map (qdD (H := H)))).all (fun n => decide (n ≤ reachBytes)) = true → ∀ q ∈ l, QdSm q := by
      intro l
      induction l with
      | nil => intro _ q hq; cases hq
      | cons a l ih =>
        intro h q hq
        simp only [List.map_cons, DataW.weightsAll, List.all_append, Bool.and_eq_true] at h
        rcases List.mem_cons.1 hq with rfl | hq
        · exact qd_sm (H := H) h.1
        · exact ih h.2 q hq
    exact hall l h2
end
end Go.Proofs.Ytillkgjdbnjnoaa
/- States with other names at a loop's end; lists that grow. Conditions: none. -/
set_option linter.unusedVariables false
set_option linter.unusedSimpArgs false
namespace Go.Sx
open Go
def subK (σ : Nat → Nat) (fr : Fr) : Fr → Prop
  | [] => True
  | (t, v) :: r => match lkp t fr with
    | some u => u = ren σ v ∧ subK σ fr r
    | none => False
def subOK (σ : Nat → Nat) (O : Hps) : Hps → Prop
  | [] => True
  | (i, h) :: r => match lkp (σ i) O with
    | some g => g = renH σ h ∧ subOK σ O r
    | none => False
theorem subK_fr {σ : Nat → Nat} {m : Nat} {fr : Fr} : ∀ {fr' : Fr}, subK σ fr fr' → belowFr m fr' = true → SubFr σ m fr fr'
  | [], _, _ => trivial
  | (t, v) :: r, h, b => by
    simp only [subK] at h
    simp only [belowFr, Bool.and_eq_true] at b
    split at h
    · rename_i u hu
      obtain ⟨rfl, h⟩ := h
      exact ⟨⟨hu, b.1⟩, subK_fr h b.2⟩
    · exact h.elim
theorem subOK_o {σ : Nat → Nat} {m : Nat} {O : Hps} : ∀ {O' : Hps}, subOK σ O O' → belowO m O' = true → SubO σ m O O'
  | [], _, _ => trivial
  | (t, v) :: r, h, b => by
    simp only [subOK] at h
    simp only [belowO, Bool.and_eq_true] at b
    split at h
    · rename_i u hu
      obtain ⟨rfl, h⟩ := h
      exact ⟨⟨b.1, hu, b.2.1⟩, subOK_o h b.2.2⟩
    · exact h.elim
theorem GOES.keeping {M : Mx} {fr : Fr} {O : Hps} {nx k : Nat} {fr' : Fr} {O' : Hps} (hk : M.η0.length = k) (τ : List Nat) (hτ : τ.all (fun i => Nat.blt i nx) = true)
    (hn : (namesOf O').all (fun j => (namesOf O').all fun j' => !(Nat.beq (fname k τ j) (fname k τ j')) || Nat.beq j j') = true)
    (hbf : belowFr (k + τ.length) fr' = true) (hbo : belowO (k + τ.length) O' = true) (hf : subK (fname k τ) fr fr') (hO : subOK (fname k τ) O O') (hd : dsSame fr fr' = true := by rfl) (hro : roSame M.C.ro (fname k τ) (k + τ.length) = true := by rfl) : GOES M fr O nx fr' O' (k + τ.length) :=
  GOES.keep hk τ hτ (subK_fr hf hbf) (subOK_o hO hbo) hn hd hro
theorem sl_eq {b b' : Blk} {r es n n' : Nat} {lim : Option Nat} (hb : b = b') (hn : n = n') : SV.sl b r es n lim = SV.sl b' r es n' lim := by rw [hb, hn]
theorem rows_eq {es : Nat} {rs rs' : List (List SV)} {σ : Nat → Nat} (hp : plainLL rs' = true) (h : rs = rs') : Hp.rows es rs = renH σ (.rows es rs') := by rw [renH_plain σ (h := .rows es rs') hp, h]
theorem Does.mono {P : Program} {T : Tab} {f : FuncId} {k : Nat} {args : List SV} {O S : Hps} {Q Q' : SV → Hps → Nat → Prop} (h : Does P T f k args O S Q) (hq : ∀ r O nx, Q r O nx → Q' r O nx) : Does P T f k args O S Q' :=
  ⟨fun M vs h1 h2 h3 h4 h5 h6 => (h.out M vs h1 h2 h3 h4 h5 h6).mono fun v w' ⟨r, O', nx', η', a, b⟩ => ⟨r, O', nx', η', hq _ _ _ a, b⟩⟩
end Go.Sx
/- Calls among functions that share their names for blocks; empty slices in boxes by names. Conditions: none. -/
set_option linter.unusedVariables false
set_option linter.unusedSimpArgs false
namespace Go.Sx
open Go

/-! ### Names that stay -/
section
variable {σ : Nat → Nat} {k : Nat}
theorem renB_below (h : ∀ j, j < k → σ j = j) : ∀ {b : Blk}, belowB k b = true → renB σ b = b
  | .glob g, _ => rfl
  | .loc i, hb => by simp only [belowB, Nat.blt_eq] at hb; simp only [renB, h i hb]
mutual
theorem ren_below (h : ∀ j, j < k → σ j = j) : ∀ {v : SV}, below k v = true → ren σ v = v
  | .bool _, _ => rfl
  | .int _ _, _ => rfl
  | .str _, _ => rfl
  | .val _, _ => rfl
  | .any, _ => rfl
  | .nb _, _ => rfl
  | .dfs l, hb => by simp only [below] at hb; simp only [ren, renL_below h hb]
  | .yf b, hb => by simp only [below] at hb; simp only [ren, renB_below h hb]
  | .mp b, hb => by simp only [below] at hb; simp only [ren, renB_below h hb]
  | .ptr b _ _ _, hb => by simp only [below] at hb; simp only [ren, renB_below h hb]
  | .sl b _ _ _ _, hb => by simp only [below] at hb; simp only [ren, renB_below h hb]
  | .agg cs, hb => by simp only [below] at hb; simp only [ren, renL_below h hb]
  | .arr _ rs, hb => by simp only [below] at hb; simp only [ren, renLL_below h hb]
  | .tup vs, hb => by simp only [below] at hb; simp only [ren, renL_below h hb]
  | .ifc _ v, hb => by simp only [below] at hb; simp only [ren, ren_below h hb]
  | .fn _ a b, hb => by simp only [below, Bool.and_eq_true] at hb; simp only [ren, renL_below h hb.1, renL_below h hb.2]
theorem renL_below (h : ∀ j, j < k → σ j = j) : ∀ {vs : List SV}, belowL k vs = true → renL σ vs = vs
  | [], _ => rfl
  | c :: cs, hb => by simp only [belowL, Bool.and_eq_true] at hb; simp only [renL, ren_below h hb.1, renL_below h hb.2]
theorem renLL_below (h : ∀ j, j < k → σ j = j) : ∀ {vs : List (List SV)}, belowLL k vs = true → renLL σ vs = vs
  | [], _ => rfl
  | c :: cs, hb => by simp only [belowLL, Bool.and_eq_true] at hb; simp only [renLL, renL_below h hb.1, renLL_below h hb.2]
end
theorem renF_below (h : ∀ j, j < k → σ j = j) : ∀ {fr : Fr}, belowF k fr = true → renF σ fr = fr
  | [], _ => rfl
  | (t, v) :: r, hb => by
    simp only [belowF, Bool.and_eq_true] at hb
    simp only [renF, ren_below h hb.1, renF_below h hb.2]
theorem renH_below (h : ∀ j, j < k → σ j = j) : ∀ {hp : Hp}, belowH k hp = true → renH σ hp = hp
  | .box _, hb => by simp only [belowH] at hb; simp only [renH, renL_below h hb]
  | .rows _ _, hb => by simp only [belowH] at hb; simp only [renH, renLL_below h hb]
  | .siter _ _, _ => rfl
  | .bld _ _ _, _ => rfl
  | .dfr, _ => rfl
  | .lp _ _ fr, hb => by simp only [belowH] at hb; simp only [renH, renF_below h hb]
  | .mp _, hb => by simp only [belowH] at hb; simp only [renH, renLL_below h hb]
theorem renO_below (h : ∀ j, j < k → σ j = j) : ∀ {O : Hps}, belowO k O = true → renO σ O = O
  | [], _ => rfl
  | (i, hp) :: r, hb => by
    simp only [belowO, Bool.and_eq_true, Nat.blt_eq] at hb
    simp only [renO, h i hb.1, renH_below h hb.2.1, renO_below h hb.2.2]
end
variable {M : Mx} {fr fr' : Fr} {O O' : Hps} {nx : Nat}
theorem range_get {k i : Nat} (h : i < k) : (List.range k).getD i 0 = i := by simp [List.getD, h]
theorem cname_range {k nx j : Nat} (h : j < k) : cname (List.range k) nx j = j := by
  simp only [cname, List.length_range, if_pos h, range_get h]
/-- What a contract owns and looks at stands so in the caller's heap, by the same names. -/
def hereO (O : Hps) : Hps → Prop
  | [] => True
  | (i, h) :: r => match lkp i O with
    | some g => g = h ∧ hereO O r
    | none => False
def hereS (C : Cx) (O : Hps) : Hps → Prop
  | [] => True
  | (i, h) :: r => match hLook C O (.loc i) with
    | some g => g = h ∧ hereS C O r
    | none => False
theorem hereO.at {O : Hps} : ∀ {Oc : Hps}, hereO O Oc → ∀ p ∈ Oc, lkp p.1 O = some p.2
  | [], _, p, hp => by cases hp
  | (i, h) :: r, hs, p, hp => by
    simp only [hereO] at hs
    split at hs
    · rename_i g hg
      obtain ⟨rfl, hs⟩ := hs
      rcases List.mem_cons.1 hp with rfl | hp
      · exact hg
      · exact hereO.at hs p hp
    · exact hs.elim
theorem hereS.at {C : Cx} {O : Hps} : ∀ {Sc : Hps}, hereS C O Sc → ∀ p ∈ Sc, hLook C O (.loc p.1) = some p.2
  | [], _, p, hp => by cases hp
  | (i, h) :: r, hs, p, hp => by
    simp only [hereS] at hs
    split at hs
    · rename_i g hg
      obtain ⟨rfl, hs⟩ := hs
      rcases List.mem_cons.1 hp with rfl | hp
      · exact hg
      · exact hereS.at hs p hp
    · exact hs.elim
theorem belowO_mem {k : Nat} : ∀ {O : Hps}, belowO k O = true → ∀ p ∈ O, p.1 < k ∧ belowH k p.2 = true
  | [], _, p, hp => by cases hp
  | (i, h) :: r, hb, p, hp => by
    simp only [belowO, Bool.and_eq_true, Nat.blt_eq] at hb
    rcases List.mem_cons.1 hp with rfl | hp
    · exact ⟨hb.1, hb.2.1⟩
    · exact belowO_mem hb.2.2 p hp
theorem namesOf_below {k : Nat} : ∀ {O : Hps}, belowO k O = true → ∀ j ∈ namesOf O, j < k
  | [], _, j, hj => by cases hj
  | (i, h) :: r, hb, j, hj => by
    simp only [belowO, Bool.and_eq_true, Nat.blt_eq] at hb
    rcases List.mem_cons.1 hj with rfl | hj
    · exact hb.1
    · exact namesOf_below hb.2.2 j hj
theorem map_same {f : Nat → Nat} : ∀ {l : List Nat}, (∀ j ∈ l, f j = j) → l.map f = l
  | [], _ => rfl
  | x :: l, h => by simp only [List.map_cons, h x (List.mem_cons_self ..), map_same fun j hj => h j (List.mem_cons_of_mem _ hj)]
theorem mem_names : ∀ {S : Hps} {p : Nat × Hp}, p ∈ S → p.1 ∈ namesOf S
  | [], p, hp => by cases hp
  | (i, h) :: S, p, hp => by
    rcases List.mem_cons.1 hp with rfl | hp
    · exact List.mem_cons_self ..
    · exact List.mem_cons_of_mem _ (mem_names hp)
/-- A call by the caller's own names, the first k; the callee makes no new ones. -/
theorem CALL.here {f : FuncId} {args : List SV} {K : SV → Hps → Nat → Prop} {k : Nat} {Oc Sc : Hps} {Q : SV → Hps → Nat → Prop} (sp : Does M.P M.C.T f k args Oc Sc Q)
    (hk : Nat.ble k nx = true) (hb : belowL k args = true) (hbO : belowO k Oc = true) (hbS : belowO k Sc = true) (hO : hereO O Oc) (hS : hereS M.C O Sc)
    (hd : (namesOf Sc).all (fun j => !((namesOf Oc).any (Nat.beq j))) = true)
    (hQ : ∀ r O' nx', Q r O' nx' → nx' = k ∧ below k r = true ∧ belowO k O' = true)
    (hK : ∀ r O', Q r O' k → K r (O' ++ outside (namesOf Oc) O) nx) : CALL M f args O nx K := by
  have hk := Nat.le_of_ble_eq_true hk
  have hσ : ∀ j, j < k → cname (List.range k) nx j = j := fun j hj => cname_range hj
  have hnames : (namesOf Oc).map (cname (List.range k) nx) = namesOf Oc := map_same fun j hj => hσ j (namesOf_below hbO j hj)
  refine CALL.of (List.range k) sp (by simp) (fun i hi => by have := List.mem_range.1 hi; omega) (renL_below hσ hb).symm hb ?_ ?_ ?_ ?_
  · intro p hp
    obtain ⟨h1, h2⟩ := belowO_mem hbO p hp
    exact ⟨h1, by rw [hσ _ h1, renH_below hσ h2]; exact hO.at p hp, h2⟩
  · intro j hj j' hj' he
    rwa [hσ j (namesOf_below hbO j hj), hσ j' (namesOf_below hbO j' hj')] at he
  · intro p hp
    obtain ⟨h1, h2⟩ := belowO_mem hbS p hp
    refine ⟨h1, by rw [hσ _ h1, renH_below hσ h2]; exact hS.at p hp, h2, ?_⟩
    rw [hnames, hσ _ h1]
    intro hm
    have hj : p.1 ∈ namesOf Sc := mem_names hp
    have := List.all_eq_true.1 hd _ hj
    simp only [Bool.not_eq_eq_eq_not, Bool.not_true] at this
    have h3 : (namesOf Oc).any (Nat.beq p.1) = true := List.any_eq_true.2 ⟨p.1, hm, beq_self _⟩
    rw [h3] at this; cases this
  · intro r O' nx' hq
    obtain ⟨rfl, h1, h2⟩ := hQ r O' nx' hq
    have := hK r O' hq
    rw [ren_below hσ h1, renO_below hσ h2, hnames]
    simpa using this

/-- What a contract owns and looks at stands so in the caller's heap, by the caller's names for it. -/
def thereO (σ : Nat → Nat) (O : Hps) : Hps → Prop
  | [] => True
  | (i, h) :: r => match lkp (σ i) O with
    | some g => g = renH σ h ∧ thereO σ O r
    | none => False
def thereS (C : Cx) (σ : Nat → Nat) (O : Hps) : Hps → Prop
  | [] => True
  | (i, h) :: r => match hLook C O (.loc (σ i)) with
    | some g => g = renH σ h ∧ thereS C σ O r
    | none => False
theorem thereO.at {σ : Nat → Nat} {O : Hps} : ∀ {Oc : Hps}, thereO σ O Oc → ∀ p ∈ Oc, lkp (σ p.1) O = some (renH σ p.2)
  | [], _, p, hp => by cases hp
  | (i, h) :: r, hs, p, hp => by
    simp only [thereO] at hs
    split at hs
    · rename_i g hg
      obtain ⟨rfl, hs⟩ := hs
      rcases List.mem_cons.1 hp with rfl | hp
      · exact hg
      · exact thereO.at hs p hp
    · exact hs.elim
theorem thereS.at {C : Cx} {σ : Nat → Nat} {O : Hps} : ∀ {Sc : Hps}, thereS C σ O Sc → ∀ p ∈ Sc, hLook C O (.loc (σ p.1)) = some (renH σ p.2)
  | [], _, p, hp => by cases hp
  | (i, h) :: r, hs, p, hp => by
    simp only [thereS] at hs
    split at hs
    · rename_i g hg
      obtain ⟨rfl, hs⟩ := hs
      rcases List.mem_cons.1 hp with rfl | hp
      · exact hg
      · exact thereS.at hs p hp
    · exact hs.elim
/-- A call, the callee's names being the caller's L, in this order. -/
theorem CALL.at {f : FuncId} {args argsc : List SV} {K : SV → Hps → Nat → Prop} {k : Nat} {Oc Sc : Hps} {Q : SV → Hps → Nat → Prop} (L : List Nat) (sp : Does M.P M.C.T f k argsc Oc Sc Q)
    (hL : L.length = k) (hLn : L.all (fun i => Nat.blt i nx) = true) (ha : args = renL (cname L nx) argsc) (hb : belowL k argsc = true) (hbO : belowO k Oc = true) (hbS : belowO k Sc = true) (hO : thereO (cname L nx) O Oc) (hS : thereS M.C (cname L nx) O Sc)
    (hinj : (namesOf Oc).all (fun j => (namesOf Oc).all fun j' => !(Nat.beq (cname L nx j) (cname L nx j')) || Nat.beq j j') = true)
    (hd : (namesOf Sc).all (fun j => !((namesOf Oc).any fun j' => Nat.beq (cname L nx j) (cname L nx j'))) = true)
    (hK : ∀ r O' nx', Q r O' nx' → K (ren (cname L nx) r) (renO (cname L nx) O' ++ outside ((namesOf Oc).map (cname L nx)) O) (nx + (nx' - k))) : CALL M f args O nx K := by
  refine CALL.of L sp hL (fun i hi => by have := List.all_eq_true.1 hLn i hi; simpa [Nat.blt_eq] using this) ha hb (fun p hp => ?_) (fun j hj j' hj' he => ?_) (fun p hp => ?_) hK
  · obtain ⟨h1, h2⟩ := belowO_mem hbO p hp
    exact ⟨h1, hO.at p hp, h2⟩
  · have := List.all_eq_true.1 (List.all_eq_true.1 hinj j hj) j' hj'
    simp only [he, beq_self, Bool.not_true, Bool.false_or] at this
    exact beq_eq this
  · obtain ⟨h1, h2⟩ := belowO_mem hbS p hp
    refine ⟨h1, hS.at p hp, h2, fun hm => ?_⟩
    obtain ⟨j', hj', he⟩ := List.mem_map.1 hm
    have := List.all_eq_true.1 hd _ (mem_names hp)
    simp only [Bool.not_eq_eq_eq_not, Bool.not_true] at this
    have h3 : (namesOf Oc).any (fun j' => Nat.beq (cname L nx p.1) (cname L nx j')) = true := List.any_eq_true.2 ⟨j', hj', by rw [he]; exact beq_self _⟩
    rw [h3] at this; cases this

/-- An end that tells of blocks: those that came in by their names, and those of τ. -/
theorem FIN.at {k : Nat} {r : SV} {Q : SV → Hps → Nat → Prop} (hk : M.η0.length = k) (τ : List Nat) (rc : SV) (Oc : Hps) (hτ : τ.all (fun i => Nat.blt i nx) = true) (hr : r = ren (fname k τ) rc) (hb : below (k + τ.length) rc = true) (hbO : belowO (k + τ.length) Oc = true)
    (hO : thereO (fname k τ) O Oc) (hinj : (namesOf Oc).all (fun j => (namesOf Oc).all fun j' => !(Nat.beq (fname k τ j) (fname k τ j')) || Nat.beq j j') = true) (hQ : Q rc Oc (k + τ.length)) : FIN M O nx r Q := by
  refine FIN.keep hk τ (rc := rc) (Oc := Oc) (fun i hi => by have := List.all_eq_true.1 hτ i hi; simpa [Nat.blt_eq] using this) hr hb (fun p hp => ?_) (fun j hj j' hj' he => ?_) hQ
  · obtain ⟨h1, h2⟩ := belowO_mem hbO p hp
    exact ⟨h1, hO.at p hp, h2⟩
  · have := List.all_eq_true.1 (List.all_eq_true.1 hinj j hj) j' hj'
    simp only [he, beq_self, Bool.not_true, Bool.false_or] at this
    exact beq_eq this

/-! ### The heap told otherwise ahead of a call -/
theorem CALL.weak {f : FuncId} {args : List SV} {K : SV → Hps → Nat → Prop} {O1 : Hps} {n1 : Nat} (h : ∀ η w, HeapOK M η w O nx → ∃ η', η <+: η' ∧ HeapOK M η' w O1 n1) (hc : CALL M f args O1 n1 K) : CALL M f args O nx K := by
  refine ⟨fun η w vs H hd => ?_⟩
  obtain ⟨η1, hp, H1⟩ := h η w H
  refine (hc.out η1 w vs H1 (DenL.mono hp hd)).mono ?_
  rintro v w' ⟨r, O', nx', η', h1, h2⟩
  exact ⟨r, O', nx', η', hp.trans h1, h2⟩
/-- An end that tells of blocks by the names that came in. -/
theorem FIN.here {k : Nat} {r rc : SV} {Oc : Hps} {Q : SV → Hps → Nat → Prop} (hk : M.η0.length = k) (hr : r = rc) (hb : below k rc = true) (hbO : belowO k Oc = true) (hO : hereO O Oc) (hQ : Q rc Oc k) : FIN M O nx r Q := by
  have hσ : ∀ j, j < k → fname k [] j = j := fun j hj => by simp [fname, hj]
  refine FIN.keep hk [] (rc := rc) (Oc := Oc) (fun i hi => by cases hi) (by rw [ren_below hσ hb]; exact hr) hb ?_ ?_ hQ
  · intro p hp
    obtain ⟨h1, h2⟩ := belowO_mem hbO p hp
    exact ⟨h1, by rw [hσ _ h1, renH_below hσ h2]; exact hO.at p hp, h2⟩
  · intro j hj j' hj' he
    rwa [hσ j (namesOf_below hbO j hj), hσ j' (namesOf_below hbO j' hj')] at he
/-- A row of which less is told. -/
def Loose (k : Nat) : List SV → List SV → Prop
  | _, [] => True
  | [], _ :: _ => False
  | c :: cs, c' :: cs' => (c' = .any ∨ (c' = c ∧ below k c = true)) ∧ Loose k cs cs'
theorem Loose.get {k : Nat} : ∀ {row row' : List SV}, Loose k row row' → ∀ (j : Nat) (sv : SV), row'[j]? = some sv → ∃ c, row[j]? = some c ∧ (sv = .any ∨ (sv = c ∧ below k c = true))
  | _, [], _, j, sv, h => by simp at h
  | [], _ :: _, h, _, _, _ => h.elim
  | c :: cs, c' :: cs', h, 0, sv, hj => by simp at hj; subst hj; exact ⟨c, rfl, h.1⟩
  | c :: cs, c' :: cs', h, j + 1, sv, hj => by simp at hj; obtain ⟨d, h1, h2⟩ := Loose.get h.2 j sv hj; exact ⟨d, by simpa using h1, h2⟩
end Go.Sx
/- The comparisons of numbers, texts, terms and quads, the program's and the reference's, walked. Conditions: none. -/
set_option linter.unusedVariables false
set_option linter.unusedSimpArgs false
set_option maxRecDepth 20000
namespace Go.Proofs.Ytillkgjdbnjnoaa
open Go.Sx Go.Our
def plCmp70 : Plan := (planOf [(0, 1), (2, 1), (5, 1), (7, 1), (10, 1), (12, 1), (15, 1), (17, 1), (1, 2), (3, 2), (6, 2), (8, 2), (11, 2), (13, 2), (16, 2), (18, 2), (4, 3), (9, 3), (14, 3), (19, 3), (20, 3), (21, 3), (22, 1)])
theorem isNaN_does (a : Int) : Does Try.prog tab 73 0 [.int .i64 a] [] [] (Val (.bool false)) := by
  refine Does.enter tabOK (g := 73) (fn := Try.f73) Try.call73 Try.func73 rfl 6 rfl rfl [.tmp 2] rfl ?_
  intro w0 F η0 h0
  conv => whnf
  exact FIN.value h0 rfl (by simp)
theorem compare_does (a b : Int) : Does Try.prog tab 63 0 [.int .i64 a, .int .i64 b] [] [] (Val (.int .i64 (cmpI a b))) := by
  refine Does.enter tabOK (g := 63) (fn := Try.f63) Try.call63 Try.func63 rfl 20 rfl rfl [.tmp 4] rfl ?_
  intro w0 F η0 h0
  conv => whnf
  repeat' ((first | with_reducible refine IF.tt ?_ | with_reducible refine IF.ff ?_ | refine CALL.value (isNaN_does _) rfl rfl ?_ | refine NEED.au ?_ | ((with_reducible apply GET.at); rfl) | ((with_reducible apply GETG.at); rfl) | ((with_reducible refine UNK.mk (fun h => ?_) ?_) <;> try (exfalso; omega)) | ((with_reducible refine IF.mk (fun h => ?_) (fun h => ?_)) <;> (try simp (disch := omega) only [hsB, hsC, lnB, wrap64, wrap32, simprocAttr] at h) <;> try (exfalso; omega))) <;> conv => whnf)
  all_goals
    refine FIN.value h0 rfl (congrArg (SV.int _) ?_)
    unfold cmpI
    (repeat' split) <;> simp_all <;> omega
theorem cmpstr_does (a b : List UInt8) : Does Try.prog tab 103 0 [.str a, .str b] [] [] (Val (.int .i64 (cmpL a b))) := by
  refine Does.says fun η w vs hd => ?_
  simp only [DenL, Den] at hd
  obtain ⟨u, us, rfl, rfl, u', us', rfl, rfl, rfl⟩ := hd
  refine ⟨_, ?_, rfl⟩
  rw [run_callFunc_extern Try.func103 (by kernel_rfl) (by kernel_rfl) (by kernel_rfl) (e := Extern.BytealgCompare.compare) (by kernel_rfl), Lib.run_compareString]
  rfl
theorem cmpString_does (a b : List UInt8) : Does Try.prog tab 74 0 [.str a, .str b] [] [] (Val (.int .i64 (cmpL a b))) := by
  refine Does.enter tabOK (g := 74) (fn := Try.f74) Try.call74 Try.func74 rfl 8 rfl rfl [.tmp 4] rfl ?_
  intro w0 F η0 h0
  conv => whnf
  repeat' ((first | with_reducible refine IF.tt ?_ | with_reducible refine IF.ff ?_ | refine CALL.value (cmpstr_does _ _) rfl rfl ?_ | refine NEED.au ?_ | ((with_reducible apply GET.at); rfl) | ((with_reducible apply GETG.at); rfl) | ((with_reducible refine UNK.mk (fun h => ?_) ?_) <;> try (exfalso; omega)) | ((with_reducible refine IF.mk (fun h => ?_) (fun h => ?_)) <;> (try simp (disch := omega) only [hsB, hsC, lnB, wrap64, wrap32, simprocAttr] at h) <;> try (exfalso; omega))) <;> conv => whnf)
  exact FIN.value h0 rfl rfl
theorem strCmp_does (a b : List UInt8) : Does Try.prog tab 64 0 [.str a, .str b] [] [] (Val (.int .i64 (cmpL a b))) := by
  refine Does.enter tabOK (g := 64) (fn := Try.f64) Try.call64 Try.func64 rfl 8 rfl rfl [.tmp 4] rfl ?_
  intro w0 F η0 h0
  conv => whnf
  repeat' ((first | with_reducible refine IF.tt ?_ | with_reducible refine IF.ff ?_ | refine CALL.value (cmpString_does _ _) rfl rfl ?_ | refine NEED.au ?_ | ((with_reducible apply GET.at); rfl) | ((with_reducible apply GETG.at); rfl) | ((with_reducible refine UNK.mk (fun h => ?_) ?_) <;> try (exfalso; omega)) | ((with_reducible refine IF.mk (fun h => ?_) (fun h => ?_)) <;> (try simp (disch := omega) only [hsB, hsC, lnB, wrap64, wrap32, simprocAttr] at h) <;> try (exfalso; omega))) <;> conv => whnf)
  exact FIN.value h0 rfl rfl
def intRowC (x : Int) : List SV := [.int .i64 x]
theorem or_does (xs : List Int) (hn : xs.length ≤ 1152921504606846976) : Does Try.prog tab 54 1 [.sl (.loc 0) 0 1 xs.length none] [] [(0, .rows 1 (xs.map intRowC))] (ValK 1 (.int .i64 (orI xs))) := by
  refine Does.enter tabOK (g := 54) (fn := Try.f54) Try.call54 Try.func54 rfl 18 rfl rfl [.tmp 2] rfl ?_
  intro w0 F η0 h0
  conv => whnf
  refine LOOP.go tabOK [3, 6, 7] (X := Nat) (fun i => i ≤ xs.length ∧ orI xs = orI (xs.drop i)) (fun i => [(8, .int .i64 (i : Int))]) (fun i => []) 1 (fun i => xs.length - i) 0 ⟨by omega, rfl⟩ ?_
  conv => whnf
  refine ⟨by (refine GOES.cutting h0 rfl rfl rfl (by first | rfl | simp [belowO, belowH, plainLL_below, plainLL_map, plainL, plain]) ?_ ?_ <;> (repeat' (first | (with_reducible rfl) | (exact congrArg (fun n => SV.sl _ _ _ n _) (by simp)) | (exact congrArg (Hp.rows _) (by simp)) | (exact congrArg (SV.int _) (by first | omega | (simp (disch := omega) only [lnB, wrap64, wrap32] <;> omega) | (simp; done) | (simp <;> omega))) | ((conv => whnf); refine ⟨?_, ?_⟩) | exact trivial | (simp; done) | rfl))), ?_⟩
  rintro i ⟨hi, ho⟩
  conv => whnf
  repeat' ((first | with_reducible refine IF.tt ?_ | with_reducible refine IF.ff ?_ | (refine GET.at (row := intRowC (xs[i]'(by omega))) (by rw [List.getElem?_map, show 0 + (i : Int).toNat = i by omega, List.getElem?_eq_getElem (by omega)]; rfl) ?_; conv => whnf) | refine NEED.au ?_ | ((with_reducible apply GET.at); rfl) | ((with_reducible apply GETG.at); rfl) | ((with_reducible refine UNK.mk (fun h => ?_) ?_) <;> try (exfalso; omega)) | ((with_reducible refine IF.mk (fun h => ?_) (fun h => ?_)) <;> (try simp (disch := omega) only [hsB, hsC, lnB, wrap64, wrap32, simprocAttr] at h) <;> try (exfalso; omega))) <;> conv => whnf)
  · have hl : i < xs.length := by omega
    refine FIN.valueK h0 rfl (congrArg (SV.int _) ?_)
    rw [ho, List.drop_eq_getElem_cons hl]; simp only [orI]; rw [if_pos h]
  · have hl : i < xs.length := by omega
    refine ⟨i + 1, ⟨by omega, ?_⟩, by omega, ?_⟩
    · rw [ho, List.drop_eq_getElem_cons hl]; simp only [orI]; rw [if_neg (by simpa using h)]
    · conv => whnf
      (refine GOES.cutting h0 rfl rfl rfl (by first | rfl | simp [belowO, belowH, plainLL_below, plainLL_map, plainL, plain]) ?_ ?_ <;> (repeat' (first | (with_reducible rfl) | (exact congrArg (fun n => SV.sl _ _ _ n _) (by simp)) | (exact congrArg (Hp.rows _) (by simp)) | (exact congrArg (SV.int _) (by first | omega | (simp (disch := omega) only [lnB, wrap64, wrap32] <;> omega) | (simp; done) | (simp <;> omega))) | ((conv => whnf); refine ⟨?_, ?_⟩) | exact trivial | (simp; done) | rfl)))
  · refine FIN.valueK h0 rfl (congrArg (SV.int _) ?_)
    rw [ho, List.drop_eq_nil_of_le (by omega)]; rfl
abbrev tmR (x : Tm) : List SV := [.int .i64 x.k, .str x.t, .str x.y, .str x.l]
theorem tmCmp_does (a b : Tm) : Does Try.prog tab 43 0 [.agg (tmR a), .agg (tmR b)] [] [] (Val (.int .i64 (tmCmp a b))) := by
  refine Does.enter tabOK (g := 43) (fn := Try.f43) Try.call43 Try.func43 rfl 27 rfl rfl [.tmp 4] rfl ?_
  intro w0 F η0 h0
  conv => whnf
  repeat' ((first | with_reducible refine IF.tt ?_ | with_reducible refine IF.ff ?_ | refine DRAWN.of (id := 1) tabOK mixed plCmp70 (by kernel_rfl) ?_ | with_reducible refine ADD.mk (fun _ _ => ?_) | with_reducible refine NEED.mk (Det.of rfl) ?_ | refine NEED.mk (det_pos (by omega)) ?_ | with_reducible refine FORK.mk ?_ ?_ | refine CALL.value (compare_does a.k b.k) rfl rfl ?_ | refine CALL.value (strCmp_does a.t b.t) rfl rfl ?_ | refine CALL.value (strCmp_does a.y b.y) rfl rfl ?_ | refine CALL.value (strCmp_does a.l b.l) rfl rfl ?_ | (refine CALL.looks [2] (or_does [cmpI a.k b.k, cmpL a.t b.t, cmpL a.y b.y, cmpL a.l b.l] (by simp)) rfl rfl rfl rfl ⟨⟨rfl, rfl, rfl⟩, trivial⟩ ?_; conv => whnf) | refine NEED.au ?_ | ((with_reducible apply GET.at); rfl) | ((with_reducible apply GETG.at); rfl) | ((with_reducible refine UNK.mk (fun h => ?_) ?_) <;> try (exfalso; omega)) | ((with_reducible refine IF.mk (fun h => ?_) (fun h => ?_)) <;> (try simp (disch := omega) only [hsB, hsC, lnB, wrap64, wrap32, simprocAttr] at h) <;> try (exfalso; omega))) <;> conv => whnf)
  exact FIN.value h0 rfl (by rw [← orI_tm])
theorem qdCmp_does (a b : Qd) : Does Try.prog tab 32 0 [.agg a.row, .agg b.row] [] [] (Val (.int .i64 (qdCmp a b))) := by
  refine Does.enter tabOK (g := 32) (fn := Try.f32) Try.call32 Try.func32 rfl 27 rfl rfl [.tmp 4] rfl ?_
  intro w0 F η0 h0
  conv => whnf
  repeat' ((first | with_reducible refine IF.tt ?_ | with_reducible refine IF.ff ?_ | refine DRAWN.of (id := 1) tabOK mixed plCmp70 (by kernel_rfl) ?_ | with_reducible refine ADD.mk (fun _ _ => ?_) | with_reducible refine NEED.mk (Det.of rfl) ?_ | refine NEED.mk (det_pos (by omega)) ?_ | with_reducible refine FORK.mk ?_ ?_ | refine CALL.value (tmCmp_does a.g b.g) rfl rfl ?_ | refine CALL.value (tmCmp_does a.s b.s) rfl rfl ?_ | refine CALL.value (tmCmp_does a.p b.p) rfl rfl ?_ | refine CALL.value (tmCmp_does a.o b.o) rfl rfl ?_ | (refine CALL.looks [2] (or_does [tmCmp a.g b.g, tmCmp a.s b.s, tmCmp a.p b.p, tmCmp a.o b.o] (by simp)) rfl rfl rfl rfl ⟨⟨rfl, rfl, rfl⟩, trivial⟩ ?_; conv => whnf) | refine NEED.au ?_ | ((with_reducible apply GET.at); rfl) | ((with_reducible apply GETG.at); rfl) | ((with_reducible refine UNK.mk (fun h => ?_) ?_) <;> try (exfalso; omega)) | ((with_reducible refine IF.mk (fun h => ?_) (fun h => ?_)) <;> (try simp (disch := omega) only [hsB, hsC, lnB, wrap64, wrap32, simprocAttr] at h) <;> try (exfalso; omega))) <;> conv => whnf)
  exact FIN.value h0 rfl (by rw [← orI_qd])
theorem texts_does (a b : List UInt8) : Does Try.prog tab 71 0 [.str a, .str b] [] [] (Val (.int .i64 (cmpL a b))) := by
  have hr := triL.rng a b
  have ha := triL.anti a b
  have h1 := sLess_cmp a b
  have h2 := sLess_cmp b a
  have h3 : (a == b) = decide (cmpL a b = 0) := by rw [Bool.eq_iff_iff]; simp [triL.zero]
  refine Does.enter tabOK (g := 71) (fn := Try.f71) Try.call71 Try.func71 rfl 13 rfl rfl [.tmp 4] rfl ?_
  intro w0 F η0 h0
  conv => whnf
  repeat' ((first | with_reducible refine IF.tt ?_ | with_reducible refine IF.ff ?_ | refine NEED.au ?_ | ((with_reducible apply GET.at); rfl) | ((with_reducible apply GETG.at); rfl) | ((with_reducible refine UNK.mk (fun h => ?_) ?_) <;> try (exfalso; omega)) | ((with_reducible refine IF.mk (fun h => ?_) (fun h => ?_)) <;> (try simp (disch := omega) only [hsB, hsC, lnB, wrap64, wrap32, simprocAttr] at h) <;> try (exfalso; omega))) <;> conv => whnf)
  all_goals
    refine FIN.value h0 rfl (congrArg (SV.int _) ?_)
    simp only [h1, h2, h3, decide_eq_true_eq, decide_eq_false_iff_not] at *
    have hz := triL.zero a b
    simp only [← hz] at *
    omega
theorem rtmCmp_does (a b : Tm) : Does Try.prog tab 58 0 [.agg (tmR a), .agg (tmR b)] [] [] (Val (.int .i64 (tmCmp a b))) := by
  refine Does.enter tabOK (g := 58) (fn := Try.f58) Try.call58 Try.func58 rfl 36 rfl rfl [.tmp 4] rfl ?_
  intro w0 F η0 h0
  conv => whnf
  repeat' ((first | with_reducible refine IF.tt ?_ | with_reducible refine IF.ff ?_ | refine CALL.value (texts_does _ _) rfl rfl ?_ | refine NEED.au ?_ | ((with_reducible apply GET.at); rfl) | ((with_reducible apply GETG.at); rfl) | ((with_reducible refine UNK.mk (fun h => ?_) ?_) <;> try (exfalso; omega)) | ((with_reducible refine IF.mk (fun h => ?_) (fun h => ?_)) <;> (try simp (disch := omega) only [hsB, hsC, lnB, wrap64, wrap32, simprocAttr] at h) <;> try (exfalso; omega))) <;> conv => whnf)
  all_goals
    refine FIN.value h0 rfl (congrArg (SV.int _) ?_)
    rw [← orI_tm]
    simp only [orI, cmpI]
    (repeat' split) <;> simp_all <;> omega
theorem rqdCmp_does (a b : Qd) : Does Try.prog tab 41 0 [.agg a.row, .agg b.row] [] [] (Val (.int .i64 (qdCmp a b))) := by
  refine Does.enter tabOK (g := 41) (fn := Try.f41) Try.call41 Try.func41 rfl 33 rfl rfl [.tmp 4] rfl ?_
  intro w0 F η0 h0
  conv => whnf
  repeat' ((first | with_reducible refine IF.tt ?_ | with_reducible refine IF.ff ?_ | refine CALL.value (rtmCmp_does a.g b.g) rfl rfl ?_ | refine CALL.value (rtmCmp_does a.s b.s) rfl rfl ?_ | refine CALL.value (rtmCmp_does a.p b.p) rfl rfl ?_ | refine CALL.value (rtmCmp_does a.o b.o) rfl rfl ?_ | refine NEED.au ?_ | ((with_reducible apply GET.at); rfl) | ((with_reducible apply GETG.at); rfl) | ((with_reducible refine UNK.mk (fun h => ?_) ?_) <;> try (exfalso; omega)) | ((with_reducible refine IF.mk (fun h => ?_) (fun h => ?_)) <;> (try simp (disch := omega) only [hsB, hsC, lnB, wrap64, wrap32, simprocAttr] at h) <;> try (exfalso; omega))) <;> conv => whnf)
  all_goals
    refine FIN.value h0 rfl (congrArg (SV.int _) ?_)
    rw [← orI_qd]
    simp only [orI]
    (repeat' split) <;> simp_all
end Go.Proofs.Ytillkgjdbnjnoaa
/- Chapter 7's law: roomy lists of quads, kept lists; walked. Conditions: none. -/
set_option linter.unusedVariables false
set_option linter.unusedSimpArgs false
set_option maxRecDepth 20000
namespace Go.Proofs.Ytillkgjdbnjnoaa
open Go.Sx Go.Our
def plLists70 : Plan := (planOf [(0, 1), (1, 1), (2, 1), (4, 1), (5, 1), (6, 1), (3, 2), (7, 2), (8, 1)])
def plLists71 : Plan := (planOf [(0, 1), (1, 1), (2, 1), (3, 1), (4, 1), (5, 3), (6, 1), (7, 1), (8, 1), (9, 1), (10, 1), (11, 2), (12, 3), (13, 1), (14, 1), (15, 1), (16, 1), (17, 1), (18, 1), (19, 1), (20, 1), (21, 2), (22, 3), (23, 1), (24, 1), (25, 1)])
def markQd : Qd := ⟨⟨-7, [109, 97, 114, 107], [], []⟩, zeroTm, zeroTm, zeroTm⟩
theorem mark_does : Does Try.prog tab 29 0 [] [] [] (Val (.agg (qdRow markQd))) := by
  refine Does.enter tabOK (g := 29) (fn := Try.f29) Try.call29 Try.func29 rfl 3 rfl rfl [.cell 0 26] rfl ?_
  intro w0 F η0 h0
  conv => whnf
  repeat' ((first | with_reducible refine IF.tt ?_ | with_reducible refine IF.ff ?_ | refine NEED.au ?_ | ((with_reducible apply GET.at); rfl) | ((with_reducible apply GETG.at); rfl) | ((with_reducible refine UNK.mk (fun h => ?_) ?_) <;> try (exfalso; omega)) | ((with_reducible refine IF.mk (fun h => ?_) (fun h => ?_)) <;> (try simp (disch := omega) only [hsB, hsC, lnB, wrap64, wrap32, simprocAttr] at h) <;> try (exfalso; omega))) <;> conv => whnf)
  exact FIN.value h0 rfl rfl
theorem needMkQ {l c : Int} {b : Nat} (B : Nat) (hb : Nat.ble b B = true) (h0 : 0 ≤ l) (h1 : l ≤ c) (h2 : (B : Int) * c ≤ 281474976710656 ∧ c ≤ 9223372036854775807) : 0 ≤ l ∧ l ≤ c ∧ c ≤ 9223372036854775807 ∧ (b : Int) * c ≤ 281474976710656 :=
  ⟨h0, h1, h2.2, Int.le_trans (Int.mul_le_mul_of_nonneg_right (by have := Nat.le_of_ble_eq_true hb; omega) (by omega)) h2.1⟩
/-- So many quads have room. -/
abbrev QdsOK (l : List Qd) : Prop := l.length * 224 ≤ 140737488351232
theorem roomyZ_does (l z : List Qd) (lim : Option Nat) (hl : QdsOK l) : Does Try.prog tab 8 1 [.sl (.loc 0) 0 16 l.length lim] [] [(0, .rows 16 ((l ++ z).map qdRow))]
    (fun r O nx => r = .sl (.loc 1) 0 16 l.length none ∧ O = [(1, .rows 16 ((l ++ [markQd, markQd]).map qdRow))] ∧ nx = 2) := by
  refine Does.enter tabOK (g := 8) (fn := Try.f8) Try.call8 Try.func8 rfl 21 rfl rfl [.tmp 2] rfl ?_
  intro w0 F η0 h0
  conv => whnf
  repeat' ((first | with_reducible refine IF.tt ?_ | with_reducible refine IF.ff ?_ | refine CALL.value (mark_does) rfl rfl ?_ | (rw [rows_take]; conv => whnf) | (refine NEED.mk (needMkQ 224 rfl (by omega) (by rw [wrap64 (by omega) (by omega)]; omega) (by rw [wrap64 (by omega) (by omega)]; omega)) ?_; conv => whnf) | refine NEED.au ?_ | ((with_reducible apply GET.at); rfl) | ((with_reducible apply GETG.at); rfl) | ((with_reducible refine UNK.mk (fun h => ?_) ?_) <;> try (exfalso; omega)) | ((with_reducible refine IF.mk (fun h => ?_) (fun h => ?_)) <;> (try simp (disch := omega) only [hsB, hsC, lnB, wrap64, wrap32, simprocAttr] at h) <;> try (exfalso; omega))) <;> conv => whnf)
  refine NEED.mk (by rw [wrap64 (by omega) (by omega)]; exact ⟨by simp, by omega, by simp; omega⟩) ?_
  conv => whnf
  repeat' ((first | with_reducible refine IF.tt ?_ | with_reducible refine IF.ff ?_ | refine CALL.value (mark_does) rfl rfl ?_ | (refine NEED.mk (needApp 224 rfl rfl (by simp) (by simp) (by omega)) ?_; conv => whnf) | refine NEED.au ?_ | ((with_reducible apply GET.at); rfl) | ((with_reducible apply GETG.at); rfl) | ((with_reducible refine UNK.mk (fun h => ?_) ?_) <;> try (exfalso; omega)) | ((with_reducible refine IF.mk (fun h => ?_) (fun h => ?_)) <;> (try simp (disch := omega) only [hsB, hsC, lnB, wrap64, wrap32, simprocAttr] at h) <;> try (exfalso; omega))) <;> conv => whnf)
  try (refine NEED.mk ⟨by omega, by show _ ≤ ((max ((l.length : Int).toNat + 2) (_ - 0) : Nat) : Int); omega⟩ ?_; conv => whnf)
  refine FIN.at h0 [3] (.sl (.loc 1) 0 16 l.length none) [(1, .rows 16 ((l ++ [markQd, markQd]).map qdRow))] rfl rfl rfl (by first | rfl | (simp only [belowO, belowH, plainLL_below _ (plainQds _), Bool.and_self, Bool.and_true] <;> rfl)) (by repeat' (first | exact trivial | exact (renH_plain _ (h := .rows _ _) (plainQds _)).symm | (with_reducible rfl) | (exact (renH_plain _ (h := .rows _ _) (plainQds _)).trans (renH_plain _ (h := .rows _ _) (plainQds _)).symm) | (exact rows_eq (plainQds _) (by simp [qdRow, ofVal, List.take_of_length_le])) | exact rfl | ((conv => whnf); refine ⟨?_, ?_⟩))) rfl ?_
  exact ⟨rfl, rfl, rfl⟩
theorem roomy_does (l : List Qd) (hl : QdsOK l) : Does Try.prog tab 8 1 [.sl (.loc 0) 0 16 l.length none] [] [(0, .rows 16 (l.map qdRow))]
    (fun r O nx => r = .sl (.loc 1) 0 16 l.length none ∧ O = [(1, .rows 16 ((l ++ [markQd, markQd]).map qdRow))] ∧ nx = 2) := by
  have := roomyZ_does l [] none hl
  rwa [List.append_nil] at this
/-- Are pieces of two lists the same? -/
theorem sameQuadsL_does (A B : List Qd) (i n j m : Nat) (lA lB : Option Nat) (hA : i + n ≤ A.length) (hB : j + m ≤ B.length) (hn : A.length ≤ 1152921504606846976) (hm : B.length ≤ 1152921504606846976) : Does Try.prog tab 12 2 [.sl (.loc 0) i 16 n lA, .sl (.loc 1) j 16 m lB] [] [(0, .rows 16 (A.map qdRow)), (1, .rows 16 (B.map qdRow))]
    (ValK 2 (.bool (decide ((A.drop i).take n = (B.drop j).take m)))) := by
  refine Does.enter tabOK (g := 12) (fn := Try.f12) Try.call12 Try.func12 rfl 26 rfl rfl [.tmp 4] rfl ?_
  intro w0 F η0 h0
  conv => whnf
  refine IF.mk (fun h => ?_) (fun h => ?_)
  · have h : n ≠ m := by simp at h; omega
    conv => whnf
    refine FIN.valueK h0 rfl (congrArg SV.bool (decide_eq_false fun he => ?_).symm)
    have := congrArg List.length he
    simp at this
    omega
  have h : n = m := by simp at h; omega
  subst h
  conv => whnf
  refine LOOP.go tabOK [0, 1] (X := Nat) (fun c => c ≤ n ∧ ((A.drop i).take n = (B.drop j).take n ↔ (A.drop (i + c)).take (n - c) = (B.drop (j + c)).take (n - c))) (fun c => [(5, .int .i64 (c : Int))]) (fun c => []) 2 (fun c => n - c) 0 ⟨by omega, by simp⟩ ?_
  conv => whnf
  refine ⟨by (refine GOES.cutting h0 rfl rfl rfl (by first | rfl | simp [belowO, belowH, plainLL_below, plainLL_map, plainL, plain]) ?_ ?_ <;> (repeat' (first | (with_reducible rfl) | (exact congrArg (fun n => SV.sl _ _ _ n _) (by simp)) | (exact congrArg (Hp.rows _) (by simp)) | (exact congrArg (SV.int _) (by first | omega | (simp (disch := omega) only [lnB, wrap64, wrap32] <;> omega) | (simp; done) | (simp <;> omega))) | ((conv => whnf); refine ⟨?_, ?_⟩) | exact trivial | (simp; done) | rfl))), ?_⟩
  rintro c ⟨hc, hs⟩
  conv => whnf
  rcases Nat.lt_or_ge c n with hcn | hcn
  · have ha : i + c < A.length := by omega
    have hb : j + c < B.length := by omega
    have hstep : (A.drop (i + c)).take (n - c) = (B.drop (j + c)).take (n - c) ↔ A[i + c] = B[j + c] ∧ (A.drop (i + (c + 1))).take (n - (c + 1)) = (B.drop (j + (c + 1))).take (n - (c + 1)) := by
      rw [List.drop_eq_getElem_cons ha, List.drop_eq_getElem_cons hb, show n - c = (n - (c + 1)) + 1 by omega]
      simp only [List.take_succ_cons, List.cons.injEq]
      rw [show i + c + 1 = i + (c + 1) by omega, show j + c + 1 = j + (c + 1) by omega]
    repeat' ((first | with_reducible refine IF.tt ?_ | with_reducible refine IF.ff ?_ | refine DRAWN.of (id := 6) tabOK mixed plLists70 (by kernel_rfl) ?_ | with_reducible refine ADD.mk (fun _ _ => ?_) | with_reducible refine NEED.mk (Det.of rfl) ?_ | refine NEED.mk (det_pos (by omega)) ?_ | with_reducible refine FORK.mk ?_ ?_ | (refine GET.at (row := qdRow (A[i + c]'(by omega))) (by rw [show i + (c : Int).toNat = i + c by omega]; exact qdRow_get (by omega)) ?_; conv => whnf) | (refine GET.at (row := qdRow (B[j + c]'(by omega))) (by rw [show j + (c : Int).toNat = j + c by omega]; exact qdRow_get (by omega)) ?_; conv => whnf) | refine NEED.au ?_ | ((with_reducible apply GET.at); rfl) | ((with_reducible apply GETG.at); rfl) | ((with_reducible refine UNK.mk (fun h => ?_) ?_) <;> try (exfalso; omega)) | ((with_reducible refine IF.mk (fun h => ?_) (fun h => ?_)) <;> (try simp (disch := omega) only [hsB, hsC, lnB, wrap64, wrap32, simprocAttr] at h) <;> try (exfalso; omega))) <;> conv => whnf)
    · have hne : A[i + c] ≠ B[j + c] := fun he => by rw [he] at h; simp at h
      exact FIN.valueK h0 rfl (congrArg SV.bool (decide_eq_false fun he => hne (hstep.1 (hs.1 he)).1).symm)
    · have heq : A[i + c] = B[j + c] := Qd.ext' (by simp only [qdRow, Qd.row, List.cons.injEq, SV.int.injEq, SV.str.injEq, true_and, and_true]; exact h)
      refine ⟨c + 1, ⟨by omega, hs.trans (hstep.trans ⟨fun x => x.2, fun x => ⟨heq, x⟩⟩)⟩, by omega, ?_⟩
      conv => whnf
      (refine GOES.cutting h0 rfl rfl rfl (by first | rfl | simp [belowO, belowH, plainLL_below, plainLL_map, plainL, plain]) ?_ ?_ <;> (repeat' (first | (with_reducible rfl) | (exact congrArg (fun n => SV.sl _ _ _ n _) (by simp)) | (exact congrArg (Hp.rows _) (by simp)) | (exact congrArg (SV.int _) (by first | omega | (simp (disch := omega) only [lnB, wrap64, wrap32] <;> omega) | (simp; done) | (simp <;> omega))) | ((conv => whnf); refine ⟨?_, ?_⟩) | exact trivial | (simp; done) | rfl)))
  · repeat' ((first | with_reducible refine IF.tt ?_ | with_reducible refine IF.ff ?_ | refine NEED.au ?_ | ((with_reducible apply GET.at); rfl) | ((with_reducible apply GETG.at); rfl) | ((with_reducible refine UNK.mk (fun h => ?_) ?_) <;> try (exfalso; omega)) | ((with_reducible refine IF.mk (fun h => ?_) (fun h => ?_)) <;> (try simp (disch := omega) only [hsB, hsC, lnB, wrap64, wrap32, simprocAttr] at h) <;> try (exfalso; omega))) <;> conv => whnf)
    refine FIN.valueK h0 rfl (congrArg SV.bool (decide_eq_true (hs.2 ?_)).symm)
    rw [show n - c = 0 by omega]; rfl
/-- A roomy list is as it was made. -/
theorem keptZ_does (l z : List Qd) (lim : Option Nat) (hl : QdsOK l) (hz : (l ++ z).length ≤ 1152921504606846976) : Does Try.prog tab 10 2 [.sl (.loc 1) 0 16 l.length none, .sl (.loc 0) 0 16 l.length lim] [(1, .rows 16 ((l ++ [markQd, markQd]).map qdRow))] [(0, .rows 16 ((l ++ z).map qdRow))]
    (fun r O nx => r = .bool true ∧ O = [(1, .rows 16 ((l ++ [markQd, markQd]).map qdRow))] ∧ nx = 2) := by
  have hA : (l ++ [markQd, markQd]).length ≤ 1152921504606846976 := by simp; omega
  refine Does.enter tabOK (g := 10) (fn := Try.f10) Try.call10 Try.func10 rfl 36 rfl rfl [.tmp 4] rfl ?_
  intro w0 F η0 h0
  conv => whnf
  have hw : (IntKind.i64.wrap ((l.length : Int) + 2)).toNat = l.length + 2 := by rw [wrap64 (by omega) (by omega)]; omega
  have hw1 : (IntKind.i64.wrap ((l.length : Int) + 1)).toNat = l.length + 1 := by rw [wrap64 (by omega) (by omega)]; omega
  refine NEED.mk ⟨by rw [wrap64 (by omega) (by omega)]; omega, by rw [wrap64 (by omega) (by omega)]; show _ ≤ ((max l.length (((l ++ [markQd, markQd]).map qdRow).length - 0) : Nat) : Int); simp⟩ ?_
  rw [hw]
  conv => whnf
  repeat' ((first | with_reducible refine IF.tt ?_ | with_reducible refine IF.ff ?_ | refine DRAWN.of (id := 2) tabOK mixed plLists71 (by kernel_rfl) ?_ | with_reducible refine ADD.mk (fun _ _ => ?_) | with_reducible refine NEED.mk (Det.of rfl) ?_ | refine NEED.mk (det_pos (by omega)) ?_ | with_reducible refine FORK.mk ?_ ?_ | (refine NEED.mk ⟨by omega, by show _ ≤ ((l.length + 2 : Nat) : Int); omega⟩ ?_; conv => whnf) | refine NEED.au ?_ | ((with_reducible apply GET.at); rfl) | ((with_reducible apply GETG.at); rfl) | ((with_reducible refine UNK.mk (fun h => ?_) ?_) <;> try (exfalso; omega)) | ((with_reducible refine IF.mk (fun h => ?_) (fun h => ?_)) <;> (try simp (disch := omega) only [hsB, hsC, lnB, wrap64, wrap32, simprocAttr] at h) <;> try (exfalso; omega))) <;> conv => whnf)
  refine CALL.at [1, 0] (sameQuadsL_does (l ++ [markQd, markQd]) (l ++ z) 0 l.length 0 l.length none lim (by simp) (by simp) hA hz) rfl rfl rfl rfl (by first | rfl | (simp only [belowO, belowH, plainLL_below _ (plainQds _), Bool.and_self, Bool.and_true] <;> rfl)) (by first | rfl | (simp only [belowO, belowH, plainLL_below _ (plainQds _), Bool.and_self, Bool.and_true] <;> rfl)) (by repeat' (first | exact trivial | exact (renH_plain _ (h := .rows _ _) (plainQds _)).symm | exact rfl | exact (renH_plain _ (h := .rows _ _) (plainQds _)).trans (renH_plain _ (h := .rows _ _) (plainQds _)).symm | ((conv => whnf); refine ⟨?_, ?_⟩))) (by repeat' (first | exact trivial | exact (renH_plain _ (h := .rows _ _) (plainQds _)).symm | exact rfl | exact (renH_plain _ (h := .rows _ _) (plainQds _)).trans (renH_plain _ (h := .rows _ _) (plainQds _)).symm | ((conv => whnf); refine ⟨?_, ?_⟩))) rfl rfl ?_
  rintro r O' nx' ⟨rfl, rfl, rfl⟩
  rw [decide_eq_true (by simp)]
  conv => whnf
  repeat' ((first | with_reducible refine IF.tt ?_ | with_reducible refine IF.ff ?_ | refine DRAWN.of (id := 2) tabOK mixed plLists71 (by kernel_rfl) ?_ | with_reducible refine ADD.mk (fun _ _ => ?_) | with_reducible refine NEED.mk (Det.of rfl) ?_ | refine NEED.mk (det_pos (by omega)) ?_ | with_reducible refine FORK.mk ?_ ?_ | refine CALL.value (mark_does) rfl rfl ?_ | (refine GET.at (row := qdRow markQd) (by rw [List.getElem?_map]; simp [hw1]) ?_; conv => whnf) | refine NEED.au ?_ | ((with_reducible apply GET.at); rfl) | ((with_reducible apply GETG.at); rfl) | ((with_reducible refine UNK.mk (fun h => ?_) ?_) <;> try (exfalso; omega)) | ((with_reducible refine IF.mk (fun h => ?_) (fun h => ?_)) <;> (try simp (disch := omega) only [hsB, hsC, lnB, wrap64, wrap32, simprocAttr] at h) <;> try (exfalso; omega))) <;> conv => whnf)
  all_goals first
    | (exfalso; simp_all; done)
    | (refine FIN.here h0 (rc := .bool true) (Oc := [(1, .rows 16 ((l ++ [markQd, markQd]).map qdRow))]) (congrArg SV.bool (by simp)) rfl (by first | rfl | (simp only [belowO, belowH, plainLL_below _ (plainQds _), Bool.and_self, Bool.and_true] <;> rfl)) ⟨rfl, trivial⟩ ⟨rfl, rfl, rfl⟩)
    | trace_state
end Go.Proofs.Ytillkgjdbnjnoaa
/- term: Rises, the program's and the reference's, walked. Conditions: none. -/
set_option linter.unusedVariables false
set_option linter.unusedSimpArgs false
set_option maxRecDepth 20000
namespace Go.Proofs.Ytillkgjdbnjnoaa
open Go.Sx Go.Our
theorem qdRow_get2 {l z : List Qd} {i : Nat} (h : i < l.length) : ((l ++ z).map qdRow)[i]? = some (qdRow l[i]) := by
  rw [List.getElem?_map, List.getElem?_append_left h, List.getElem?_eq_getElem h]; rfl
end Go.Proofs.Ytillkgjdbnjnoaa
/- Sets as lists that rise: sorted, merged, searched. No program in sight. -/
set_option linter.unusedVariables false
set_option linter.unusedSimpArgs false
set_option linter.unusedSectionVars false
namespace Go.Our
section
variable {α : Type} {c : α → α → Int}
theorem Tri.lt_trans (h : Tri c) {x y z : α} (h1 : c x y < 0) (h2 : c y z ≤ 0) : c x z < 0 := by
  have h3 := h.trans x y z (by omega) h2
  rcases Int.lt_or_eq_of_le h3 with h4 | h4
  · exact h4
  · have e := (h.zero x z).1 h4
    subst e
    have := h.anti x y
    omega
theorem Tri.self (h : Tri c) (x : α) : c x x = 0 := (h.zero x x).2 rfl
theorem Tri.ne (h : Tri c) {x y : α} (hl : c x y < 0) : x ≠ y := fun e => by subst e; have := h.self x; omega
theorem Tri.gt (h : Tri c) {x y : α} (hl : ¬ c x y ≤ 0) : c y x < 0 := by have := h.anti x y; omega
/-- Each stands ahead of all that follow. -/
def Rise (c : α → α → Int) (l : List α) : Prop := l.Pairwise fun a b => c a b < 0
theorem rise_ext (h : Tri c) : ∀ {l m : List α}, Rise c l → Rise c m → (∀ x, x ∈ l ↔ x ∈ m) → l = m
  | [], [], _, _, _ => rfl
  | [], y :: m, _, _, he => by have := (he y).2 (by simp); simp at this
  | x :: l, [], _, _, he => by have := (he x).1 (by simp); simp at this
  | x :: l, y :: m, hl, hm, he => by
    have hl := List.pairwise_cons.1 hl
    have hm := List.pairwise_cons.1 hm
    have hxy : x = y := by
      rcases List.mem_cons.1 ((he x).1 (by simp)) with e | hx
      · exact e
      · rcases List.mem_cons.1 ((he y).2 (by simp)) with e | hy
        · exact e.symm
        · have h1 := hm.1 x hx
          have h2 := hl.1 y hy
          have := h.anti x y
          omega
    subst hxy
    congr 1
    refine rise_ext h hl.2 hm.2 fun z => ⟨fun hz => ?_, fun hz => ?_⟩
    · rcases List.mem_cons.1 ((he z).1 (by simp [hz])) with e | h1
      · subst e; exact (h.ne (hl.1 _ hz) rfl).elim
      · exact h1
    · rcases List.mem_cons.1 ((he z).2 (by simp [hz])) with e | h1
      · subst e; exact (h.ne (hm.1 _ hz) rfl).elim
      · exact h1
end
section
variable {α : Type} [DecidableEq α] {c : α → α → Int}
/-! ### Sorted, each once -/
/-- Of equal ones that stand side by side one stays. -/
def compactM : List α → List α
  | [] => []
  | [a] => [a]
  | a :: b :: l => if a = b then compactM (b :: l) else a :: compactM (b :: l)
theorem compact_mem : ∀ (l : List α) (x : α), x ∈ compactM l ↔ x ∈ l
  | [], x => by simp [compactM]
  | [a], x => by simp [compactM]
  | a :: b :: l, x => by
    have ih := compact_mem (b :: l) x
    unfold compactM
    split
    · rename_i e; subst e; rw [ih]; simp
    · rw [List.mem_cons, ih]; simp [List.mem_cons]
def leC (c : α → α → Int) (x y : α) : Bool := !(decide (c y x < 0))
theorem leC_iff (h : Tri c) {x y : α} : leC c x y = true ↔ c x y ≤ 0 := by
  have := h.anti x y
  unfold leC
  simp only [Bool.not_eq_true', decide_eq_false_iff_not]
  omega
theorem compact_rise (h : Tri c) : ∀ (l : List α), l.Pairwise (fun a b => c a b ≤ 0) → Rise c (compactM l)
  | [], _ => List.Pairwise.nil
  | [a], _ => by simp [compactM, Rise]
  | a :: b :: l, hp => by
    have hp' := List.pairwise_cons.1 hp
    have ih := compact_rise h (b :: l) hp'.2
    unfold compactM
    split
    · exact ih
    · rename_i hne
      refine List.pairwise_cons.2 ⟨fun x hx => ?_, ih⟩
      rw [compact_mem] at hx
      have hab : c a b < 0 := by
        have h1 := hp'.1 b (by simp)
        have h2 : c a b ≠ 0 := fun e => hne ((h.zero a b).1 e)
        omega
      rcases List.mem_cons.1 hx with rfl | hx
      · exact hab
      · exact h.lt_trans hab ((List.pairwise_cons.1 hp'.2).1 x hx)
def setL (c : α → α → Int) (l : List α) : List α := compactM (l.mergeSort (leC c))
theorem set_mem (l : List α) (x : α) : x ∈ setL c l ↔ x ∈ l := by
  unfold setL
  rw [compact_mem]
  exact List.mem_mergeSort
theorem set_rise (h : Tri c) (l : List α) : Rise c (setL c l) := by
  refine compact_rise h _ ?_
  have := List.pairwise_mergeSort (le := leC c) (fun a b d h1 h2 => by rw [leC_iff h] at *; exact h.trans a b d h1 h2) (fun a b => by
    have := h.anti a b
    rw [Bool.or_eq_true, leC_iff h, leC_iff h]; omega) l
  exact this.imp fun h1 => (leC_iff h).1 h1
theorem set_of (h : Tri c) {l m : List α} (hm : Rise c m) (he : ∀ x, x ∈ m ↔ x ∈ l) : m = setL c l := rise_ext h hm (set_rise h l) fun x => (he x).trans (set_mem l x).symm
theorem compact_len : ∀ (l : List α), (compactM l).length ≤ l.length
  | [] => by simp [compactM]
  | [a] => by simp [compactM]
  | a :: b :: l => by
    have ih := compact_len (b :: l)
    unfold compactM
    split
    · simp only [List.length_cons] at ih ⊢; omega
    · simp only [List.length_cons] at ih ⊢; omega
theorem set_len (l : List α) : (setL c l).length ≤ l.length := by
  have := compact_len (l.mergeSort (leC c))
  rw [List.length_mergeSort] at this
  exact this
/-! ### Merged by the document -/
def pushM (c : α → α → Int) (out : List α) (q : α) : List α := match out.getLast? with
  | none => [q]
  | some z => if c z q < 0 then out ++ [q] else out
def rmerge (c : α → α → Int) (out : List α) : List α → List α → List α
  | [], [] => out
  | x :: a, [] => rmerge c (pushM c out x) a []
  | [], y :: b => rmerge c (pushM c out y) [] b
  | x :: a, y :: b => if c x y ≤ 0 then rmerge c (pushM c out x) a (y :: b) else rmerge c (pushM c out y) (x :: a) b
termination_by a b => a.length + b.length
theorem push_rise (h : Tri c) {out : List α} {q : α} (ho : Rise c out) (hq : ∀ x ∈ out, c x q ≤ 0) : Rise c (pushM c out q) ∧ ∀ x, x ∈ pushM c out q ↔ x ∈ out ∨ x = q := by
  unfold pushM
  cases hg : out.getLast? with
  | none =>
    have : out = [] := List.getLast?_eq_none_iff.1 hg
    subst this
    exact ⟨by simp [Rise], by simp⟩
  | some z =>
    obtain ⟨pre, rfl⟩ := List.getLast?_eq_some_iff.1 hg
    simp only
    have ho' := List.pairwise_append.1 ho
    split
    · rename_i hz
      refine ⟨List.pairwise_append.2 ⟨ho, List.pairwise_singleton .., fun x hx y hy => ?_⟩, fun x => by simp only [List.mem_append, List.mem_singleton]⟩
      have hy := List.mem_singleton.1 hy
      subst hy
      rcases List.mem_append.1 hx with hx | hx
      · exact h.lt_trans (ho'.2.2 x hx z (by simp)) (by omega)
      · have := List.mem_singleton.1 hx; subst this; exact hz
    · rename_i hz
      have he : z = q := (h.zero z q).1 (by have := hq z (by simp); omega)
      subst he
      exact ⟨ho, fun x => by simp only [List.mem_append, List.mem_singleton]; grind⟩
theorem rmerge_spec (h : Tri c) : ∀ (n : Nat) (out a b : List α), a.length + b.length = n → Rise c out → Rise c a → Rise c b → (∀ x ∈ out, ∀ y, y ∈ a ∨ y ∈ b → c x y ≤ 0) → Rise c (rmerge c out a b) ∧ ∀ x, x ∈ rmerge c out a b ↔ x ∈ out ∨ x ∈ a ∨ x ∈ b
  | n, out, [], [], hn, ho, ha, hb, hh => by unfold rmerge; exact ⟨ho, by simp⟩
  | 0, out, x :: a, b, hn, _, _, _, _ => by simp at hn
  | 0, out, [], y :: b, hn, _, _, _, _ => by simp at hn
  | n + 1, out, x :: a, [], hn, ho, ha, hb, hh => by
    have ha' := List.pairwise_cons.1 ha
    obtain ⟨h1, h2⟩ := push_rise h ho (q := x) fun z hz => hh z hz x (by simp)
    obtain ⟨h3, h4⟩ := rmerge_spec h n (pushM c out x) a [] (by simp at hn ⊢; omega) h1 ha'.2 hb (fun z hz y hy => by
      rcases (h2 z).1 hz with hz | rfl
      · exact hh z hz y (by simpa using Or.inr (by simpa using hy))
      · have : y ∈ a := by simpa using hy
        have := ha'.1 y this; omega)
    unfold rmerge
    refine ⟨h3, fun z => ?_⟩
    rw [h4, h2]
    simp only [List.mem_cons, List.not_mem_nil, or_false]
    grind
  | n + 1, out, [], y :: b, hn, ho, ha, hb, hh => by
    have hb' := List.pairwise_cons.1 hb
    obtain ⟨h1, h2⟩ := push_rise h ho (q := y) fun z hz => hh z hz y (by simp)
    obtain ⟨h3, h4⟩ := rmerge_spec h n (pushM c out y) [] b (by simp at hn ⊢; omega) h1 ha hb'.2 (fun z hz w hw => by
      have hw : w ∈ b := by simpa using hw
      rcases (h2 z).1 hz with hz | rfl
      · exact hh z hz w (by simp [hw])
      · have := hb'.1 w hw; omega)
    unfold rmerge
    refine ⟨h3, fun z => ?_⟩
    rw [h4, h2]
    simp only [List.mem_cons, List.not_mem_nil, false_or]
    grind
  | n + 1, out, x :: a, y :: b, hn, ho, ha, hb, hh => by
    have ha' := List.pairwise_cons.1 ha
    have hb' := List.pairwise_cons.1 hb
    unfold rmerge
    split
    · rename_i hxy
      obtain ⟨h1, h2⟩ := push_rise h ho (q := x) fun z hz => hh z hz x (by simp)
      obtain ⟨h3, h4⟩ := rmerge_spec h n (pushM c out x) a (y :: b) (by simp at hn ⊢; omega) h1 ha'.2 hb (fun z hz w hw => by
        rcases (h2 z).1 hz with hz | rfl
        · exact hh z hz w (by rcases hw with hw | hw <;> simp [hw] <;> simp at hw <;> simp [hw])
        · rcases hw with hw | hw
          · have := ha'.1 w hw; omega
          · rcases List.mem_cons.1 hw with rfl | hw
            · exact hxy
            · exact h.trans _ _ _ hxy (by have := hb'.1 w hw; omega))
      refine ⟨h3, fun z => ?_⟩
      rw [h4, h2]
      simp only [List.mem_cons]
      grind
    · rename_i hxy
      have hyx := h.gt hxy
      obtain ⟨h1, h2⟩ := push_rise h ho (q := y) fun z hz => hh z hz y (by simp)
      obtain ⟨h3, h4⟩ := rmerge_spec h n (pushM c out y) (x :: a) b (by simp at hn ⊢; omega) h1 ha hb'.2 (fun z hz w hw => by
        rcases (h2 z).1 hz with hz | rfl
        · exact hh z hz w (by rcases hw with hw | hw <;> simp [hw] <;> simp at hw <;> simp [hw])
        · rcases hw with hw | hw
          · rcases List.mem_cons.1 hw with rfl | hw
            · omega
            · exact h.trans _ x _ (by omega) (by have := ha'.1 w hw; omega)
          · have := hb'.1 w hw; omega)
      refine ⟨h3, fun z => ?_⟩
      rw [h4, h2]
      simp only [List.mem_cons]
      grind
end
end Go.Our
/- Sets as lists that rise: the document's sort, the program's merges, places in sets. No program in sight. -/
set_option linter.unusedVariables false
set_option linter.unusedSimpArgs false
set_option linter.unusedSectionVars false
namespace Go.Our
section
variable {α : Type} {c : α → α → Int}
theorem rise_nil : Rise c ([] : List α) := List.Pairwise.nil
/-! ### Merged by the program -/
def wanted (f b s p q : Prop) : Prop := (f ∧ p ∧ ¬ q) ∨ (b ∧ p ∧ q) ∨ (s ∧ ¬ p ∧ q)
end
section
variable {α : Type} [DecidableEq α] {c : α → α → Int}
theorem rmerge_set (h : Tri c) {xs ys l : List α} (hx : Rise c xs) (hy : Rise c ys) (hl : ∀ z, z ∈ l ↔ z ∈ xs ∨ z ∈ ys) : rmerge c [] xs ys = setL c l := by
  obtain ⟨h1, h2⟩ := rmerge_spec h _ [] xs ys rfl rise_nil hx hy (by simp)
  exact set_of h h1 fun z => by rw [h2, hl]; simp
/-- The document's sort, half by half. -/
def rsort (c : α → α → Int) (l : List α) : List α := if l.length < 2 then l else rmerge c [] (rsort c (l.take (l.length / 2))) (rsort c (l.drop (l.length / 2)))
termination_by l.length
decreasing_by
  · simp only [List.length_take]; omega
  · simp only [List.length_drop]; omega
theorem rsort_set (h : Tri c) : ∀ (n : Nat) (l : List α), l.length ≤ n → rsort c l = setL c l
  | 0, l, hn => by
    have : l = [] := List.length_eq_zero_iff.1 (by omega)
    subst this
    unfold rsort
    simp [setL, compactM]
  | n + 1, l, hn => by
    unfold rsort
    split
    · match l with
      | [] => simp [setL, compactM]
      | [x] => simp [setL, compactM]
      | x :: y :: l => simp at *; omega
    · rw [rsort_set h n _ (by simp; omega), rsort_set h n _ (by simp; omega)]
      refine rmerge_set h (set_rise h _) (set_rise h _) fun z => ?_
      rw [set_mem, set_mem, ← List.mem_append, List.take_append_drop]
/-! ### What stands in both, by the document -/
/-! ### The place in a set -/
/-! ### Of equal ones one stays, from the front -/
theorem compact_succ : ∀ {l : List α} {i : Nat} (h0 : 1 ≤ i) (h : i < l.length), compactM (l.take (i + 1)) = if l[i] = l[i - 1]'(by omega) then compactM (l.take i) else compactM (l.take i) ++ [l[i]]
  | [], i, _, h => by simp at h
  | [a], i, h0, h => by simp at h; omega
  | a :: b :: l, 0, h0, h => by omega
  | a :: b :: l, 1, h0, h => by
    simp only [List.take_succ_cons, List.take_zero, compactM, List.getElem_cons_succ, List.getElem_cons_zero, Nat.sub_self]
    by_cases e : a = b
    · subst e; simp
    · rw [if_neg e, if_neg (fun h => e h.symm)]; rfl
  | a :: b :: l, i + 2, h0, h => by
    have hi : i + 1 < (b :: l).length := by simpa using h
    have ih := compact_succ (l := b :: l) (i := i + 1) (by omega) hi
    have e2 : (a :: b :: l)[i + 2 - 1]'(by simp at h ⊢; omega) = (b :: l)[i + 1 - 1]'(by simp at h ⊢; omega) := rfl
    have e3 : (a :: b :: l)[i + 2] = (b :: l)[i + 1] := rfl
    rw [e2, e3]
    simp only [List.take_succ_cons, compactM] at ih ⊢
    by_cases e : a = b
    · simp only [if_pos e]; exact ih
    · simp only [if_neg e, ih]
      split <;> simp
theorem compact_two {l : List α} (h : l.length < 2) : compactM l = l := by
  match l, h with
  | [], _ => rfl
  | [a], _ => rfl
theorem compact_one {l : List α} : compactM (l.take 1) = l.take 1 := compact_two (by simp; omega)
end
end Go.Our
/- The library's slices.SortFunc, told to the engine. Conditions: none. -/
set_option linter.unusedVariables false
set_option linter.unusedSimpArgs false
namespace Go.Sx
open Go Go.Sort Go.Shelf Go.Proofs
/-- What only grew and drew. -/
theorem FrW.grown {w w' : World} (h : FrW w w' fun _ => False) : ∃ q os, w' = grow (w.drewN q) os := by
  refine ⟨w'.drawn - w.drawn, w'.heap.extract w.heap.size, ?_⟩
  have hd := h.drawn
  have e1 : w'.heap = w.heap ++ w'.heap.extract w.heap.size := by
    apply Array.ext_getElem?
    intro k
    rcases Nat.lt_or_ge k w.heap.size with hk | hk
    · rw [Array.getElem?_append_left hk]; exact h.block k hk (fun x => x)
    · rw [Array.getElem?_append_right hk, Array.getElem?_extract]
      simp only [Nat.min_self]
      split
      · rw [show w.heap.size + (k - w.heap.size) = k by omega]
      · rename_i hn
        exact Array.getElem?_eq_none (by omega)
  obtain ⟨heap, tape, drawn, os, output⟩ := w
  obtain ⟨heap', tape', drawn', os', output'⟩ := w'
  have h1 := h.os
  have h2 := h.tape
  have h3 := h.output
  simp only at h1 h2 h3 hd e1
  subst h1 h2 h3
  simp only [grow, World.drewN]
  rw [← e1]
  congr 1
  omega
section
variable {α : Type} [Inhabited α] (enc : α → List Value) (k : Nat)
theorem sortWorldK_heap (w : World) (blk off m : Nat) (dk : Array α) (os : Array Obj) : (sortWorldK enc k w blk off m dk os).heap = (mapBlock w blk (putCells id off (flatK enc k dk))).heap ++ os := by
  simp [sortWorldK, grow, putRowK, putRow, mapBlock, Sort.ahead]
theorem sortWorldK_size (w : World) (blk off m : Nat) (dk : Array α) (os : Array Obj) : w.heap.size ≤ (sortWorldK enc k w blk off m dk os).heap.size := by
  rw [sortWorldK_heap]; simp [mapBlock]
theorem sortWorldK_block (w : World) (blk off m : Nat) (dk : Array α) (os : Array Obj) {g : Nat} (hg : g < w.heap.size) (hne : g ≠ blk) : (sortWorldK enc k w blk off m dk os).heap[g]? = w.heap[g]? := by
  rw [sortWorldK_heap, Array.getElem?_append_left (by simpa [mapBlock] using hg)]
  simp only [mapBlock, Array.getElem?_modify]
  rw [if_neg (fun h => hne h.symm)]
theorem sortWorldK_row (w : World) (blk off m : Nat) (dk : Array α) (os : Array Obj) {c : Array Value} {T : TypeId} {fz : Nat × Nat} (h : w.heap[blk]? = some (.cells c T fz)) : (sortWorldK enc k w blk off m dk os).heap[blk]? = some (.cells (putCells id off (flatK enc k dk) c) T fz) := by
  have hlt := (Array.getElem?_eq_some_iff.1 h).1
  rw [sortWorldK_heap, Array.getElem?_append_left (by simpa [mapBlock] using hlt)]
  simp only [mapBlock, Array.getElem?_modify, if_true, h, Option.map_eq_map, Option.map_some, onCells]
end
theorem cell_of {w : World} {g i : Nat} {c : Array Value} {T : TypeId} {fz : Nat × Nat} (h : w.heap[g]? = some (.cells c T fz)) : w.cell? ⟨g, i, none⟩ = c[i]? := by simp [World.cell?, h]
/-- A comparison that has its contract serves the sort. -/
theorem cmpLays_of {P : Program} {T : Tab} {α : Type} [Inhabited α] {enc : α → List Value} {k : Nat} {row : α → List SV} {g : FuncId} {cf : α → α → Int} {blk off size : Nat} {w : World} (hlone : T.globs.all (fun p => lone1 p.2) = true) (hblk : ∀ h, lkp blk T.globs ≠ some h)
    (hc : ∀ x y, Does P T g 0 [.agg (row x), .agg (row y)] [] [] (Val (.int .i64 (cf x y)))) (eg : ∀ args w, (callFunc g args).run P w = .ok (.enter g args) w)
    (hrow : ∀ η x, DenL η (row x) (enc x) ∧ ∀ u ∈ enc x, u.oneCell' = true) (hg : ∀ g h, lkp g T.globs = some h → HpSat [] w false (.glob g) h ∧ g < w.heap.size) : CmpLays P g #[] enc k cf blk off size w := by
  intro m os dk hdk x y
  have hg' : ∀ g h, lkp g T.globs = some h → HpSat [] (sortWorldK enc k w blk off m dk os) false (.glob g) h ∧ g < (sortWorldK enc k w blk off m dk os).heap.size := by
    intro g' h hh
    obtain ⟨h1, h2⟩ := hg g' h hh
    have hne : g' ≠ blk := fun e => hblk h (e ▸ hh)
    refine ⟨h1.keep fun n f => ?_, Nat.lt_of_lt_of_le h2 (sortWorldK_size enc k w blk off m dk os)⟩
    have hlt := h1.feet_lt f
    obtain ⟨e, he, hf⟩ := f
    cases he
    rcases hf with rfl | hf
    · exact sortWorldK_block enc k w blk off m dk os hlt hne
    · exact (lone1_kid (List.all_eq_true.1 hlone _ (lkp_mem hh)) hf).elim
  have := Does.calls (hc x y) eg (vs := [.agg (enc x).toArray, .agg (enc y).toArray]) (w := sortWorldK enc k w blk off m dk os) (by
    simp only [DenL, Den]
    exact ⟨_, _, rfl, ⟨_, rfl, (hrow [] x).1, (hrow [] x).2⟩, _, _, rfl, ⟨_, rfl, (hrow [] y).1, (hrow [] y).2⟩, rfl⟩) hg'
  refine this.mono ?_
  rintro e w' ⟨v, rfl, hv, hf⟩
  simp only [Den] at hv
  subst hv
  exact ⟨rfl, hf.grown⟩
/-- What a row of elements reads as, cell by cell. -/
theorem flat_cell {α : Type} [Inhabited α] {enc : α → List Value} {k : Nat} (hk : ∀ x, (enc x).length = k) {l : List α} {i j : Nat} {x : α} (hi : l[i]? = some x) (hj : j < k) : (flatK enc k l.toArray)[i * k + j]! = (enc x)[j]! ∧ i * k + j < l.length * k := by
  have hil := (List.getElem?_eq_some_iff.1 hi).1
  have hlt : i * k + j < l.length * k := by
    have : (i + 1) * k ≤ l.length * k := Nat.mul_le_mul_right k hil
    rw [Nat.succ_mul] at this
    omega
  refine ⟨?_, hlt⟩
  rw [get_flatK _ _ _ _ (by simpa using hlt)]
  have h1 : (i * k + j) / k = i := by rw [Nat.mul_comm, Nat.mul_add_div (by omega), Nat.div_eq_of_lt hj, Nat.add_zero]
  have h2 : (i * k + j) % k = j := by rw [Nat.mul_comm, Nat.mul_add_mod]; exact Nat.mod_eq_of_lt hj
  rw [h1, h2]
  congr 1
  have := (List.getElem?_eq_some_iff.1 hi).2
  simp [hil, this]
/-- slices.SortFunc over a row of its own, of elements of several cells. -/
theorem sortFunc_does {P : Program} {T : Tab} {ρ : Ren} {α : Type} [Inhabited α] (hT : TabOK P T) (L : SlLaysF0.n6 P ρ) (L' : SlLaysF0.n6 P ρ) {enc : α → List Value} {k : Nat} {row : α → List SV} {g : FuncId} {cf : α → α → Int}
    (aE : ∀ w, (isAgg (ρ.t 24)).run P w = .ok true w) (zE : ∀ w, (Go.sizeOf (ρ.t 24)).run P w = .ok k w) (hk : ∀ x, (enc x).length = k ∧ (row x).length = k) (hk0 : 0 < k) (hO : SWO (ltOf cf)) (hTo : ∀ x y, (ltOf cf) x y = false → (ltOf cf) y x = false → x = y)
    (hlone : T.globs.all (fun p => lone1 p.2) = true) (hc : ∀ x y, Does P T g 0 [.agg (row x), .agg (row y)] [] [] (Val (.int .i64 (cf x y)))) (eg : ∀ args w, (callFunc g args).run P w = .ok (.enter g args) w) (ef : ∀ args w, (callFunc (ρ.f 6) args).run P w = .ok (.enter (ρ.f 6) args) w)
    (hrow : ∀ η x, DenL η (row x) (enc x) ∧ ∀ u ∈ enc x, u.oneCell' = true) (hrow' : ∀ η x vs, DenL η (row x) vs → vs = enc x) (l : List α) (hl : l.length < 4611686018427387904) :
    Does P T (ρ.f 6) 1 [.sl (.loc 0) 0 k l.length none, .fn (.func g) [] []] [(0, .rows k (l.map row))] [] (fun r O nx => r = .tup [] ∧ O = [(0, .rows k ((l.mergeSort fun x y => !(ltOf cf) y x).map row))] ∧ nx = 1) := by
  refine ⟨fun M vs hP hT' hF hS H hd => .inl ⟨ρ.f 6, by rw [hP]; exact ef _ _, ?_⟩⟩
  obtain ⟨P', ⟨T', N', S', ro'⟩, w0, F, η0⟩ := M
  simp only at hP hT' hF hS H hd ⊢
  subst hP hT'
  simp only [DenL] at hd
  obtain ⟨v, us, rfl, hv, f, us', rfl, hf, rfl⟩ := hd
  simp only [Den] at hf
  obtain ⟨ff, fc, rfl, hff, hfc⟩ := hf
  simp only [DenL] at hff hfc
  subst hff hfc
  have hsat := (H.own.1 0 _ rfl).1
  have hgl : ∀ g h, lkp g T'.globs = some h → HpSat [] w0 false (.glob g) h ∧ g < w0.heap.size := by
    intro g' h hh
    have hp : plainH h = true := List.all_eq_true.1 T'.gplain _ (lkp_mem hh)
    have h1 := H.shared (b := .glob g') hh
    refine ⟨h1.plain hp, h1.feet_lt ⟨⟨g', 0, 0⟩, rfl, .inl rfl⟩⟩
  simp only [HpSat, Env.get] at hsat
  simp only [Den, Env.get] at hv
  have fin : ∀ w' (O' : Hps), FrW w0 w' F → HpSat η0 w' true (.loc 0) (.rows k ((l.mergeSort fun x y => !(ltOf cf) y x).map row)) →
      ∃ r O' nx' η', (r = SV.tup [] ∧ O' = [(0, Hp.rows k ((l.mergeSort fun x y => !(ltOf cf) y x).map row))] ∧ nx' = 1) ∧ η0 <+: η' ∧ HeapOK ⟨P', ⟨T', N', S', ro'⟩, w0, F, η0⟩ η' w' O' nx' ∧ Den η' r (.tuple #[]) := by
    intro w' O' hfr hs
    refine ⟨_, _, _, η0, ⟨rfl, rfl, rfl⟩, List.prefix_rfl, ⟨H.pre, H.len, ⟨fun i h hi => ?_, fun i j h h' k hi hj hij f f' => ?_⟩, hfr, H.sok⟩, ?_⟩
    · rw [lkp_cons] at hi
      split at hi
      · rename_i e; subst e
        injection hi with hi; subst hi
        refine ⟨hs, fun n f => (H.own.1 0 _ rfl).2 n ?_⟩
        obtain ⟨e, h1, h2⟩ := f
        exact ⟨e, h1, h2⟩
      · simp [lkp] at hi
    · rw [lkp_cons] at hi hj
      split at hi
      · rename_i e; subst e
        split at hj
        · rename_i e2; exact (hij e2.symm).elim
        · simp [lkp] at hj
      · simp [lkp] at hi
    · simp only [Den, DenL]; exact ⟨[], rfl, rfl⟩
  rcases hsat with ⟨hn, hnil⟩ | ⟨e, arr, Tt, fz, he, hheap, hown, hcells⟩
  · -- a nil slice
    have hl0 : l = [] := by simpa using hnil
    subst hl0
    have hv2 : v = .slice none 0 0 := by
      rcases hv with ⟨_, h, _⟩ | ⟨e, o, h, _⟩
      · exact h
      · rw [hn] at h; cases h
    subst hv2
    refine (AnyF.slices_SortFunc_none L' none 0 _ w0).mono ?_
    rintro e w' ⟨rfl, rfl⟩
    refine ⟨_, rfl, fin _ [] (FrW.refl _ _) ?_⟩
    simp only [HpSat, Env.get]
    exact .inl ⟨hn, by simp⟩
  · obtain ⟨hun, hsz, hle, hb0⟩ := hown trivial
    obtain ⟨hel, hvv⟩ : l.length ≤ e.cap ∧ v = .slice (some ⟨e.g, 0, none⟩) l.length e.cap := by
      rcases hv with ⟨h, _⟩ | ⟨e', o, h, h2, h3, h4, h5⟩
      · rw [he] at h; cases h
      · rw [he] at h; cases h
        simp only [Option.getD_none, Nat.zero_add, Nat.sub_zero] at h2 h3
        have := h5 (.inr trivial)
        rw [hb0] at this
        simp only [Nat.zero_mul, Nat.add_zero] at this
        subst this
        exact ⟨h3, h2⟩
    subst hvv
    have hblk : e.g < w0.heap.size := (Array.getElem?_eq_some_iff.1 hheap).1
    have hcell : ∀ (i : Nat) (x : α) (j : Nat), l[i]? = some x → j < k → arr[i * k + j]? = some (enc x)[j]! := by
      intro i x j hi hj
      obtain ⟨h1, h2⟩ := hcells i (row x) (by rw [List.getElem?_map, hi]; rfl)
      have hlen := (hk x).2
      have hen := (hk x).1
      have hall : ∀ (j : Nat) (c : SV), (row x)[j]? = some c → ∃ u, ((List.range k).map fun j => arr.getD (i * k + j) undef)[j]? = some u ∧ Den η0 c u := by
        intro j c hj
        have hjk : j < k := by have := (List.getElem?_eq_some_iff.1 hj).1; omega
        obtain ⟨u, h3, h4, h5⟩ := h2 j c hj
        rw [hb0, Nat.zero_add] at h3
        refine ⟨u, ?_, h5⟩
        rw [List.getElem?_map, List.getElem?_range hjk]
        simp only [Option.map_some, Array.getD_eq_getD_getElem?, h3, Option.getD_some]
      have hvs := hrow' η0 x _ (denL_of_get (by simp [hlen]) hall)
      have hjr : j < (row x).length := by omega
      obtain ⟨u, h3, h4, h5⟩ := h2 j ((row x)[j]) (List.getElem?_eq_getElem hjr)
      rw [hb0, Nat.zero_add] at h3
      have h6 : (enc x)[j]! = u := by
        rw [← hvs]
        have : ((List.range k).map fun j => arr.getD (i * k + j) undef)[j]? = some u := by
          rw [List.getElem?_map, List.getElem?_range hj]
          simp only [Option.map_some, Array.getD_eq_getD_getElem?, h3, Option.getD_some]
        rw [List.getElem!_eq_getElem?_getD, this]; rfl
      rw [h3, h6]
    have split : ∀ t, t < l.length * k → ∃ x, l[t / k]? = some x ∧ t % k < k ∧ t / k * k + t % k = t := by
      intro t ht
      have h1 : t / k < l.length := Nat.div_lt_of_lt_mul (by rw [Nat.mul_comm]; exact ht)
      exact ⟨l[t / k], List.getElem?_eq_getElem h1, Nat.mod_lt _ hk0, by rw [Nat.mul_comm]; exact Nat.div_add_mod t k⟩
    have hsize : l.length * k ≤ arr.size := by rw [hsz]; exact Nat.mul_le_mul_right _ hel
    have hH : HoldsK enc k w0 e.g 0 l.toArray := by
      intro t ht
      rw [size_flatK, List.size_toArray] at ht
      obtain ⟨x, h1, h2, h3⟩ := split t ht
      have h4 := hcell _ x _ h1 h2
      have h5 := (flat_cell (enc := enc) (fun x => (hk x).1) h1 h2).1
      rw [h3] at h4 h5
      refine ⟨by rw [Nat.zero_add, cell_of hheap, h4, h5]; rfl, ?_⟩
      have := hun t (by omega)
      simp only [World.frozen?, hheap, Nat.zero_add]
      simpa using this
    have hFg : F e.g := by
      rcases (H.own.1 0 _ rfl).2 e.g ⟨e, he, .inl rfl⟩ with h | h
      · exact h
      · have h : w0.heap.size ≤ e.g := h
        omega
    have hcl : CmpLays P' g #[] enc k cf e.g 0 l.toArray.size w0 := cmpLays_of hlone (fun h hh => (H.sok (.glob e.g) h hh).2 e.g ⟨⟨e.g, 0, 0⟩, rfl, .inl rfl⟩ |>.2 hFg) hc eg (fun η x => hrow η x) hgl
    have hmain := AnyQ.slices_SortFunc_total L k aE zE enc (fun x => (hk x).1) (fun x u hu => (hrow [] x).2 u hu) cf hO g #[] e.g 0 e.cap l.toArray w0 eg hcl hH hblk (by simpa using hl) hTo
    rw [List.size_toArray] at hmain
    refine hmain.mono ?_
    rintro e1 w' ⟨rfl, n, os, rfl⟩
    refine ⟨_, rfl, fin _ [] ?_ ?_⟩
    · refine ⟨rfl, rfl, rfl, ?_, sortWorldK_size .., fun b hb hnF => sortWorldK_block enc k w0 e.g 0 n _ os hb (fun e => hnF (e ▸ hFg))⟩
      simp [sortWorldK, grow, putRowK, putRow, mapBlock, Sort.ahead]
    · simp only [HpSat, Env.get]
      have hsl : (l.mergeSort fun x y => !(ltOf cf) y x).length = l.length := List.length_mergeSort l
      refine .inr ⟨e, _, Tt, fz, he, sortWorldK_row enc k w0 e.g 0 n _ os hheap, fun _ => ⟨?_, ?_, ?_, hb0⟩, fun i rw1 hi => ?_⟩
      · simp only [putCells, Array.size_mapIdx]; exact hun
      · simp only [putCells, Array.size_mapIdx]; exact hsz
      · rw [List.length_map, hsl]; exact hel
      · rw [List.getElem?_map] at hi
        obtain ⟨x, hx, rfl⟩ := Option.map_eq_some_iff.1 hi
        refine ⟨(hk x).2, fun j sv hj => ?_⟩
        have hjk : j < k := by have := (List.getElem?_eq_some_iff.1 hj).1; have := (hk x).2; omega
        obtain ⟨h5, h6⟩ := flat_cell (enc := enc) (fun x => (hk x).1) hx hjk
        rw [hsl] at h6
        obtain ⟨u, h7, h8⟩ := denL_get (hrow η0 x).1 hj
        refine ⟨u, ?_, (hrow η0 x).2 u (List.mem_of_getElem? h7), h8⟩
        have hlt : i * k + j < arr.size := by omega
        rw [hb0, Nat.zero_add]
        simp only [putCells, Array.getElem?_mapIdx, Array.getElem?_eq_getElem hlt, Option.map_some, Nat.zero_le, true_and, Nat.zero_add, size_flatK, List.size_toArray, hsl, h6, if_true, Nat.sub_zero]
        rw [h5, List.getElem!_eq_getElem?_getD, h7]
        rfl
end Go.Sx
