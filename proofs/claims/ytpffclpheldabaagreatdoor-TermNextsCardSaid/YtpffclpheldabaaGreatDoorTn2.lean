/- Part 2 of the texts that the last one leans on: SxDrawnS, SxDrawnT, Tab, ReadM, Glob, ReadU, Utf1, Utf04, StrLib, EscM, Build, Build2, SxAuto3, Esc1, UnescM. Conditions: as each part says. -/
import Derived.Test.YtpffclpheldabaaGreatDoorProg
import Derived.Test.YtpffclpheldabaaGreatDoorRows
import Derived.Lib.LaidTab
import Derived.LaidSub
import Derived.Lib.Bytealg
import Derived.WalkKit
import Derived.Lib.FrozenHead
import Derived.Lib.Builder
import Derived.Lib.UnsafeStr
import Derived.Shelf.RegionOpenPlain
import Derived.Test.YtpffclpheldabaaGreatDoorTn1
/- Regions whose order is drawn: the walk in one order is sound for every order. Conditions: none. -/
set_option linter.unusedVariables false
set_option linter.unusedSimpArgs false
namespace Go.Sx
open Go

/-! ### What an operation waits for -/
theorem masks_spec : ∀ (os : List Oper) (acc : List Nat), (masks os acc).take acc.length = acc ∧ ∀ j o, os[j]? = some o → (masks os acc)[acc.length + j]? = some (afterMask ((masks os acc).take (acc.length + j)) o)
  | [], acc => ⟨by simp [masks], fun j o h => by simp at h⟩
  | o :: os, acc => by
    simp only [masks]
    obtain ⟨h1, h2⟩ := masks_spec os (acc ++ [afterMask acc o])
    simp only [List.length_append, List.length_singleton] at h1 h2
    have h0 : (masks os (acc ++ [afterMask acc o])).take acc.length = acc := by
      have := congrArg (List.take acc.length) h1
      rw [List.take_take] at this
      simpa using this
    refine ⟨h0, fun j o' hj => ?_⟩
    cases j with
    | zero =>
      simp at hj; subst hj
      rw [Nat.add_zero, h0]
      have := congrArg (fun l : List Nat => l[acc.length]?) h1
      simpa [List.getElem?_take] using this
    | succ j =>
      have := h2 j o' (by simpa using hj)
      rw [show acc.length + (j + 1) = acc.length + 1 + j by omega]
      exact this
theorem afterMask_spec {acc : List Nat} {o : Oper} {i : Nat} (h : (afterMask acc o).testBit i = true) : ∃ e ∈ o.after, Region.binds .any e = true ∧ (e.on = i ∨ (acc.getD e.on 0).testBit i = true) := by
  unfold afterMask at h
  rw [← Array.foldl_toList] at h
  have key : ∀ (es : List Edge) (s : Nat), (es.foldl (fun s e => if Region.binds .any e then s ||| 2 ^ e.on ||| acc.getD e.on 0 else s) s).testBit i = true →
      s.testBit i = true ∨ ∃ e ∈ es, Region.binds .any e = true ∧ (e.on = i ∨ (acc.getD e.on 0).testBit i = true) := by
    intro es
    induction es with
    | nil => intro s h; exact .inl h
    | cons e es ih =>
      intro s h
      simp only [List.foldl_cons] at h
      rcases ih _ h with h | ⟨e', he', h⟩
      · split at h
        · rename_i hb
          simp only [Nat.testBit_or, Bool.or_eq_true] at h
          rcases h with (h | h) | h
          · exact .inl h
          · refine .inr ⟨e, List.mem_cons_self .., hb, .inl ?_⟩
            rw [Nat.testBit_two_pow] at h
            simpa using h
          · exact .inr ⟨e, List.mem_cons_self .., hb, .inr h⟩
        · exact .inl h
      · exact .inr ⟨e', List.mem_cons_of_mem _ he', h⟩
  rcases key _ _ h with h | ⟨e, he, h⟩
  · simp at h
  · exact ⟨e, by simpa using he, h⟩
theorem waits_closed {ops : Array Oper} {l : Array Bool} (hc : Closed .any ops l) {i : Nat} : ∀ (k : Nat), ((masks ops.toList []).getD k 0).testBit i = true → l.getD k false = true → l.getD i false = true := by
  intro k
  induction k using Nat.strongRecOn with
  | _ k ih =>
    intro h hk
    cases hg : (masks ops.toList [])[k]? with
    | none => rw [List.getD_eq_getElem?_getD, hg] at h; simp at h
    | some m =>
      have hlt : k < ops.size := by
        rcases Nat.lt_or_ge k ops.size with h' | h'
        · exact h'
        · rw [← hc.1] at h'
          simp [Array.getElem?_eq_none h'] at hk
      have ho : ops[k]? = some ops[k] := Array.getElem?_eq_getElem hlt
      have hm := (masks_spec ops.toList []).2 k ops[k] (by simp)
      simp only [List.length_nil, Nat.zero_add] at hm
      rw [List.getD_eq_getElem?_getD, hm, Option.getD_some] at h
      obtain ⟨e, he, hb, h⟩ := afterMask_spec h
      have hon := hc.2 k _ ho hk e he hb
      rcases h with rfl | h
      · exact hon
      · rw [List.getD_eq_getElem?_getD, List.getElem?_take] at h
        split at h
        · rename_i hlt'
          exact ih e.on hlt' (by rw [List.getD_eq_getElem?_getD]; exact h) hon
        · simp at h

/-! ### Worlds that agree -/
def agree (w w' : World) : Prop := ∀ k, k < w.heap.size → w'.heap[k]? = w.heap[k]?
theorem agree.refl (w : World) : agree w w := fun _ _ => rfl
theorem agree.trans {a b c : World} (h : agree a b) (k : agree b c) : agree a c := fun n hn => by
  have h1 := h n hn
  have hlt : n < b.heap.size := by
    rw [Array.getElem?_eq_getElem hn] at h1
    exact (Array.getElem?_eq_some_iff.1 h1).1
  rw [k n hlt, h1]
section
variable {M : Mx} {η : Env} {w : World} {O : Hps} {nx : Nat}
theorem lkpB_shared {C : Cx} : ∀ {O : Hps} {j : Nat}, lkpB (.loc j) (sharedOf O ++ C.S) = hLook C O (.loc j)
  | [], j => by simp [sharedOf, hLook, lkp]
  | (i, h) :: r, j => by
    have ih := lkpB_shared (C := C) (O := r) (j := j)
    simp only [sharedOf, List.cons_append, lkpB, blkEq, hLook, lkp]
    cases e : Nat.beq j i
    · simp only [e]; rw [ih]; rfl
    · simp only [e]
theorem lkS_shared {C : Cx} {O : Hps} {b : Blk} : lkS (cxRead C O) b = hLook C O b := by
  cases b with
  | glob g => rfl
  | loc j => exact lkpB_shared
theorem HeapOK.read (H : HeapOK M η w O nx) {w' : World} (hag : agree w w') : HeapOK (shMx M O η w') η w' [] nx := by
  refine ⟨List.prefix_rfl, H.len, ⟨fun i h hi => by simp [lkp] at hi, fun i j h h' n hi => by simp [lkp] at hi⟩, FrW.refl _ _, fun b h hb => ?_⟩
  have hb' : hLook M.C O b = some h := by rw [← lkS_shared]; exact hb
  have hsat := H.look hb'
  have hag' : ∀ k, feet η w b h k → w'.heap[k]? = w.heap[k]? := fun k f => hag _ (hsat.feet_lt f)
  have hs' := hsat.keep hag'
  exact ⟨hs', fun k f => ⟨hs'.feet_lt f, fun h => h⟩⟩
theorem HeapOK.blind (hl : η.length = nx) (w : World) : HeapOK (blMx M η w) η w [] nx :=
  ⟨List.prefix_rfl, hl, ⟨fun i h hi => by simp [lkp] at hi, fun i j h h' n hi => by simp [lkp] at hi⟩, FrW.refl _ _, fun b h hb => by cases b <;> simp [blMx, cxBlind, lkS, lkpB, lkp] at hb⟩
theorem HeapOK.join (H : HeapOK M η w O nx) {η' : Env} {w' : World} {O2 : Hps} {nx2 : Nat} (H2 : HeapOK (shMx M O η w) η' w' O2 nx2) : HeapOK M η' w' (O2 ++ O) nx2 ∧ agree w w' := by
  have hag : agree w w' := fun k hk => H2.fr.block k hk (fun h => h)
  have hp : η <+: η' := H2.pre
  have old : ∀ {i : Nat} {h : Hp}, lkp i O = some h → HpSat η' w' true (.loc i) h ∧ ∀ k, feet η' w' (.loc i) h k → feet η w (.loc i) h k ∧ k < w.heap.size := by
    intro i h hi
    obtain ⟨hsat, hF⟩ := H.own.1 i h hi
    have hk : ∀ k, feet η w (.loc i) h k → w'.heap[k]? = w.heap[k]? := fun k f => hag _ (hsat.feet_lt f)
    refine ⟨(hsat.keep (w' := w') hk).mono hp, fun k f => ?_⟩
    have f' := H.stands hp hi hk f
    exact ⟨f', hsat.feet_lt f'⟩
  refine ⟨⟨H.pre.trans hp, H2.len, ⟨fun i h hi => ?_, fun i j h h' k hi hj hij f f' => ?_⟩, H.fr.trans H2.fr (fun n hn => hn.elim), H.sok⟩, hag⟩
  · rcases lkp_append hi with hi | ⟨_, hi⟩
    · obtain ⟨h1, h2⟩ := H2.own.1 i h hi
      refine ⟨h1, fun k f => .inr ?_⟩
      rcases h2 k f with h3 | h3
      · exact h3.elim
      · exact Nat.le_trans H.fr.size h3
    · obtain ⟨h1, h2⟩ := old hi
      exact ⟨h1, fun k f => (H.own.1 i h hi).2 k (h2 k f).1⟩
  · rcases lkp_append hi with hi | ⟨_, hi⟩
    · rcases lkp_append hj with hj | ⟨_, hj⟩
      · exact H2.own.2 i j h h' k hi hj hij f f'
      · have h1 := ((old hj).2 k f').2
        rcases (H2.own.1 i h hi).2 k f with h3 | h3
        · exact h3.elim
        · have h3 : w.heap.size ≤ k := h3
          omega
    · rcases lkp_append hj with hj | ⟨_, hj⟩
      · have h1 := ((old hi).2 k f).2
        rcases (H2.own.1 j h' hj).2 k f' with h3 | h3
        · exact h3.elim
        · have h3 : w.heap.size ≤ k := h3
          omega
      · exact H.own.2 i j h h' k hi hj hij ((old hi).2 k f).1 ((old hj).2 k f').1

/-! ### Quiet operations -/
theorem settled_iff {v : SV} {K : Prop} (h : settled v K) : Det v ∧ K := by
  cases v with
  | agg cs =>
    simp only [settled] at h
    split at h
    · rename_i e; exact ⟨Det.of (by simpa only [detV] using e), h⟩
    · exact ⟨h.p, h.k⟩
  | tup cs =>
    simp only [settled] at h
    split at h
    · rename_i e; exact ⟨Det.of (by simpa only [detV] using e), h⟩
    · exact ⟨h.p, h.k⟩
  | _ => first | exact ⟨h.p, h.k⟩ | exact ⟨Det.of rfl, h⟩
theorem stepQ_yields {P : Program} {C' : Cx} (hT : TabOK P C'.T) {N : World → Prop} {o : Oper} {a : Act} {fr : Fr} {nx N0 : Nat} {K : SV → Prop} (hf : FrOK η a fr)
    (hN : ∀ w', N w' → HeapOK ⟨P, C', w', fun _ => False, η⟩ η w' [] nx) (hw : N w) (h : stepQ N0 C' o fr nx K) :
    dstOk N0 o.dst = true ∧ ∃ u v, (∀ w', N w' → (execOp a.eval o).run P w' = .ok (.value u) w' ∨ ((execOp a.eval o).run P w' = .ok .skip w' ∧ u = undef)) ∧ Den η v u ∧ K v := by
  unfold stepQ at h
  split at h
  · exact h.out.elim
  rename_i hd
  refine ⟨hd, ?_⟩
  split at h
  · rename_i x ho
    split at h
    case h_2 => exact h.out.elim
    rename_i v hv
    exact ⟨a.eval x, v, fun w' _ => .inl (by simp [execOp, ho]), lookF_den hf hv, h⟩
  · rename_i x ho
    split at h
    case h_2 => exact h.out.elim
    rename_i v hv
    exact ⟨a.eval x, v, fun w' _ => .inl (by simp [execOp, ho]), lookF_den hf hv, h⟩
  · split at h
    · exact h.out.elim
    rename_i hst
    obtain ⟨v, hok, h⟩ := Res.gv_ok h
    obtain ⟨hdet, h⟩ := settled_iff h
    have one : ∀ w', N w' → ∃ u, ((execOp a.eval o).run P w' = .ok (.value u) w' ∨ ((execOp a.eval o).run P w' = .ok .skip w' ∧ u = undef)) ∧ Den η v u := by
      intro w' hw'
      have H := hN w' hw'
      obtain ⟨u, w'', η'', h1, h2, h3, h4, h5⟩ := op_sound (M := ⟨P, C', w', fun _ => False, η⟩) (w := w') (ρ := a.eval) ⟨H, hT, fun x sv hx => lookF_den hf hx⟩ o (hok [] nx)
      have he : η'' = η := (h2.eq_of_length (by rw [H.len, h3.len])).symm
      subst he
      have hww := h5 hst rfl
      subst hww
      exact ⟨u, h1, h4⟩
    obtain ⟨u, h1, h2⟩ := one w hw
    refine ⟨u, v, fun w' hw' => ?_, h2, h⟩
    obtain ⟨u', h3, h4⟩ := one w' hw'
    rw [hdet η u u' h2 h4]
    exact h3
end
end Go.Sx
/- Regions whose order is drawn: the walk in one order is sound for every order. Conditions: none. -/
set_option linter.unusedVariables false
set_option linter.unusedSimpArgs false
namespace Go.Sx
open Go
/-- Until one of these has come up, what stood in that world stands. -/
def SS (ks : List Nat) (wc : World) (l : Array Bool) (w : World) : Prop := (∀ k ∈ ks, l.getD k false = false) → agree wc w
section
variable {M : Mx} {ops : Array Oper} {Q : Exit → Act → World → Prop}
theorem killsOf_quiet {i m : Nat} {rest : Plan} (h : m ≠ 0) : killsOf (.take i m rest) = killsOf rest := by
  cases m with
  | zero => exact (h rfl).elim
  | succ m => rfl
theorem killsOf_kill {i : Nat} {rest : Plan} : killsOf (.take i 0 rest) = i :: killsOf rest := rfl
theorem getD_false_of_true {l : Array Bool} {i : Nat} (h : l.getD i true = false) : l.getD i false = false := by
  rcases Nat.lt_or_ge i l.size with h' | h'
  · simp [h'] at h ⊢; exact h
  · simp [Array.getElem?_eq_none h'] at h
theorem models_put {η : Env} {fr : Fr} {O : Hps} {nx : Nat} {a : Act} {w : World} (hm : Models M η fr O nx a w) {o : Oper} (hd : dstOk M.C.N o.dst = true) {u : Value} {v : SV} (hv : Den η v u) {Kp : Fr → Prop} (hk : putK o.dst v fr Kp) :
    ∃ fr', Kp fr' ∧ Models M η fr' O nx (a.put o.dst u) w := hm.put hd List.prefix_rfl hm.heap hv hk
/-- A quiet operation, taken first. -/
theorem quiet_first (hQ : ∀ c a w, ¬ Q (.panic c) a w) (hs : Region.noSelect ops = true) {i n : Nat} {o : Oper} {l : Array Bool} {ks : List Nat} (ho : ops[i]? = some o) (hready : i ∈ Region.ready .any ops l) (hfree : Region.free .any ops l i = true) (hne : ∀ k ∈ ks, k ≠ i) (hc : Closed .any ops l)
    {N : World → Prop} {wc : World} (hN : ∀ l w, Closed .any ops l → l.getD i true = false → SS ks wc l w → N w) {a : Act} {w : World} {u : Value} (hy : YieldsN M.P ops N o u a) (hag : agree wc w)
    (h : wpH M.P .any ops Q (SS ks wc) n (l.setIfInBounds i true) (a.put o.dst u) w) : wpH M.P .any ops Q (SS ks wc) (n + 1) l a w := by
  refine wpH_first ho (Region.noSelect_spec hs) (fun c a w hq => (hQ _ _ _ hq).elim) hN (fun l' w' hc' hun hr hS hk => hS fun k hk' => ?_) n l a w hc (Region.free_spec ho hfree) hready hy (fun _ => hag) (fun _ => hag) h
  rw [getD_set_ne false (Ne.symm (hne k hk'))]; exact hk k hk'
theorem HeapOK.drawn {η : Env} {w : World} {O : Hps} {nx : Nat} (H : HeapOK M η w O nx) {n : Nat} (hn : w.drawn ≤ n) : HeapOK M η { w with drawn := n } O nx :=
  ⟨H.pre, H.len, H.own.still rfl, ⟨H.fr.os, H.fr.tape, H.fr.output, Nat.le_trans H.fr.drawn hn, H.fr.size, H.fr.block⟩, H.sok⟩
theorem modeOK_of {m : Nat} (h : modeOK m = true) : m = 0 ∨ m = 3 := by
  unfold modeOK at h
  simpa using h
theorem killIf_mem {i m : Nat} {l : List Nat} {x : Nat} (h : x ∈ l) : x ∈ killIf i m l := by
  cases m with
  | zero => exact List.mem_cons_of_mem _ h
  | succ m => exact h
theorem killIf_self {i : Nat} {l : List Nat} : i ∈ killIf i 0 l := List.mem_cons_self ..
/-- One operation, in a mode that may write or in one that adds: whatever comes of it. -/
theorem oneD_op (hT : TabOK M.P M.C.T) {i m : Nat} (hmode : m = 0 ∨ m = 3) {fr : Fr} {O : Hps} {nx : Nat} {Kn : Fr → Hps → Nat → Prop} (h : oneD M ops.toList i m fr O nx Kn) {η : Env} {a : Act} {w : World} (hm : Models M η fr O nx a w) {R : Act → World → Prop}
    (hR : ∀ {fr : Fr} {O : Hps} {nx : Nat} {η : Env} {a : Act} {w' : World}, Kn fr O nx → Models M η fr O nx a w' → (m = 3 → agree w w') → R a w') : wpOp M.P ops Q i R a w := by
  unfold oneD at h
  split at h
  · exact h.out.elim
  rename_i o ho
  have ho : ops[i]? = some o := by rw [nth_get] at ho; simpa using ho
  have skip : ∀ {fr' : Fr}, Models M η fr' O nx a w → Region.wanted o (yielded ops a.tmps) ≠ true → (match dstOk M.C.N o.dst with | true => putK o.dst undefS fr' fun fr => Kn fr O nx | false => STOP "slot") → wpOp M.P ops Q i R a w := by
    intro fr' hm' hw h
    split at h
    case h_2 => exact h.out.elim
    rename_i hd
    obtain ⟨fr2, h1, h2⟩ := models_put hm' hd (denNone η) h
    unfold wpOp
    simp only [ho]
    rw [if_neg hw]; exact hR h1 h2 fun _ => agree.refl w
  have go : ∀ {fr' : Fr}, Models M η fr' O nx a w → Region.wanted o (yielded ops a.tmps) = true → (carry M m o fr' O nx fun v O nx => putK o.dst v fr' fun fr => Kn fr O nx) → wpOp M.P ops Q i R a w := by
    intro fr' hm' hw h
    unfold wpOp
    simp only [ho]
    rw [if_pos hw]
    rcases hmode with rfl | rfl
    · have h : stepO M o (lookF fr') O nx fun v O nx => putK o.dst v fr' fun fr => Kn fr O nx := h
      refine .inl (stepO_wp hT hm' (fun x sv hx => lookF_den hm'.frame hx) h fun u v O' nx' η' w' hd hp hH hv hk => ?_)
      obtain ⟨fr2, h1, h2⟩ := hm'.put hd hp hH hv hk
      exact hR h1 h2 fun h => by cases h
    · have h : ADD M o fr' O nx fun v O nx => putK o.dst v fr' fun fr => Kn fr O nx := h
      have hm2 : Models (shMx M O η w) η fr' [] nx a w := ⟨hm'.heap.read (agree.refl w), hm'.size, hm'.defers, hm'.frame⟩
      refine .inl (stepO_wp (M := shMx M O η w) hT hm2 (fun x sv hx => lookF_den hm'.frame hx) (h.out η w) fun u v O2 nx2 η' w' hd hp hH hv hk => ?_)
      obtain ⟨hJ, hag2⟩ := hm'.heap.join hH
      obtain ⟨fr2, h1, h2⟩ := hm'.put hd hp hJ hv hk
      exact hR h1 h2 fun _ => hag2
  split at h
  · rename_i hg
    exact go hm (wanted_none hg) h
  · rename_i j want hg
    split at h
    · exact h.out.elim
    rename_i s hsl
    split at h
    · rename_i b hb
      have hbv := denBool (hm.frame s _ hb)
      have hy := yielded_of hsl hbv
      cases b with
      | true =>
        have h := h.t rfl
        have hm' : Models M η ((s, .bool true) :: fr) O nx a w := ⟨hm.heap, hm.size, hm.defers, hm.frame.know hbv⟩
        cases want with
        | true => exact go hm' ((wanted_some hg).2 hy) h
        | false => exact skip hm' (fun hw => by rw [wanted_some hg, hy] at hw; cases hw) h
      | false =>
        have h := h.f rfl
        have hm' : Models M η ((s, .bool false) :: fr) O nx a w := ⟨hm.heap, hm.size, hm.defers, hm.frame.know hbv⟩
        cases want with
        | false => exact go hm' ((wanted_some hg).2 hy) h
        | true => exact skip hm' (fun hw => by rw [wanted_some hg, hy] at hw; cases hw) h
    · rename_i hb
      have hbv := hm.frame s _ hb
      simp only [Den, DenL] at hbv
      obtain ⟨vs, hbv, rfl⟩ := hbv
      exact skip hm (fun hw => by rw [wanted_some hg] at hw; exact yielded_not hsl (by rw [hbv]; simp) hw) h
    · exact h.out.elim
/-- One arm of a fork. -/
theorem arm (hT : TabOK M.P M.C.T) {fk t : Plan} {d : Nat} {fr : Fr} {O : Hps} {nx : Nat} {K : Fr → Hps → Nat → Prop} {η : Env} {a : Act} {w wc : World} {l : Array Bool} (hm : Models M η fr O nx a w) (hag : agree wc w) (hc : Closed .any ops l)
    {x m : Nat} (hmo : modeOK m = true) (hx : x ∈ Region.ready .any ops l) (hxk : m = 0 → x ∈ killsOf fk) (hsub : ∀ k ∈ killsOf t, k ∈ killsOf fk) (hd : t.depth = d)
    (ih : ∀ {fr : Fr} {O : Hps} {nx : Nat} {η : Env} {a : Act} {w wc : World}, runD M ops.toList t fr O nx K → Models M η fr O nx a w → agree wc w → wpH M.P .any ops Q (SS (killsOf t) wc) t.depth (l.setIfInBounds x true) a w)
    (hrun : oneD M ops.toList x m fr O nx fun fr O nx => runD M ops.toList t fr O nx K) :
    wpOp M.P ops Q x (fun a' w' => SS (killsOf fk) wc (l.setIfInBounds x true) w' ∧ wpH M.P .any ops Q (SS (killsOf fk) wc) d (l.setIfInBounds x true) a' w') a w := by
  have hin : x < l.size := by
    obtain ⟨h1, o, ho, _⟩ := mem_ready.1 hx
    rw [hc.1]; exact (Array.getElem?_eq_some_iff.1 ho).1
  have hset : (l.setIfInBounds x true).getD x false = true := by simp [hin]
  refine oneD_op hT (modeOK_of hmo) hrun hm fun {fr O nx η a w'} hk hm' hag' => ?_
  rcases modeOK_of hmo with h0 | h3
  · have hno : ∀ l' w', Grows (l.setIfInBounds x true) l' → SS (killsOf fk) wc l' w' := by
      intro l' w' hg hk
      have h1 := hk x (hxk h0)
      rw [hg x hset] at h1; cases h1
    refine ⟨hno _ _ (fun _ h => h), ?_⟩
    have := ih hk hm' (agree.refl _)
    rw [hd] at this
    exact wpH_mono (l0 := l.setIfInBounds x true) (fun l' w' hg _ => hno l' w' hg) _ _ _ _ (fun _ h => h) this
  · have hag2 : agree wc w' := hag.trans (hag' h3)
    refine ⟨fun _ => hag2, ?_⟩
    have := ih hk hm' hag2
    rw [hd] at this
    exact wpH_mono (l0 := l.setIfInBounds x true) (fun l' w'' hg hS hk => hS fun k hkt => hk k (hsub k hkt)) _ _ _ _ (fun _ h => h) this
theorem runD_sound (hT : TabOK M.P M.C.T) (hQ : ∀ c a w, ¬ Q (.panic c) a w) (hs : Region.noSelect ops = true) : ∀ (steps : Plan) {fr : Fr} {O : Hps} {nx : Nat} {K : Fr → Hps → Nat → Prop}, runD M ops.toList steps fr O nx K →
    ∀ {l : Array Bool}, stepsOK ops (masks ops.toList []) steps l = true → Closed .any ops l → ∀ {η : Env} {a : Act} {w : World}, Models M η fr O nx a w → (∀ η fr O nx a w, Models M η fr O nx a w → K fr O nx → Q .normal a w) →
    ∀ {wc : World}, agree wc w → wpH M.P .any ops Q (SS (killsOf steps) wc) steps.depth l a w
  | .nil, fr, O, nx, K, h, l, hl, hc, η, a, w, hm, hq, wc, hag => by
    simp only [stepsOK, List.isEmpty_iff] at hl
    exact ⟨hl, hq η fr O nx a w hm h⟩
  | .take i m rest, fr, O, nx, K, h, l, hl, hc, η, a, w, hm, hq, wc, hag => by
    have IH := @runD_sound hT hQ hs rest
    unfold runD oneD at h
    split at h
    · exact h.out.elim
    rename_i o ho
    have ho : ops[i]? = some o := by rw [nth_get] at ho; simpa using ho
    simp only [stepsOK, Bool.and_eq_true] at hl
    obtain ⟨hl1, hl2⟩ := hl
    have hready : i ∈ Region.ready .any ops l := by
      revert hl1
      split <;> intro hl1
      · rw [beq_iff_eq.1 hl1]; exact List.mem_singleton.2 rfl
      · simp only [Bool.and_eq_true] at hl1; simpa using hl1.1.1
      · simp only [Bool.and_eq_true] at hl1; simpa using hl1.1.1
      · rw [beq_iff_eq.1 hl1]; exact List.mem_singleton.2 rfl
    have hc' := hc.set hready
    have hin : i < l.size := by rw [hc.1]; exact (Array.getElem?_eq_some_iff.1 ho).1
    have hset : (l.setIfInBounds i true).getD i false = true := by simp [hin]
    have modes : ∀ {p : Prop}, (m = 0 → p) → (m = 1 → p) → (m = 2 → p) → (3 ≤ m → p) → p := by
      intro p h0 h1 h2 h3
      match m, h0, h1, h2, h3 with
      | 0, h0, _, _, _ => exact h0 rfl
      | 1, _, h1, _, _ => exact h1 rfl
      | 2, _, _, h2, _ => exact h2 rfl
      | m + 3, _, _, _, h3 => exact h3 (by omega)
    -- an operation that waits for nobody's leave: but this one may come up
    have alone : Region.ready .any ops l = [i] → ∀ {a : Act} {w : World}, agree wc w → wpOp M.P ops Q i (fun a' w' => SS (killsOf (.take i m rest)) wc (l.setIfInBounds i true) w' ∧ wpH M.P .any ops Q (SS (killsOf (.take i m rest)) wc) rest.depth (l.setIfInBounds i true) a' w') a w →
        wpH M.P .any ops Q (SS (killsOf (.take i m rest)) wc) (Plan.take i m rest).depth l a w := fun hr a w hag h => wpH_one hr h
    -- what follows an operation that writes
    have afterKill : m = 0 → ∀ {fr : Fr} {O : Hps} {nx : Nat} {η : Env} {a : Act} {w : World}, runD M ops.toList rest fr O nx K → Models M η fr O nx a w →
        SS (killsOf (.take i m rest)) wc (l.setIfInBounds i true) w ∧ wpH M.P .any ops Q (SS (killsOf (.take i m rest)) wc) rest.depth (l.setIfInBounds i true) a w := by
      intro h0 fr O nx η a w hrun hm
      subst h0
      rw [killsOf_kill]
      have hno : ∀ l' w', Grows (l.setIfInBounds i true) l' → SS (i :: killsOf rest) wc l' w' := by
        intro l' w' hg hk
        have h1 := hk i (List.mem_cons_self ..)
        rw [hg i hset] at h1; cases h1
      exact ⟨hno _ _ (fun _ h => h), wpH_mono (l0 := l.setIfInBounds i true) (fun l' w' hg _ => hno l' w' hg) _ _ _ _ (fun _ h => h) (IH hrun hl2 hc' hm hq (agree.refl w))⟩
    -- what follows one that does not
    have afterElse : m ≠ 0 → ∀ {fr : Fr} {O : Hps} {nx : Nat} {η : Env} {a : Act} {w : World}, runD M ops.toList rest fr O nx K → Models M η fr O nx a w → agree wc w →
        SS (killsOf (.take i m rest)) wc (l.setIfInBounds i true) w ∧ wpH M.P .any ops Q (SS (killsOf (.take i m rest)) wc) rest.depth (l.setIfInBounds i true) a w := by
      intro h0 fr O nx η a w hrun hm hag
      rw [killsOf_quiet h0]
      exact ⟨fun _ => hag, IH hrun hl2 hc' hm hq hag⟩
    have quiet1 : m = 1 → Region.free .any ops l i = true ∧ ∀ k ∈ killsOf rest, k ≠ i := by
      intro h1; subst h1
      simp only [Bool.and_eq_true, List.all_eq_true, bne_iff_ne] at hl1
      exact ⟨hl1.1.2, hl1.2⟩
    have quiet2 : m = 2 → Region.free .any ops l i = true ∧ ∀ k ∈ killsOf rest, k ≠ i ∧ ((masks ops.toList []).getD k 0).testBit i = true := by
      intro h1; subst h1
      simp only [Bool.and_eq_true, List.all_eq_true, bne_iff_ne] at hl1
      exact ⟨hl1.1.2, hl1.2⟩
    have alone0 : m = 0 → Region.ready .any ops l = [i] := by intro h1; subst h1; exact beq_iff_eq.1 hl1
    have alone3 : 3 ≤ m → Region.ready .any ops l = [i] := by
      intro h1
      match m, h1, hl1 with
      | m + 3, _, hl1 => exact beq_iff_eq.1 hl1
    -- it is passed over
    have skip : ∀ {fr' : Fr}, Models M η fr' O nx a w → Region.wanted o (yielded ops a.tmps) ≠ true → (match dstOk M.C.N o.dst with | true => putK o.dst undefS fr' fun fr => runD M ops.toList rest fr O nx K | false => STOP "slot") →
        wpH M.P .any ops Q (SS (killsOf (.take i m rest)) wc) (Plan.take i m rest).depth l a w := by
      intro fr' hm' hw h
      split at h
      case h_2 => exact h.out.elim
      rename_i hd
      obtain ⟨fr2, h1, h2⟩ := models_put hm' hd (denNone η) h
      have hwf : Region.wanted o (yielded ops a.tmps) = false := by simpa using hw
      have op : ∀ {K' : Act → World → Prop}, K' (a.put o.dst undef) w → wpOp M.P ops Q i K' a w := by
        intro K' hk
        unfold wpOp
        simp only [ho]
        rw [if_neg hw]; exact hk
      refine modes (fun h0 => alone (alone0 h0) hag (op (afterKill h0 h1 h2))) (fun h0 => ?_) (fun h0 => ?_) (fun h0 => alone (alone3 h0) hag (op (afterElse (by omega) h1 h2 hag)))
      · have hn : m ≠ 0 := by omega
        have := (afterElse hn h1 h2 hag).2
        rw [killsOf_quiet hn] at this ⊢
        exact quiet_first hQ hs ho hready (quiet1 h0).1 (quiet1 h0).2 hc (N := fun _ => True) (fun _ _ _ _ _ => trivial) (.inr ⟨hwf, rfl⟩) hag this
      · have hn : m ≠ 0 := by omega
        have := (afterElse hn h1 h2 hag).2
        rw [killsOf_quiet hn] at this ⊢
        exact quiet_first hQ hs ho hready (quiet2 h0).1 (fun k hk => ((quiet2 h0).2 k hk).1) hc (N := fun _ => True) (fun _ _ _ _ _ => trivial) (.inr ⟨hwf, rfl⟩) hag this
    -- it is carried out
    have go : ∀ {fr' : Fr}, Models M η fr' O nx a w → Region.wanted o (yielded ops a.tmps) = true → (carry M m o fr' O nx fun v O nx => putK o.dst v fr' fun fr => runD M ops.toList rest fr O nx K) →
        wpH M.P .any ops Q (SS (killsOf (.take i m rest)) wc) (Plan.take i m rest).depth l a w := by
      intro fr' hm' hw h
      have op : ∀ {K' : Act → World → Prop}, o.wp M.P a w K' Q → wpOp M.P ops Q i K' a w := by
        intro K' hk
        unfold wpOp
        simp only [ho]
        rw [if_pos hw]; exact .inl hk
      refine modes (fun h0 => ?_) (fun h0 => ?_) (fun h0 => ?_) (fun h0 => ?_)
      · have h : stepO M o (lookF fr') O nx fun v O nx => putK o.dst v fr' fun fr => runD M ops.toList rest fr O nx K := by subst h0; exact h
        refine alone (alone0 h0) hag (op (stepO_wp hT hm' (fun x sv hx => lookF_den hm'.frame hx) h fun u v O' nx' η' w' hd hp hH hv hk => ?_))
        obtain ⟨fr2, h1, h2⟩ := hm'.put hd hp hH hv hk
        exact afterKill h0 h1 h2
      · have h : stepQ M.C.N (cxBlind M.C) o fr' nx fun v => putK o.dst v fr' fun fr => runD M ops.toList rest fr O nx K := by subst h0; exact h
        obtain ⟨hd, u, v, hy, hv, hk⟩ := stepQ_yields (P := M.P) (C' := cxBlind M.C) ⟨hT.und, hT.info, hT.zero, hT.zsh, hT.flat⟩ (N := fun _ => True) (w := w) hm'.frame (fun w' _ => HeapOK.blind (M := M) hm'.heap.len w') trivial h
        obtain ⟨fr2, h1, h2⟩ := models_put hm' hd hv hk
        have hn : m ≠ 0 := by omega
        have := (afterElse hn h1 h2 hag).2
        rw [killsOf_quiet hn] at this ⊢
        exact quiet_first hQ hs ho hready (quiet1 h0).1 (quiet1 h0).2 hc (N := fun _ => True) (fun _ _ _ _ _ => trivial) (.inl ⟨hw, fun w' h => hy w' h⟩) hag this
      · have h : stepQ M.C.N (cxRead M.C O) o fr' nx fun v => putK o.dst v fr' fun fr => runD M ops.toList rest fr O nx K := by subst h0; exact h
        obtain ⟨hd, u, v, hy, hv, hk⟩ := stepQ_yields (P := M.P) (C' := cxRead M.C O) hT (N := agree w) hm'.frame (fun w' h => hm'.heap.read h) (agree.refl w) h
        obtain ⟨fr2, h1, h2⟩ := models_put hm' hd hv hk
        have hn : m ≠ 0 := by omega
        have := IH h1 hl2 hc' h2 hq (agree.refl w)
        rw [killsOf_quiet hn]
        refine wpH_mono (S' := SS (killsOf rest) w) (l0 := l) (fun l' w' _ hS hk => hag.trans (hS hk)) _ _ _ _ (fun _ h => h) ?_
        refine quiet_first hQ hs ho hready (quiet2 h0).1 (fun k hk => ((quiet2 h0).2 k hk).1) hc (N := agree w) (fun l' w' hcl hun hS => hS fun k hk => ?_) (.inl ⟨hw, fun w' h => hy w' h⟩) (agree.refl w) this
        cases hlk : l'.getD k false with
        | false => rfl
        | true =>
          have := waits_closed hcl k ((quiet2 h0).2 k hk).2 hlk
          rw [getD_false_of_true hun] at this; cases this
      · have h : ADD M o fr' O nx fun v O nx => putK o.dst v fr' fun fr => runD M ops.toList rest fr O nx K := by
          match m, h0, h with
          | m + 3, _, h => exact h
        have hm2 : Models (shMx M O η w) η fr' [] nx a w := ⟨hm'.heap.read (agree.refl w), hm'.size, hm'.defers, hm'.frame⟩
        refine alone (alone3 h0) hag (op (stepO_wp (M := shMx M O η w) hT hm2 (fun x sv hx => lookF_den hm'.frame hx) (h.out η w) fun u v O2 nx2 η' w' hd hp hH hv hk => ?_))
        obtain ⟨hJ, hag2⟩ := hm'.heap.join hH
        obtain ⟨fr2, h1, h2⟩ := hm'.put hd hp hJ hv hk
        exact afterElse (by omega) h1 h2 (hag.trans hag2)
    split at h
    · rename_i hg
      exact go hm (wanted_none hg) h
    · rename_i j want hg
      split at h
      · exact h.out.elim
      rename_i s hsl
      split at h
      · rename_i b hb
        have hbv := denBool (hm.frame s _ hb)
        have hy := yielded_of hsl hbv
        cases b with
        | true =>
          have h := h.t rfl
          have hm' : Models M η ((s, .bool true) :: fr) O nx a w := ⟨hm.heap, hm.size, hm.defers, hm.frame.know hbv⟩
          cases want with
          | true => exact go hm' ((wanted_some hg).2 hy) h
          | false => exact skip hm' (fun hw => by rw [wanted_some hg, hy] at hw; cases hw) h
        | false =>
          have h := h.f rfl
          have hm' : Models M η ((s, .bool false) :: fr) O nx a w := ⟨hm.heap, hm.size, hm.defers, hm.frame.know hbv⟩
          cases want with
          | false => exact go hm' ((wanted_some hg).2 hy) h
          | true => exact skip hm' (fun hw => by rw [wanted_some hg, hy] at hw; cases hw) h
      · rename_i hb
        have hbv := hm.frame s _ hb
        simp only [Den, DenL] at hbv
        obtain ⟨vs, hbv, rfl⟩ := hbv
        exact skip hm (fun hw => by rw [wanted_some hg] at hw; exact yielded_not hsl (by rw [hbv]; simp) hw) h
      · exact h.out.elim
  | .fork i mi j mj p q, fr, O, nx, K, h, l, hl, hc, η, a, w, hm, hq, wc, hag => by
    simp only [stepsOK, Bool.and_eq_true, beq_iff_eq] at hl
    obtain ⟨⟨⟨⟨⟨hr, hmi⟩, hmj⟩, hdep⟩, hlp⟩, hlq⟩ := hl
    unfold runD at h
    have hi : i ∈ Region.ready .any ops l := by rw [hr]; simp
    have hj : j ∈ Region.ready .any ops l := by rw [hr]; simp
    refine ⟨fun h0 => (by rw [hr] at h0; cases h0), fun x hx => ?_⟩
    rw [hr] at hx
    rcases List.mem_cons.1 hx with rfl | hx
    · exact arm hT hm hag hc hmi hi (fun h0 => by subst h0; exact killIf_self) (fun k hk => killIf_mem (killIf_mem (List.mem_append_left _ hk))) rfl (fun hk hm' hag => runD_sound hT hQ hs p hk hlp (hc.set hi) hm' hq hag) h.a
    · have hx := List.mem_singleton.1 hx
      subst hx
      exact arm hT hm hag hc hmj hj (fun h0 => by subst h0; exact killIf_mem killIf_self) (fun k hk => killIf_mem (killIf_mem (List.mem_append_right _ hk))) hdep.symm (fun hk hm' hag => runD_sound hT hQ hs q hk hlq (hc.set hj) hm' hq hag) h.b
  | .fork3 i mi j mj k mk p q r, fr, O, nx, K, h, l, hl, hc, η, a, w, hm, hq, wc, hag => by
    simp only [stepsOK, Bool.and_eq_true, beq_iff_eq] at hl
    obtain ⟨⟨⟨⟨⟨⟨⟨⟨hr, hmi⟩, hmj⟩, hmk⟩, hdep⟩, hdep2⟩, hlp⟩, hlq⟩, hlr⟩ := hl
    unfold runD at h
    have hi : i ∈ Region.ready .any ops l := by rw [hr]; simp
    have hj : j ∈ Region.ready .any ops l := by rw [hr]; simp
    have hk' : k ∈ Region.ready .any ops l := by rw [hr]; simp
    refine ⟨fun h0 => (by rw [hr] at h0; cases h0), fun x hx => ?_⟩
    rw [hr] at hx
    rcases List.mem_cons.1 hx with rfl | hx
    · exact arm hT hm hag hc hmi hi (fun h0 => by subst h0; exact killIf_self) (fun k hk => killIf_mem (killIf_mem (killIf_mem (List.mem_append_left _ hk)))) rfl (fun hk hm' hag => runD_sound hT hQ hs p hk hlp (hc.set hi) hm' hq hag) h.a
    · rcases List.mem_cons.1 hx with rfl | hx
      · exact arm hT hm hag hc hmj hj (fun h0 => by subst h0; exact killIf_mem killIf_self) (fun k hk => killIf_mem (killIf_mem (killIf_mem (List.mem_append_right _ (List.mem_append_left _ hk))))) hdep.symm (fun hk hm' hag => runD_sound hT hQ hs q hk hlq (hc.set hj) hm' hq hag) h.b.a
      · have hx := List.mem_singleton.1 hx
        subst hx
        exact arm hT hm hag hc hmk hk' (fun h0 => by subst h0; exact killIf_mem (killIf_mem killIf_self)) (fun k hk => killIf_mem (killIf_mem (killIf_mem (List.mem_append_right _ (List.mem_append_right _ hk))))) hdep2.symm (fun hk hm' hag => runD_sound hT hQ hs r hk hlr (hc.set hk') hm' hq hag) h.b.b
/-- A region whose order is drawn: it is walked in one order. -/
theorem DRAWN.of {M : Mx} (hT : TabOK M.P M.C.T) (hP : M.P.follows .mixedOrders = true) {id : Nat} {ops : Array Oper} {fr : Fr} {O : Hps} {nx : Nat} {Q : Post} (steps : Plan) (hord : orderOK ops steps = true)
    (h : runD M ops.toList steps fr O nx fun fr O nx => Q .normal fr O nx) : DRAWN M id ops fr O nx Q := by
  simp only [orderOK, Bool.and_eq_true, beq_iff_eq] at hord
  obtain ⟨⟨hs, hlen⟩, hord⟩ := hord
  refine ⟨fun η a w hm => wp_region_any hP (wpAny_of_wpH (S := SS (killsOf steps) { w with drawn := w.drawn + 1 }) _ _ _ _ ?_)⟩
  have hm' : Models M η fr O nx a { w with drawn := w.drawn + 1 } := ⟨hm.heap.drawn (Nat.le_succ _), hm.size, hm.defers, hm.frame⟩
  have hc0 : Closed .any ops (Array.replicate ops.size false) := by
    refine ⟨by simp, fun j o hj hl => ?_⟩
    rcases Nat.lt_or_ge j ops.size with h' | h'
    · simp [h'] at hl
    · simp [h'] at hl
  have key := runD_sound (Q := liftQ M Q) hT (fun c a w hq => hq) hs steps h hord hc0 hm' (fun η fr O nx a w hm hq => ⟨η, fr, O, nx, hm, hq⟩) (agree.refl _)
  rw [hlen] at key
  exact key
end
end Go.Sx
/- What the engine knows of the types of this program. Made by gen_tab.py. Conditions: none. -/
set_option maxRecDepth 100000
namespace Go.Proofs.YtpffclpheldabaaGreatDoor
open Go.Sx
def tabSh (t : TypeId) : Sh := match Nat.ble t 221 with | true => (match Nat.ble t 110 with | true => (match Nat.ble t 54 with | true => (match Nat.ble t 26 with | true => (match Nat.ble t 12 with | true => (match Nat.ble t 5 with | true => (match Nat.ble t 2 with | true => (match Nat.ble t 0 with | true => .plain | false => (match Nat.ble t 1 with | true => .func | false => .int .i64)) | false => (match Nat.ble t 3 with | true => .int .i64 | false => (match Nat.ble t 4 with | true => .bool | false => .int .u8))) | false => (match Nat.ble t 8 with | true => (match Nat.ble t 6 with | true => .int .u8 | false => (match Nat.ble t 7 with | true => .struct [(0, 2), (1, 3), (2, 4), (3, 6)] | false => .struct [(0, 2), (1, 3), (2, 4), (3, 6)])) | false => (match Nat.ble t 10 with | true => (match Nat.ble t 9 with | true => .str | false => .str) | false => (match Nat.ble t 11 with | true => .str | false => .int .u64)))) | false => (match Nat.ble t 19 with | true => (match Nat.ble t 15 with | true => (match Nat.ble t 13 with | true => .struct [(0, 9), (1, 12)] | false => (match Nat.ble t 14 with | true => .struct [(0, 9), (1, 12)] | false => .ptr 210)) | false => (match Nat.ble t 17 with | true => (match Nat.ble t 16 with | true => .ptr 213 | false => .ptr 221) | false => (match Nat.ble t 18 with | true => .struct [(0, 17)] | false => .struct [(0, 17)]))) | false => (match Nat.ble t 22 with | true => (match Nat.ble t 20 with | true => .iface | false => (match Nat.ble t 21 with | true => .int .i32 | false => .slice 53)) | false => (match Nat.ble t 24 with | true => (match Nat.ble t 23 with | true => .func | false => .int .i64) | false => (match Nat.ble t 25 with | true => .plain | false => .func))))) | false => (match Nat.ble t 40 with | true => (match Nat.ble t 33 with | true => (match Nat.ble t 29 with | true => (match Nat.ble t 27 with | true => .plain | false => (match Nat.ble t 28 with | true => .func | false => .func)) | false => (match Nat.ble t 31 with | true => (match Nat.ble t 30 with | true => .func | false => .struct [(0, 3), (1, 9), (2, 9), (3, 9)]) | false => (match Nat.ble t 32 with | true => .struct [(0, 3), (1, 9), (2, 9), (3, 9)] | false => .plain))) | false => (match Nat.ble t 36 with | true => (match Nat.ble t 34 with | true => .func | false => (match Nat.ble t 35 with | true => .plain | false => .func)) | false => (match Nat.ble t 38 with | true => (match Nat.ble t 37 with | true => .func | false => .iface) | false => (match Nat.ble t 39 with | true => .iface | false => .plain)))) | false => (match Nat.ble t 47 with | true => (match Nat.ble t 43 with | true => (match Nat.ble t 41 with | true => .func | false => (match Nat.ble t 42 with | true => .struct [(0, 3), (1, 3)] | false => .struct [(0, 3), (1, 3)])) | false => (match Nat.ble t 45 with | true => (match Nat.ble t 44 with | true => .plain | false => .func) | false => (match Nat.ble t 46 with | true => .func | false => .plain))) | false => (match Nat.ble t 50 with | true => (match Nat.ble t 48 with | true => .func | false => (match Nat.ble t 49 with | true => .plain | false => .func)) | false => (match Nat.ble t 52 with | true => (match Nat.ble t 51 with | true => .func | false => .struct [(0, 32), (4, 32), (8, 32), (12, 32)]) | false => (match Nat.ble t 53 with | true => .struct [(0, 32), (4, 32), (8, 32), (12, 32)] | false => .func)))))) | false => (match Nat.ble t 82 with | true => (match Nat.ble t 68 with | true => (match Nat.ble t 61 with | true => (match Nat.ble t 57 with | true => (match Nat.ble t 55 with | true => .plain | false => (match Nat.ble t 56 with | true => .func | false => .func)) | false => (match Nat.ble t 59 with | true => (match Nat.ble t 58 with | true => .plain | false => .func) | false => (match Nat.ble t 60 with | true => .func | false => .func))) | false => (match Nat.ble t 64 with | true => (match Nat.ble t 62 with | true => .func | false => (match Nat.ble t 63 with | true => .func | false => .func)) | false => (match Nat.ble t 66 with | true => (match Nat.ble t 65 with | true => .func | false => .func) | false => (match Nat.ble t 67 with | true => .func | false => .plain)))) | false => (match Nat.ble t 75 with | true => (match Nat.ble t 71 with | true => (match Nat.ble t 69 with | true => .func | false => (match Nat.ble t 70 with | true => .func | false => .struct [(0, 3), (1, 3)])) | false => (match Nat.ble t 73 with | true => (match Nat.ble t 72 with | true => .struct [(0, 3), (1, 3)] | false => .plain) | false => (match Nat.ble t 74 with | true => .func | false => .plain))) | false => (match Nat.ble t 78 with | true => (match Nat.ble t 76 with | true => .func | false => (match Nat.ble t 77 with | true => .func | false => .ptr 80)) | false => (match Nat.ble t 80 with | true => (match Nat.ble t 79 with | true => .struct [(0, 3), (1, 39)] | false => .struct [(0, 3), (1, 39)]) | false => (match Nat.ble t 81 with | true => .func | false => .func))))) | false => (match Nat.ble t 96 with | true => (match Nat.ble t 89 with | true => (match Nat.ble t 85 with | true => (match Nat.ble t 83 with | true => .func | false => (match Nat.ble t 84 with | true => .func | false => .func)) | false => (match Nat.ble t 87 with | true => (match Nat.ble t 86 with | true => .array 4 32 | false => .func) | false => (match Nat.ble t 88 with | true => .func | false => .func))) | false => (match Nat.ble t 92 with | true => (match Nat.ble t 90 with | true => .func | false => (match Nat.ble t 91 with | true => .func | false => .ptr 95)) | false => (match Nat.ble t 94 with | true => (match Nat.ble t 93 with | true => .slice 5 | false => .struct [(0, 92), (1, 93)]) | false => (match Nat.ble t 95 with | true => .struct [(0, 92), (1, 93)] | false => .plain)))) | false => (match Nat.ble t 103 with | true => (match Nat.ble t 99 with | true => (match Nat.ble t 97 with | true => .func | false => (match Nat.ble t 98 with | true => .func | false => .func)) | false => (match Nat.ble t 101 with | true => (match Nat.ble t 100 with | true => .func | false => .func) | false => (match Nat.ble t 102 with | true => .func | false => .func))) | false => (match Nat.ble t 106 with | true => (match Nat.ble t 104 with | true => .func | false => (match Nat.ble t 105 with | true => .func | false => .func)) | false => (match Nat.ble t 108 with | true => (match Nat.ble t 107 with | true => .plain | false => .func) | false => (match Nat.ble t 109 with | true => .func | false => .func))))))) | false => (match Nat.ble t 165 with | true => (match Nat.ble t 137 with | true => (match Nat.ble t 123 with | true => (match Nat.ble t 116 with | true => (match Nat.ble t 113 with | true => (match Nat.ble t 111 with | true => .func | false => (match Nat.ble t 112 with | true => .int .u64 | false => .slice 3)) | false => (match Nat.ble t 114 with | true => .func | false => (match Nat.ble t 115 with | true => .func | false => .slice 9))) | false => (match Nat.ble t 119 with | true => (match Nat.ble t 117 with | true => .struct [(0, 9), (1, 9), (2, 9), (3, 9), (4, 116), (5, 116), (6, 9)] | false => (match Nat.ble t 118 with | true => .struct [(0, 9), (1, 9), (2, 9), (3, 9), (4, 116), (5, 116), (6, 9)] | false => .plain)) | false => (match Nat.ble t 121 with | true => (match Nat.ble t 120 with | true => .func | false => .func) | false => (match Nat.ble t 122 with | true => .plain | false => .func)))) | false => (match Nat.ble t 130 with | true => (match Nat.ble t 126 with | true => (match Nat.ble t 124 with | true => .func | false => (match Nat.ble t 125 with | true => .int .u64 | false => .func)) | false => (match Nat.ble t 128 with | true => (match Nat.ble t 127 with | true => .ptr 5 | false => .plain) | false => (match Nat.ble t 129 with | true => .func | false => .func))) | false => (match Nat.ble t 133 with | true => (match Nat.ble t 131 with | true => .plain | false => (match Nat.ble t 132 with | true => .func | false => .func)) | false => (match Nat.ble t 135 with | true => (match Nat.ble t 134 with | true => .func | false => .func) | false => (match Nat.ble t 136 with | true => .func | false => .func))))) | false => (match Nat.ble t 151 with | true => (match Nat.ble t 144 with | true => (match Nat.ble t 140 with | true => (match Nat.ble t 138 with | true => .func | false => (match Nat.ble t 139 with | true => .func | false => .func)) | false => (match Nat.ble t 142 with | true => (match Nat.ble t 141 with | true => .func | false => .func) | false => (match Nat.ble t 143 with | true => .ptr 146 | false => .func))) | false => (match Nat.ble t 147 with | true => (match Nat.ble t 145 with | true => .struct [(0, 116), (1, 118)] | false => (match Nat.ble t 146 with | true => .struct [(0, 116), (1, 118)] | false => .func)) | false => (match Nat.ble t 149 with | true => (match Nat.ble t 148 with | true => .func | false => .plain) | false => (match Nat.ble t 150 with | true => .func | false => .slice 24)))) | false => (match Nat.ble t 158 with | true => (match Nat.ble t 154 with | true => (match Nat.ble t 152 with | true => .plain | false => (match Nat.ble t 153 with | true => .func | false => .func)) | false => (match Nat.ble t 156 with | true => (match Nat.ble t 155 with | true => .plain | false => .func) | false => (match Nat.ble t 157 with | true => .ptr 160 | false => .func))) | false => (match Nat.ble t 161 with | true => (match Nat.ble t 159 with | true => .struct [(0, 116)] | false => (match Nat.ble t 160 with | true => .struct [(0, 116)] | false => .func)) | false => (match Nat.ble t 163 with | true => (match Nat.ble t 162 with | true => .ptr 118 | false => .func) | false => (match Nat.ble t 164 with | true => .func | false => .array 5 3)))))) | false => (match Nat.ble t 193 with | true => (match Nat.ble t 179 with | true => (match Nat.ble t 172 with | true => (match Nat.ble t 168 with | true => (match Nat.ble t 166 with | true => .plain | false => (match Nat.ble t 167 with | true => .func | false => .func)) | false => (match Nat.ble t 170 with | true => (match Nat.ble t 169 with | true => .array 28 3 | false => .func) | false => (match Nat.ble t 171 with | true => .func | false => .int .i64))) | false => (match Nat.ble t 175 with | true => (match Nat.ble t 173 with | true => .plain | false => (match Nat.ble t 174 with | true => .func | false => .func)) | false => (match Nat.ble t 177 with | true => (match Nat.ble t 176 with | true => .func | false => .func) | false => (match Nat.ble t 178 with | true => .func | false => .int .u32)))) | false => (match Nat.ble t 186 with | true => (match Nat.ble t 182 with | true => (match Nat.ble t 180 with | true => .func | false => (match Nat.ble t 181 with | true => .func | false => .func)) | false => (match Nat.ble t 184 with | true => (match Nat.ble t 183 with | true => .func | false => .func) | false => (match Nat.ble t 185 with | true => .func | false => .array 5 21))) | false => (match Nat.ble t 189 with | true => (match Nat.ble t 187 with | true => .func | false => (match Nat.ble t 188 with | true => .func | false => .int .u64)) | false => (match Nat.ble t 191 with | true => (match Nat.ble t 190 with | true => .func | false => .func) | false => (match Nat.ble t 192 with | true => .func | false => .ptr 3))))) | false => (match Nat.ble t 207 with | true => (match Nat.ble t 200 with | true => (match Nat.ble t 196 with | true => (match Nat.ble t 194 with | true => .func | false => (match Nat.ble t 195 with | true => .func | false => .func)) | false => (match Nat.ble t 198 with | true => (match Nat.ble t 197 with | true => .func | false => .array 24 21) | false => (match Nat.ble t 199 with | true => .ptr 189 | false => .func))) | false => (match Nat.ble t 203 with | true => (match Nat.ble t 201 with | true => .func | false => (match Nat.ble t 202 with | true => .func | false => .array 256 5)) | false => (match Nat.ble t 205 with | true => (match Nat.ble t 204 with | true => .struct [(0, 5), (1, 5)] | false => .struct [(0, 5), (1, 5)]) | false => (match Nat.ble t 206 with | true => .array 16 205 | false => .plain)))) | false => (match Nat.ble t 214 with | true => (match Nat.ble t 210 with | true => (match Nat.ble t 208 with | true => .func | false => (match Nat.ble t 209 with | true => .struct [(0, 17), (1, 17), (2, 17), (3, 9)] | false => .struct [(0, 17), (1, 17), (2, 17), (3, 9)])) | false => (match Nat.ble t 212 with | true => (match Nat.ble t 211 with | true => .array 0 16 | false => .struct [(0, 211)]) | false => (match Nat.ble t 213 with | true => .struct [(0, 211)] | false => .func))) | false => (match Nat.ble t 217 with | true => (match Nat.ble t 215 with | true => .int .u8 | false => (match Nat.ble t 216 with | true => .int .u8 | false => .func)) | false => (match Nat.ble t 219 with | true => (match Nat.ble t 218 with | true => .int .i32 | false => .int .i32) | false => (match Nat.ble t 220 with | true => .struct [(0, 12), (1, 12), (2, 179), (3, 215), (4, 5), (5, 5), (6, 216), (7, 217), (8, 127), (9, 218), (10, 219)] | false => .struct [(0, 12), (1, 12), (2, 179), (3, 215), (4, 5), (5, 5), (6, 216), (7, 217), (8, 127), (9, 218), (10, 219)])))))))) | false => .other
def tabSize (t : TypeId) : Nat := match Nat.ble t 221 with | true => (match Nat.ble t 110 with | true => (match Nat.ble t 54 with | true => (match Nat.ble t 26 with | true => (match Nat.ble t 12 with | true => (match Nat.ble t 5 with | true => (match Nat.ble t 2 with | true => (match Nat.ble t 0 with | true => 1 | false => (match Nat.ble t 1 with | true => 1 | false => 1)) | false => (match Nat.ble t 3 with | true => 1 | false => (match Nat.ble t 4 with | true => 1 | false => 1))) | false => (match Nat.ble t 8 with | true => (match Nat.ble t 6 with | true => 1 | false => (match Nat.ble t 7 with | true => 4 | false => 4)) | false => (match Nat.ble t 10 with | true => (match Nat.ble t 9 with | true => 1 | false => 1) | false => (match Nat.ble t 11 with | true => 1 | false => 1)))) | false => (match Nat.ble t 19 with | true => (match Nat.ble t 15 with | true => (match Nat.ble t 13 with | true => 2 | false => (match Nat.ble t 14 with | true => 2 | false => 1)) | false => (match Nat.ble t 17 with | true => (match Nat.ble t 16 with | true => 1 | false => 1) | false => (match Nat.ble t 18 with | true => 1 | false => 1))) | false => (match Nat.ble t 22 with | true => (match Nat.ble t 20 with | true => 1 | false => (match Nat.ble t 21 with | true => 1 | false => 1)) | false => (match Nat.ble t 24 with | true => (match Nat.ble t 23 with | true => 1 | false => 1) | false => (match Nat.ble t 25 with | true => 1 | false => 1))))) | false => (match Nat.ble t 40 with | true => (match Nat.ble t 33 with | true => (match Nat.ble t 29 with | true => (match Nat.ble t 27 with | true => 1 | false => (match Nat.ble t 28 with | true => 1 | false => 1)) | false => (match Nat.ble t 31 with | true => (match Nat.ble t 30 with | true => 1 | false => 4) | false => (match Nat.ble t 32 with | true => 4 | false => 1))) | false => (match Nat.ble t 36 with | true => (match Nat.ble t 34 with | true => 1 | false => (match Nat.ble t 35 with | true => 1 | false => 1)) | false => (match Nat.ble t 38 with | true => (match Nat.ble t 37 with | true => 1 | false => 1) | false => (match Nat.ble t 39 with | true => 1 | false => 1)))) | false => (match Nat.ble t 47 with | true => (match Nat.ble t 43 with | true => (match Nat.ble t 41 with | true => 1 | false => (match Nat.ble t 42 with | true => 2 | false => 2)) | false => (match Nat.ble t 45 with | true => (match Nat.ble t 44 with | true => 1 | false => 1) | false => (match Nat.ble t 46 with | true => 1 | false => 1))) | false => (match Nat.ble t 50 with | true => (match Nat.ble t 48 with | true => 1 | false => (match Nat.ble t 49 with | true => 1 | false => 1)) | false => (match Nat.ble t 52 with | true => (match Nat.ble t 51 with | true => 1 | false => 16) | false => (match Nat.ble t 53 with | true => 16 | false => 1)))))) | false => (match Nat.ble t 82 with | true => (match Nat.ble t 68 with | true => (match Nat.ble t 61 with | true => (match Nat.ble t 57 with | true => (match Nat.ble t 55 with | true => 1 | false => (match Nat.ble t 56 with | true => 1 | false => 1)) | false => (match Nat.ble t 59 with | true => (match Nat.ble t 58 with | true => 1 | false => 1) | false => (match Nat.ble t 60 with | true => 1 | false => 1))) | false => (match Nat.ble t 64 with | true => (match Nat.ble t 62 with | true => 1 | false => (match Nat.ble t 63 with | true => 1 | false => 1)) | false => (match Nat.ble t 66 with | true => (match Nat.ble t 65 with | true => 1 | false => 1) | false => (match Nat.ble t 67 with | true => 1 | false => 1)))) | false => (match Nat.ble t 75 with | true => (match Nat.ble t 71 with | true => (match Nat.ble t 69 with | true => 1 | false => (match Nat.ble t 70 with | true => 1 | false => 2)) | false => (match Nat.ble t 73 with | true => (match Nat.ble t 72 with | true => 2 | false => 1) | false => (match Nat.ble t 74 with | true => 1 | false => 1))) | false => (match Nat.ble t 78 with | true => (match Nat.ble t 76 with | true => 1 | false => (match Nat.ble t 77 with | true => 1 | false => 1)) | false => (match Nat.ble t 80 with | true => (match Nat.ble t 79 with | true => 2 | false => 2) | false => (match Nat.ble t 81 with | true => 1 | false => 1))))) | false => (match Nat.ble t 96 with | true => (match Nat.ble t 89 with | true => (match Nat.ble t 85 with | true => (match Nat.ble t 83 with | true => 1 | false => (match Nat.ble t 84 with | true => 1 | false => 1)) | false => (match Nat.ble t 87 with | true => (match Nat.ble t 86 with | true => 16 | false => 1) | false => (match Nat.ble t 88 with | true => 1 | false => 1))) | false => (match Nat.ble t 92 with | true => (match Nat.ble t 90 with | true => 1 | false => (match Nat.ble t 91 with | true => 1 | false => 1)) | false => (match Nat.ble t 94 with | true => (match Nat.ble t 93 with | true => 1 | false => 2) | false => (match Nat.ble t 95 with | true => 2 | false => 1)))) | false => (match Nat.ble t 103 with | true => (match Nat.ble t 99 with | true => (match Nat.ble t 97 with | true => 1 | false => (match Nat.ble t 98 with | true => 1 | false => 1)) | false => (match Nat.ble t 101 with | true => (match Nat.ble t 100 with | true => 1 | false => 1) | false => (match Nat.ble t 102 with | true => 1 | false => 1))) | false => (match Nat.ble t 106 with | true => (match Nat.ble t 104 with | true => 1 | false => (match Nat.ble t 105 with | true => 1 | false => 1)) | false => (match Nat.ble t 108 with | true => (match Nat.ble t 107 with | true => 1 | false => 1) | false => (match Nat.ble t 109 with | true => 1 | false => 1))))))) | false => (match Nat.ble t 165 with | true => (match Nat.ble t 137 with | true => (match Nat.ble t 123 with | true => (match Nat.ble t 116 with | true => (match Nat.ble t 113 with | true => (match Nat.ble t 111 with | true => 1 | false => (match Nat.ble t 112 with | true => 1 | false => 1)) | false => (match Nat.ble t 114 with | true => 1 | false => (match Nat.ble t 115 with | true => 1 | false => 1))) | false => (match Nat.ble t 119 with | true => (match Nat.ble t 117 with | true => 7 | false => (match Nat.ble t 118 with | true => 7 | false => 1)) | false => (match Nat.ble t 121 with | true => (match Nat.ble t 120 with | true => 1 | false => 1) | false => (match Nat.ble t 122 with | true => 1 | false => 1)))) | false => (match Nat.ble t 130 with | true => (match Nat.ble t 126 with | true => (match Nat.ble t 124 with | true => 1 | false => (match Nat.ble t 125 with | true => 1 | false => 1)) | false => (match Nat.ble t 128 with | true => (match Nat.ble t 127 with | true => 1 | false => 1) | false => (match Nat.ble t 129 with | true => 1 | false => 1))) | false => (match Nat.ble t 133 with | true => (match Nat.ble t 131 with | true => 1 | false => (match Nat.ble t 132 with | true => 1 | false => 1)) | false => (match Nat.ble t 135 with | true => (match Nat.ble t 134 with | true => 1 | false => 1) | false => (match Nat.ble t 136 with | true => 1 | false => 1))))) | false => (match Nat.ble t 151 with | true => (match Nat.ble t 144 with | true => (match Nat.ble t 140 with | true => (match Nat.ble t 138 with | true => 1 | false => (match Nat.ble t 139 with | true => 1 | false => 1)) | false => (match Nat.ble t 142 with | true => (match Nat.ble t 141 with | true => 1 | false => 1) | false => (match Nat.ble t 143 with | true => 1 | false => 1))) | false => (match Nat.ble t 147 with | true => (match Nat.ble t 145 with | true => 8 | false => (match Nat.ble t 146 with | true => 8 | false => 1)) | false => (match Nat.ble t 149 with | true => (match Nat.ble t 148 with | true => 1 | false => 1) | false => (match Nat.ble t 150 with | true => 1 | false => 1)))) | false => (match Nat.ble t 158 with | true => (match Nat.ble t 154 with | true => (match Nat.ble t 152 with | true => 1 | false => (match Nat.ble t 153 with | true => 1 | false => 1)) | false => (match Nat.ble t 156 with | true => (match Nat.ble t 155 with | true => 1 | false => 1) | false => (match Nat.ble t 157 with | true => 1 | false => 1))) | false => (match Nat.ble t 161 with | true => (match Nat.ble t 159 with | true => 1 | false => (match Nat.ble t 160 with | true => 1 | false => 1)) | false => (match Nat.ble t 163 with | true => (match Nat.ble t 162 with | true => 1 | false => 1) | false => (match Nat.ble t 164 with | true => 1 | false => 5)))))) | false => (match Nat.ble t 193 with | true => (match Nat.ble t 179 with | true => (match Nat.ble t 172 with | true => (match Nat.ble t 168 with | true => (match Nat.ble t 166 with | true => 1 | false => (match Nat.ble t 167 with | true => 1 | false => 1)) | false => (match Nat.ble t 170 with | true => (match Nat.ble t 169 with | true => 28 | false => 1) | false => (match Nat.ble t 171 with | true => 1 | false => 1))) | false => (match Nat.ble t 175 with | true => (match Nat.ble t 173 with | true => 1 | false => (match Nat.ble t 174 with | true => 1 | false => 1)) | false => (match Nat.ble t 177 with | true => (match Nat.ble t 176 with | true => 1 | false => 1) | false => (match Nat.ble t 178 with | true => 1 | false => 1)))) | false => (match Nat.ble t 186 with | true => (match Nat.ble t 182 with | true => (match Nat.ble t 180 with | true => 1 | false => (match Nat.ble t 181 with | true => 1 | false => 1)) | false => (match Nat.ble t 184 with | true => (match Nat.ble t 183 with | true => 1 | false => 1) | false => (match Nat.ble t 185 with | true => 1 | false => 5))) | false => (match Nat.ble t 189 with | true => (match Nat.ble t 187 with | true => 1 | false => (match Nat.ble t 188 with | true => 1 | false => 1)) | false => (match Nat.ble t 191 with | true => (match Nat.ble t 190 with | true => 1 | false => 1) | false => (match Nat.ble t 192 with | true => 1 | false => 1))))) | false => (match Nat.ble t 207 with | true => (match Nat.ble t 200 with | true => (match Nat.ble t 196 with | true => (match Nat.ble t 194 with | true => 1 | false => (match Nat.ble t 195 with | true => 1 | false => 1)) | false => (match Nat.ble t 198 with | true => (match Nat.ble t 197 with | true => 1 | false => 24) | false => (match Nat.ble t 199 with | true => 1 | false => 1))) | false => (match Nat.ble t 203 with | true => (match Nat.ble t 201 with | true => 1 | false => (match Nat.ble t 202 with | true => 1 | false => 256)) | false => (match Nat.ble t 205 with | true => (match Nat.ble t 204 with | true => 2 | false => 2) | false => (match Nat.ble t 206 with | true => 32 | false => 1)))) | false => (match Nat.ble t 214 with | true => (match Nat.ble t 210 with | true => (match Nat.ble t 208 with | true => 1 | false => (match Nat.ble t 209 with | true => 4 | false => 4)) | false => (match Nat.ble t 212 with | true => (match Nat.ble t 211 with | true => 0 | false => 0) | false => (match Nat.ble t 213 with | true => 0 | false => 1))) | false => (match Nat.ble t 217 with | true => (match Nat.ble t 215 with | true => 1 | false => (match Nat.ble t 216 with | true => 1 | false => 1)) | false => (match Nat.ble t 219 with | true => (match Nat.ble t 218 with | true => 1 | false => 1) | false => (match Nat.ble t 220 with | true => 11 | false => 11)))))))) | false => 0
def tabZero (t : TypeId) : List SV := match Nat.ble t 221 with | true => (match Nat.ble t 110 with | true => (match Nat.ble t 54 with | true => (match Nat.ble t 26 with | true => (match Nat.ble t 12 with | true => (match Nat.ble t 5 with | true => (match Nat.ble t 2 with | true => (match Nat.ble t 0 with | true => [] | false => (match Nat.ble t 1 with | true => [.val .nilFunc] | false => [.int .i64 (0)])) | false => (match Nat.ble t 3 with | true => [.int .i64 (0)] | false => (match Nat.ble t 4 with | true => [.bool false] | false => [.int .u8 (0)]))) | false => (match Nat.ble t 8 with | true => (match Nat.ble t 6 with | true => [.int .u8 (0)] | false => (match Nat.ble t 7 with | true => [.int .i64 (0), .int .i64 (0), .bool false, .int .u8 (0)] | false => [.int .i64 (0), .int .i64 (0), .bool false, .int .u8 (0)])) | false => (match Nat.ble t 10 with | true => (match Nat.ble t 9 with | true => [.str []] | false => [.str []]) | false => (match Nat.ble t 11 with | true => [.str []] | false => [.int .u64 (0)])))) | false => (match Nat.ble t 19 with | true => (match Nat.ble t 15 with | true => (match Nat.ble t 13 with | true => [.str [], .int .u64 (0)] | false => (match Nat.ble t 14 with | true => [.str [], .int .u64 (0)] | false => [.val (.pointer none)])) | false => (match Nat.ble t 17 with | true => (match Nat.ble t 16 with | true => [.val (.pointer none)] | false => [.val (.pointer none)]) | false => (match Nat.ble t 18 with | true => [.val (.pointer none)] | false => [.val (.pointer none)]))) | false => (match Nat.ble t 22 with | true => (match Nat.ble t 20 with | true => [.val .nilIface] | false => (match Nat.ble t 21 with | true => [.int .i32 (0)] | false => [.val (.slice none 0 0)])) | false => (match Nat.ble t 24 with | true => (match Nat.ble t 23 with | true => [.val .nilFunc] | false => [.int .i64 (0)]) | false => (match Nat.ble t 25 with | true => [] | false => [.val .nilFunc]))))) | false => (match Nat.ble t 40 with | true => (match Nat.ble t 33 with | true => (match Nat.ble t 29 with | true => (match Nat.ble t 27 with | true => [] | false => (match Nat.ble t 28 with | true => [.val .nilFunc] | false => [.val .nilFunc])) | false => (match Nat.ble t 31 with | true => (match Nat.ble t 30 with | true => [.val .nilFunc] | false => [.int .i64 (0), .str [], .str [], .str []]) | false => (match Nat.ble t 32 with | true => [.int .i64 (0), .str [], .str [], .str []] | false => []))) | false => (match Nat.ble t 36 with | true => (match Nat.ble t 34 with | true => [.val .nilFunc] | false => (match Nat.ble t 35 with | true => [] | false => [.val .nilFunc])) | false => (match Nat.ble t 38 with | true => (match Nat.ble t 37 with | true => [.val .nilFunc] | false => [.val .nilIface]) | false => (match Nat.ble t 39 with | true => [.val .nilIface] | false => [])))) | false => (match Nat.ble t 47 with | true => (match Nat.ble t 43 with | true => (match Nat.ble t 41 with | true => [.val .nilFunc] | false => (match Nat.ble t 42 with | true => [.int .i64 (0), .int .i64 (0)] | false => [.int .i64 (0), .int .i64 (0)])) | false => (match Nat.ble t 45 with | true => (match Nat.ble t 44 with | true => [] | false => [.val .nilFunc]) | false => (match Nat.ble t 46 with | true => [.val .nilFunc] | false => []))) | false => (match Nat.ble t 50 with | true => (match Nat.ble t 48 with | true => [.val .nilFunc] | false => (match Nat.ble t 49 with | true => [] | false => [.val .nilFunc])) | false => (match Nat.ble t 52 with | true => (match Nat.ble t 51 with | true => [.val .nilFunc] | false => [.int .i64 (0), .str [], .str [], .str [], .int .i64 (0), .str [], .str [], .str [], .int .i64 (0), .str [], .str [], .str [], .int .i64 (0), .str [], .str [], .str []]) | false => (match Nat.ble t 53 with | true => [.int .i64 (0), .str [], .str [], .str [], .int .i64 (0), .str [], .str [], .str [], .int .i64 (0), .str [], .str [], .str [], .int .i64 (0), .str [], .str [], .str []] | false => [.val .nilFunc])))))) | false => (match Nat.ble t 82 with | true => (match Nat.ble t 68 with | true => (match Nat.ble t 61 with | true => (match Nat.ble t 57 with | true => (match Nat.ble t 55 with | true => [] | false => (match Nat.ble t 56 with | true => [.val .nilFunc] | false => [.val .nilFunc])) | false => (match Nat.ble t 59 with | true => (match Nat.ble t 58 with | true => [] | false => [.val .nilFunc]) | false => (match Nat.ble t 60 with | true => [.val .nilFunc] | false => [.val .nilFunc]))) | false => (match Nat.ble t 64 with | true => (match Nat.ble t 62 with | true => [.val .nilFunc] | false => (match Nat.ble t 63 with | true => [.val .nilFunc] | false => [.val .nilFunc])) | false => (match Nat.ble t 66 with | true => (match Nat.ble t 65 with | true => [.val .nilFunc] | false => [.val .nilFunc]) | false => (match Nat.ble t 67 with | true => [.val .nilFunc] | false => [])))) | false => (match Nat.ble t 75 with | true => (match Nat.ble t 71 with | true => (match Nat.ble t 69 with | true => [.val .nilFunc] | false => (match Nat.ble t 70 with | true => [.val .nilFunc] | false => [.int .i64 (0), .int .i64 (0)])) | false => (match Nat.ble t 73 with | true => (match Nat.ble t 72 with | true => [.int .i64 (0), .int .i64 (0)] | false => []) | false => (match Nat.ble t 74 with | true => [.val .nilFunc] | false => []))) | false => (match Nat.ble t 78 with | true => (match Nat.ble t 76 with | true => [.val .nilFunc] | false => (match Nat.ble t 77 with | true => [.val .nilFunc] | false => [.val (.pointer none)])) | false => (match Nat.ble t 80 with | true => (match Nat.ble t 79 with | true => [.int .i64 (0), .val .nilIface] | false => [.int .i64 (0), .val .nilIface]) | false => (match Nat.ble t 81 with | true => [.val .nilFunc] | false => [.val .nilFunc]))))) | false => (match Nat.ble t 96 with | true => (match Nat.ble t 89 with | true => (match Nat.ble t 85 with | true => (match Nat.ble t 83 with | true => [.val .nilFunc] | false => (match Nat.ble t 84 with | true => [.val .nilFunc] | false => [.val .nilFunc])) | false => (match Nat.ble t 87 with | true => (match Nat.ble t 86 with | true => [.int .i64 (0), .str [], .str [], .str [], .int .i64 (0), .str [], .str [], .str [], .int .i64 (0), .str [], .str [], .str [], .int .i64 (0), .str [], .str [], .str []] | false => [.val .nilFunc]) | false => (match Nat.ble t 88 with | true => [.val .nilFunc] | false => [.val .nilFunc]))) | false => (match Nat.ble t 92 with | true => (match Nat.ble t 90 with | true => [.val .nilFunc] | false => (match Nat.ble t 91 with | true => [.val .nilFunc] | false => [.val (.pointer none)])) | false => (match Nat.ble t 94 with | true => (match Nat.ble t 93 with | true => [.val (.slice none 0 0)] | false => [.val (.pointer none), .val (.slice none 0 0)]) | false => (match Nat.ble t 95 with | true => [.val (.pointer none), .val (.slice none 0 0)] | false => [])))) | false => (match Nat.ble t 103 with | true => (match Nat.ble t 99 with | true => (match Nat.ble t 97 with | true => [.val .nilFunc] | false => (match Nat.ble t 98 with | true => [.val .nilFunc] | false => [.val .nilFunc])) | false => (match Nat.ble t 101 with | true => (match Nat.ble t 100 with | true => [.val .nilFunc] | false => [.val .nilFunc]) | false => (match Nat.ble t 102 with | true => [.val .nilFunc] | false => [.val .nilFunc]))) | false => (match Nat.ble t 106 with | true => (match Nat.ble t 104 with | true => [.val .nilFunc] | false => (match Nat.ble t 105 with | true => [.val .nilFunc] | false => [.val .nilFunc])) | false => (match Nat.ble t 108 with | true => (match Nat.ble t 107 with | true => [] | false => [.val .nilFunc]) | false => (match Nat.ble t 109 with | true => [.val .nilFunc] | false => [.val .nilFunc]))))))) | false => (match Nat.ble t 165 with | true => (match Nat.ble t 137 with | true => (match Nat.ble t 123 with | true => (match Nat.ble t 116 with | true => (match Nat.ble t 113 with | true => (match Nat.ble t 111 with | true => [.val .nilFunc] | false => (match Nat.ble t 112 with | true => [.int .u64 (0)] | false => [.val (.slice none 0 0)])) | false => (match Nat.ble t 114 with | true => [.val .nilFunc] | false => (match Nat.ble t 115 with | true => [.val .nilFunc] | false => [.val (.slice none 0 0)]))) | false => (match Nat.ble t 119 with | true => (match Nat.ble t 117 with | true => [.str [], .str [], .str [], .str [], .val (.slice none 0 0), .val (.slice none 0 0), .str []] | false => (match Nat.ble t 118 with | true => [.str [], .str [], .str [], .str [], .val (.slice none 0 0), .val (.slice none 0 0), .str []] | false => [])) | false => (match Nat.ble t 121 with | true => (match Nat.ble t 120 with | true => [.val .nilFunc] | false => [.val .nilFunc]) | false => (match Nat.ble t 122 with | true => [] | false => [.val .nilFunc])))) | false => (match Nat.ble t 130 with | true => (match Nat.ble t 126 with | true => (match Nat.ble t 124 with | true => [.val .nilFunc] | false => (match Nat.ble t 125 with | true => [.int .u64 (0)] | false => [.val .nilFunc])) | false => (match Nat.ble t 128 with | true => (match Nat.ble t 127 with | true => [.val (.pointer none)] | false => []) | false => (match Nat.ble t 129 with | true => [.val .nilFunc] | false => [.val .nilFunc]))) | false => (match Nat.ble t 133 with | true => (match Nat.ble t 131 with | true => [] | false => (match Nat.ble t 132 with | true => [.val .nilFunc] | false => [.val .nilFunc])) | false => (match Nat.ble t 135 with | true => (match Nat.ble t 134 with | true => [.val .nilFunc] | false => [.val .nilFunc]) | false => (match Nat.ble t 136 with | true => [.val .nilFunc] | false => [.val .nilFunc]))))) | false => (match Nat.ble t 151 with | true => (match Nat.ble t 144 with | true => (match Nat.ble t 140 with | true => (match Nat.ble t 138 with | true => [.val .nilFunc] | false => (match Nat.ble t 139 with | true => [.val .nilFunc] | false => [.val .nilFunc])) | false => (match Nat.ble t 142 with | true => (match Nat.ble t 141 with | true => [.val .nilFunc] | false => [.val .nilFunc]) | false => (match Nat.ble t 143 with | true => [.val (.pointer none)] | false => [.val .nilFunc]))) | false => (match Nat.ble t 147 with | true => (match Nat.ble t 145 with | true => [.val (.slice none 0 0), .str [], .str [], .str [], .str [], .val (.slice none 0 0), .val (.slice none 0 0), .str []] | false => (match Nat.ble t 146 with | true => [.val (.slice none 0 0), .str [], .str [], .str [], .str [], .val (.slice none 0 0), .val (.slice none 0 0), .str []] | false => [.val .nilFunc])) | false => (match Nat.ble t 149 with | true => (match Nat.ble t 148 with | true => [.val .nilFunc] | false => []) | false => (match Nat.ble t 150 with | true => [.val .nilFunc] | false => [.val (.slice none 0 0)])))) | false => (match Nat.ble t 158 with | true => (match Nat.ble t 154 with | true => (match Nat.ble t 152 with | true => [] | false => (match Nat.ble t 153 with | true => [.val .nilFunc] | false => [.val .nilFunc])) | false => (match Nat.ble t 156 with | true => (match Nat.ble t 155 with | true => [.val (.pointer none)] | false => [.val .nilFunc]) | false => (match Nat.ble t 157 with | true => [.val (.pointer none)] | false => [.val .nilFunc]))) | false => (match Nat.ble t 161 with | true => (match Nat.ble t 159 with | true => [.val (.slice none 0 0)] | false => (match Nat.ble t 160 with | true => [.val (.slice none 0 0)] | false => [.val .nilFunc])) | false => (match Nat.ble t 163 with | true => (match Nat.ble t 162 with | true => [.val (.pointer none)] | false => [.val .nilFunc]) | false => (match Nat.ble t 164 with | true => [.val .nilFunc] | false => [.int .i64 (0), .int .i64 (0), .int .i64 (0), .int .i64 (0), .int .i64 (0)])))))) | false => (match Nat.ble t 193 with | true => (match Nat.ble t 179 with | true => (match Nat.ble t 172 with | true => (match Nat.ble t 168 with | true => (match Nat.ble t 166 with | true => [] | false => (match Nat.ble t 167 with | true => [.val .nilFunc] | false => [.val .nilFunc])) | false => (match Nat.ble t 170 with | true => (match Nat.ble t 169 with | true => [.int .i64 (0), .int .i64 (0), .int .i64 (0), .int .i64 (0), .int .i64 (0), .int .i64 (0), .int .i64 (0), .int .i64 (0), .int .i64 (0), .int .i64 (0), .int .i64 (0), .int .i64 (0), .int .i64 (0), .int .i64 (0), .int .i64 (0), .int .i64 (0), .int .i64 (0), .int .i64 (0), .int .i64 (0), .int .i64 (0), .int .i64 (0), .int .i64 (0), .int .i64 (0), .int .i64 (0), .int .i64 (0), .int .i64 (0), .int .i64 (0), .int .i64 (0)] | false => [.val .nilFunc]) | false => (match Nat.ble t 171 with | true => [.val .nilFunc] | false => [.int .i64 (0)]))) | false => (match Nat.ble t 175 with | true => (match Nat.ble t 173 with | true => [] | false => (match Nat.ble t 174 with | true => [.val .nilFunc] | false => [.val .nilFunc])) | false => (match Nat.ble t 177 with | true => (match Nat.ble t 176 with | true => [.val .nilFunc] | false => [.val .nilFunc]) | false => (match Nat.ble t 178 with | true => [.val .nilFunc] | false => [.int .u32 (0)])))) | false => (match Nat.ble t 186 with | true => (match Nat.ble t 182 with | true => (match Nat.ble t 180 with | true => [.val .nilFunc] | false => (match Nat.ble t 181 with | true => [.val .nilFunc] | false => [.val .nilFunc])) | false => (match Nat.ble t 184 with | true => (match Nat.ble t 183 with | true => [.val .nilFunc] | false => [.val .nilFunc]) | false => (match Nat.ble t 185 with | true => [.val .nilFunc] | false => [.int .i32 (0), .int .i32 (0), .int .i32 (0), .int .i32 (0), .int .i32 (0)]))) | false => (match Nat.ble t 189 with | true => (match Nat.ble t 187 with | true => [.val .nilFunc] | false => (match Nat.ble t 188 with | true => [.val .nilFunc] | false => [.int .u64 (0)])) | false => (match Nat.ble t 191 with | true => (match Nat.ble t 190 with | true => [.val .nilFunc] | false => [.val .nilFunc]) | false => (match Nat.ble t 192 with | true => [.val .nilFunc] | false => [.val (.pointer none)]))))) | false => (match Nat.ble t 207 with | true => (match Nat.ble t 200 with | true => (match Nat.ble t 196 with | true => (match Nat.ble t 194 with | true => [.val .nilFunc] | false => (match Nat.ble t 195 with | true => [.val .nilFunc] | false => [.val .nilFunc])) | false => (match Nat.ble t 198 with | true => (match Nat.ble t 197 with | true => [.val .nilFunc] | false => [.int .i32 (0), .int .i32 (0), .int .i32 (0), .int .i32 (0), .int .i32 (0), .int .i32 (0), .int .i32 (0), .int .i32 (0), .int .i32 (0), .int .i32 (0), .int .i32 (0), .int .i32 (0), .int .i32 (0), .int .i32 (0), .int .i32 (0), .int .i32 (0), .int .i32 (0), .int .i32 (0), .int .i32 (0), .int .i32 (0), .int .i32 (0), .int .i32 (0), .int .i32 (0), .int .i32 (0)]) | false => (match Nat.ble t 199 with | true => [.val (.pointer none)] | false => [.val .nilFunc]))) | false => (match Nat.ble t 203 with | true => (match Nat.ble t 201 with | true => [.val .nilFunc] | false => (match Nat.ble t 202 with | true => [.val .nilFunc] | false => [])) | false => (match Nat.ble t 205 with | true => (match Nat.ble t 204 with | true => [.int .u8 (0), .int .u8 (0)] | false => [.int .u8 (0), .int .u8 (0)]) | false => (match Nat.ble t 206 with | true => [.int .u8 (0), .int .u8 (0), .int .u8 (0), .int .u8 (0), .int .u8 (0), .int .u8 (0), .int .u8 (0), .int .u8 (0), .int .u8 (0), .int .u8 (0), .int .u8 (0), .int .u8 (0), .int .u8 (0), .int .u8 (0), .int .u8 (0), .int .u8 (0), .int .u8 (0), .int .u8 (0), .int .u8 (0), .int .u8 (0), .int .u8 (0), .int .u8 (0), .int .u8 (0), .int .u8 (0), .int .u8 (0), .int .u8 (0), .int .u8 (0), .int .u8 (0), .int .u8 (0), .int .u8 (0), .int .u8 (0), .int .u8 (0)] | false => [])))) | false => (match Nat.ble t 214 with | true => (match Nat.ble t 210 with | true => (match Nat.ble t 208 with | true => [.val .nilFunc] | false => (match Nat.ble t 209 with | true => [.val (.pointer none), .val (.pointer none), .val (.pointer none), .str []] | false => [.val (.pointer none), .val (.pointer none), .val (.pointer none), .str []])) | false => (match Nat.ble t 212 with | true => (match Nat.ble t 211 with | true => [] | false => []) | false => (match Nat.ble t 213 with | true => [] | false => [.val .nilFunc]))) | false => (match Nat.ble t 217 with | true => (match Nat.ble t 215 with | true => [.int .u8 (0)] | false => (match Nat.ble t 216 with | true => [.int .u8 (0)] | false => [.val .nilFunc])) | false => (match Nat.ble t 219 with | true => (match Nat.ble t 218 with | true => [.int .i32 (0)] | false => [.int .i32 (0)]) | false => (match Nat.ble t 220 with | true => [.int .u64 (0), .int .u64 (0), .int .u32 (0), .int .u8 (0), .int .u8 (0), .int .u8 (0), .int .u8 (0), .val .nilFunc, .val (.pointer none), .int .i32 (0), .int .i32 (0)] | false => [.int .u64 (0), .int .u64 (0), .int .u32 (0), .int .u8 (0), .int .u8 (0), .int .u8 (0), .int .u8 (0), .val .nilFunc, .val (.pointer none), .int .i32 (0), .int .i32 (0)])))))))) | false => []
def tabBytes (t : TypeId) : Nat := match Nat.ble t 221 with | true => (match Nat.ble t 110 with | true => (match Nat.ble t 54 with | true => (match Nat.ble t 26 with | true => (match Nat.ble t 12 with | true => (match Nat.ble t 5 with | true => (match Nat.ble t 2 with | true => (match Nat.ble t 0 with | true => 0 | false => (match Nat.ble t 1 with | true => 8 | false => 8)) | false => (match Nat.ble t 3 with | true => 8 | false => (match Nat.ble t 4 with | true => 1 | false => 1))) | false => (match Nat.ble t 8 with | true => (match Nat.ble t 6 with | true => 1 | false => (match Nat.ble t 7 with | true => 24 | false => 24)) | false => (match Nat.ble t 10 with | true => (match Nat.ble t 9 with | true => 16 | false => 16) | false => (match Nat.ble t 11 with | true => 16 | false => 8)))) | false => (match Nat.ble t 19 with | true => (match Nat.ble t 15 with | true => (match Nat.ble t 13 with | true => 24 | false => (match Nat.ble t 14 with | true => 24 | false => 8)) | false => (match Nat.ble t 17 with | true => (match Nat.ble t 16 with | true => 8 | false => 8) | false => (match Nat.ble t 18 with | true => 8 | false => 8))) | false => (match Nat.ble t 22 with | true => (match Nat.ble t 20 with | true => 16 | false => (match Nat.ble t 21 with | true => 4 | false => 24)) | false => (match Nat.ble t 24 with | true => (match Nat.ble t 23 with | true => 8 | false => 8) | false => (match Nat.ble t 25 with | true => 0 | false => 8))))) | false => (match Nat.ble t 40 with | true => (match Nat.ble t 33 with | true => (match Nat.ble t 29 with | true => (match Nat.ble t 27 with | true => 0 | false => (match Nat.ble t 28 with | true => 8 | false => 8)) | false => (match Nat.ble t 31 with | true => (match Nat.ble t 30 with | true => 8 | false => 56) | false => (match Nat.ble t 32 with | true => 56 | false => 0))) | false => (match Nat.ble t 36 with | true => (match Nat.ble t 34 with | true => 8 | false => (match Nat.ble t 35 with | true => 0 | false => 8)) | false => (match Nat.ble t 38 with | true => (match Nat.ble t 37 with | true => 8 | false => 16) | false => (match Nat.ble t 39 with | true => 16 | false => 0)))) | false => (match Nat.ble t 47 with | true => (match Nat.ble t 43 with | true => (match Nat.ble t 41 with | true => 8 | false => (match Nat.ble t 42 with | true => 16 | false => 16)) | false => (match Nat.ble t 45 with | true => (match Nat.ble t 44 with | true => 0 | false => 8) | false => (match Nat.ble t 46 with | true => 8 | false => 0))) | false => (match Nat.ble t 50 with | true => (match Nat.ble t 48 with | true => 8 | false => (match Nat.ble t 49 with | true => 0 | false => 8)) | false => (match Nat.ble t 52 with | true => (match Nat.ble t 51 with | true => 8 | false => 224) | false => (match Nat.ble t 53 with | true => 224 | false => 8)))))) | false => (match Nat.ble t 82 with | true => (match Nat.ble t 68 with | true => (match Nat.ble t 61 with | true => (match Nat.ble t 57 with | true => (match Nat.ble t 55 with | true => 0 | false => (match Nat.ble t 56 with | true => 8 | false => 8)) | false => (match Nat.ble t 59 with | true => (match Nat.ble t 58 with | true => 0 | false => 8) | false => (match Nat.ble t 60 with | true => 8 | false => 8))) | false => (match Nat.ble t 64 with | true => (match Nat.ble t 62 with | true => 8 | false => (match Nat.ble t 63 with | true => 8 | false => 8)) | false => (match Nat.ble t 66 with | true => (match Nat.ble t 65 with | true => 8 | false => 8) | false => (match Nat.ble t 67 with | true => 8 | false => 0)))) | false => (match Nat.ble t 75 with | true => (match Nat.ble t 71 with | true => (match Nat.ble t 69 with | true => 8 | false => (match Nat.ble t 70 with | true => 8 | false => 16)) | false => (match Nat.ble t 73 with | true => (match Nat.ble t 72 with | true => 16 | false => 0) | false => (match Nat.ble t 74 with | true => 8 | false => 0))) | false => (match Nat.ble t 78 with | true => (match Nat.ble t 76 with | true => 8 | false => (match Nat.ble t 77 with | true => 8 | false => 8)) | false => (match Nat.ble t 80 with | true => (match Nat.ble t 79 with | true => 24 | false => 24) | false => (match Nat.ble t 81 with | true => 8 | false => 8))))) | false => (match Nat.ble t 96 with | true => (match Nat.ble t 89 with | true => (match Nat.ble t 85 with | true => (match Nat.ble t 83 with | true => 8 | false => (match Nat.ble t 84 with | true => 8 | false => 8)) | false => (match Nat.ble t 87 with | true => (match Nat.ble t 86 with | true => 224 | false => 8) | false => (match Nat.ble t 88 with | true => 8 | false => 8))) | false => (match Nat.ble t 92 with | true => (match Nat.ble t 90 with | true => 8 | false => (match Nat.ble t 91 with | true => 8 | false => 8)) | false => (match Nat.ble t 94 with | true => (match Nat.ble t 93 with | true => 24 | false => 32) | false => (match Nat.ble t 95 with | true => 32 | false => 0)))) | false => (match Nat.ble t 103 with | true => (match Nat.ble t 99 with | true => (match Nat.ble t 97 with | true => 8 | false => (match Nat.ble t 98 with | true => 8 | false => 8)) | false => (match Nat.ble t 101 with | true => (match Nat.ble t 100 with | true => 8 | false => 8) | false => (match Nat.ble t 102 with | true => 8 | false => 8))) | false => (match Nat.ble t 106 with | true => (match Nat.ble t 104 with | true => 8 | false => (match Nat.ble t 105 with | true => 8 | false => 8)) | false => (match Nat.ble t 108 with | true => (match Nat.ble t 107 with | true => 0 | false => 8) | false => (match Nat.ble t 109 with | true => 8 | false => 8))))))) | false => (match Nat.ble t 165 with | true => (match Nat.ble t 137 with | true => (match Nat.ble t 123 with | true => (match Nat.ble t 116 with | true => (match Nat.ble t 113 with | true => (match Nat.ble t 111 with | true => 8 | false => (match Nat.ble t 112 with | true => 8 | false => 24)) | false => (match Nat.ble t 114 with | true => 8 | false => (match Nat.ble t 115 with | true => 8 | false => 24))) | false => (match Nat.ble t 119 with | true => (match Nat.ble t 117 with | true => 128 | false => (match Nat.ble t 118 with | true => 128 | false => 0)) | false => (match Nat.ble t 121 with | true => (match Nat.ble t 120 with | true => 8 | false => 8) | false => (match Nat.ble t 122 with | true => 0 | false => 8)))) | false => (match Nat.ble t 130 with | true => (match Nat.ble t 126 with | true => (match Nat.ble t 124 with | true => 8 | false => (match Nat.ble t 125 with | true => 8 | false => 8)) | false => (match Nat.ble t 128 with | true => (match Nat.ble t 127 with | true => 8 | false => 0) | false => (match Nat.ble t 129 with | true => 8 | false => 8))) | false => (match Nat.ble t 133 with | true => (match Nat.ble t 131 with | true => 0 | false => (match Nat.ble t 132 with | true => 8 | false => 8)) | false => (match Nat.ble t 135 with | true => (match Nat.ble t 134 with | true => 8 | false => 8) | false => (match Nat.ble t 136 with | true => 8 | false => 8))))) | false => (match Nat.ble t 151 with | true => (match Nat.ble t 144 with | true => (match Nat.ble t 140 with | true => (match Nat.ble t 138 with | true => 8 | false => (match Nat.ble t 139 with | true => 8 | false => 8)) | false => (match Nat.ble t 142 with | true => (match Nat.ble t 141 with | true => 8 | false => 8) | false => (match Nat.ble t 143 with | true => 8 | false => 8))) | false => (match Nat.ble t 147 with | true => (match Nat.ble t 145 with | true => 152 | false => (match Nat.ble t 146 with | true => 152 | false => 8)) | false => (match Nat.ble t 149 with | true => (match Nat.ble t 148 with | true => 8 | false => 0) | false => (match Nat.ble t 150 with | true => 8 | false => 24)))) | false => (match Nat.ble t 158 with | true => (match Nat.ble t 154 with | true => (match Nat.ble t 152 with | true => 0 | false => (match Nat.ble t 153 with | true => 8 | false => 8)) | false => (match Nat.ble t 156 with | true => (match Nat.ble t 155 with | true => 8 | false => 8) | false => (match Nat.ble t 157 with | true => 8 | false => 8))) | false => (match Nat.ble t 161 with | true => (match Nat.ble t 159 with | true => 24 | false => (match Nat.ble t 160 with | true => 24 | false => 8)) | false => (match Nat.ble t 163 with | true => (match Nat.ble t 162 with | true => 8 | false => 8) | false => (match Nat.ble t 164 with | true => 8 | false => 40)))))) | false => (match Nat.ble t 193 with | true => (match Nat.ble t 179 with | true => (match Nat.ble t 172 with | true => (match Nat.ble t 168 with | true => (match Nat.ble t 166 with | true => 0 | false => (match Nat.ble t 167 with | true => 8 | false => 8)) | false => (match Nat.ble t 170 with | true => (match Nat.ble t 169 with | true => 224 | false => 8) | false => (match Nat.ble t 171 with | true => 8 | false => 8))) | false => (match Nat.ble t 175 with | true => (match Nat.ble t 173 with | true => 0 | false => (match Nat.ble t 174 with | true => 8 | false => 8)) | false => (match Nat.ble t 177 with | true => (match Nat.ble t 176 with | true => 8 | false => 8) | false => (match Nat.ble t 178 with | true => 8 | false => 4)))) | false => (match Nat.ble t 186 with | true => (match Nat.ble t 182 with | true => (match Nat.ble t 180 with | true => 8 | false => (match Nat.ble t 181 with | true => 8 | false => 8)) | false => (match Nat.ble t 184 with | true => (match Nat.ble t 183 with | true => 8 | false => 8) | false => (match Nat.ble t 185 with | true => 8 | false => 20))) | false => (match Nat.ble t 189 with | true => (match Nat.ble t 187 with | true => 8 | false => (match Nat.ble t 188 with | true => 8 | false => 8)) | false => (match Nat.ble t 191 with | true => (match Nat.ble t 190 with | true => 8 | false => 8) | false => (match Nat.ble t 192 with | true => 8 | false => 8))))) | false => (match Nat.ble t 207 with | true => (match Nat.ble t 200 with | true => (match Nat.ble t 196 with | true => (match Nat.ble t 194 with | true => 8 | false => (match Nat.ble t 195 with | true => 8 | false => 8)) | false => (match Nat.ble t 198 with | true => (match Nat.ble t 197 with | true => 8 | false => 96) | false => (match Nat.ble t 199 with | true => 8 | false => 8))) | false => (match Nat.ble t 203 with | true => (match Nat.ble t 201 with | true => 8 | false => (match Nat.ble t 202 with | true => 8 | false => 256)) | false => (match Nat.ble t 205 with | true => (match Nat.ble t 204 with | true => 2 | false => 2) | false => (match Nat.ble t 206 with | true => 32 | false => 0)))) | false => (match Nat.ble t 214 with | true => (match Nat.ble t 210 with | true => (match Nat.ble t 208 with | true => 8 | false => (match Nat.ble t 209 with | true => 40 | false => 40)) | false => (match Nat.ble t 212 with | true => (match Nat.ble t 211 with | true => 0 | false => 0) | false => (match Nat.ble t 213 with | true => 0 | false => 8))) | false => (match Nat.ble t 217 with | true => (match Nat.ble t 215 with | true => 1 | false => (match Nat.ble t 216 with | true => 1 | false => 8)) | false => (match Nat.ble t 219 with | true => (match Nat.ble t 218 with | true => 4 | false => 4) | false => (match Nat.ble t 220 with | true => 48 | false => 48)))))))) | false => 0
def tabFlat (t : TypeId) : Option (List CK) := match Nat.ble t 221 with | true => (match Nat.ble t 110 with | true => (match Nat.ble t 54 with | true => (match Nat.ble t 26 with | true => (match Nat.ble t 12 with | true => (match Nat.ble t 5 with | true => (match Nat.ble t 2 with | true => (match Nat.ble t 0 with | true => none | false => (match Nat.ble t 1 with | true => none | false => none)) | false => (match Nat.ble t 3 with | true => none | false => (match Nat.ble t 4 with | true => none | false => none))) | false => (match Nat.ble t 8 with | true => (match Nat.ble t 6 with | true => none | false => (match Nat.ble t 7 with | true => none | false => none)) | false => (match Nat.ble t 10 with | true => (match Nat.ble t 9 with | true => none | false => none) | false => (match Nat.ble t 11 with | true => none | false => none)))) | false => (match Nat.ble t 19 with | true => (match Nat.ble t 15 with | true => (match Nat.ble t 13 with | true => none | false => (match Nat.ble t 14 with | true => none | false => none)) | false => (match Nat.ble t 17 with | true => (match Nat.ble t 16 with | true => none | false => none) | false => (match Nat.ble t 18 with | true => none | false => none))) | false => (match Nat.ble t 22 with | true => (match Nat.ble t 20 with | true => none | false => (match Nat.ble t 21 with | true => none | false => none)) | false => (match Nat.ble t 24 with | true => (match Nat.ble t 23 with | true => none | false => none) | false => (match Nat.ble t 25 with | true => none | false => none))))) | false => (match Nat.ble t 40 with | true => (match Nat.ble t 33 with | true => (match Nat.ble t 29 with | true => (match Nat.ble t 27 with | true => none | false => (match Nat.ble t 28 with | true => none | false => none)) | false => (match Nat.ble t 31 with | true => (match Nat.ble t 30 with | true => none | false => none) | false => (match Nat.ble t 32 with | true => some [.int .i64, .str, .str, .str] | false => none))) | false => (match Nat.ble t 36 with | true => (match Nat.ble t 34 with | true => none | false => (match Nat.ble t 35 with | true => none | false => none)) | false => (match Nat.ble t 38 with | true => (match Nat.ble t 37 with | true => none | false => none) | false => (match Nat.ble t 39 with | true => none | false => none)))) | false => (match Nat.ble t 47 with | true => (match Nat.ble t 43 with | true => (match Nat.ble t 41 with | true => none | false => (match Nat.ble t 42 with | true => none | false => some [.int .i64, .int .i64])) | false => (match Nat.ble t 45 with | true => (match Nat.ble t 44 with | true => none | false => none) | false => (match Nat.ble t 46 with | true => none | false => none))) | false => (match Nat.ble t 50 with | true => (match Nat.ble t 48 with | true => none | false => (match Nat.ble t 49 with | true => none | false => none)) | false => (match Nat.ble t 52 with | true => (match Nat.ble t 51 with | true => none | false => none) | false => (match Nat.ble t 53 with | true => some [.int .i64, .str, .str, .str, .int .i64, .str, .str, .str, .int .i64, .str, .str, .str, .int .i64, .str, .str, .str] | false => none)))))) | false => (match Nat.ble t 82 with | true => (match Nat.ble t 68 with | true => (match Nat.ble t 61 with | true => (match Nat.ble t 57 with | true => (match Nat.ble t 55 with | true => none | false => (match Nat.ble t 56 with | true => none | false => none)) | false => (match Nat.ble t 59 with | true => (match Nat.ble t 58 with | true => none | false => none) | false => (match Nat.ble t 60 with | true => none | false => none))) | false => (match Nat.ble t 64 with | true => (match Nat.ble t 62 with | true => none | false => (match Nat.ble t 63 with | true => none | false => none)) | false => (match Nat.ble t 66 with | true => (match Nat.ble t 65 with | true => none | false => none) | false => (match Nat.ble t 67 with | true => none | false => none)))) | false => (match Nat.ble t 75 with | true => (match Nat.ble t 71 with | true => (match Nat.ble t 69 with | true => none | false => (match Nat.ble t 70 with | true => none | false => none)) | false => (match Nat.ble t 73 with | true => (match Nat.ble t 72 with | true => some [.int .i64, .int .i64] | false => none) | false => (match Nat.ble t 74 with | true => none | false => none))) | false => (match Nat.ble t 78 with | true => (match Nat.ble t 76 with | true => none | false => (match Nat.ble t 77 with | true => none | false => none)) | false => (match Nat.ble t 80 with | true => (match Nat.ble t 79 with | true => none | false => none) | false => (match Nat.ble t 81 with | true => none | false => none))))) | false => (match Nat.ble t 96 with | true => (match Nat.ble t 89 with | true => (match Nat.ble t 85 with | true => (match Nat.ble t 83 with | true => none | false => (match Nat.ble t 84 with | true => none | false => none)) | false => (match Nat.ble t 87 with | true => (match Nat.ble t 86 with | true => none | false => none) | false => (match Nat.ble t 88 with | true => none | false => none))) | false => (match Nat.ble t 92 with | true => (match Nat.ble t 90 with | true => none | false => (match Nat.ble t 91 with | true => none | false => none)) | false => (match Nat.ble t 94 with | true => (match Nat.ble t 93 with | true => none | false => none) | false => (match Nat.ble t 95 with | true => none | false => none)))) | false => (match Nat.ble t 103 with | true => (match Nat.ble t 99 with | true => (match Nat.ble t 97 with | true => none | false => (match Nat.ble t 98 with | true => none | false => none)) | false => (match Nat.ble t 101 with | true => (match Nat.ble t 100 with | true => none | false => none) | false => (match Nat.ble t 102 with | true => none | false => none))) | false => (match Nat.ble t 106 with | true => (match Nat.ble t 104 with | true => none | false => (match Nat.ble t 105 with | true => none | false => none)) | false => (match Nat.ble t 108 with | true => (match Nat.ble t 107 with | true => none | false => none) | false => (match Nat.ble t 109 with | true => none | false => none))))))) | false => (match Nat.ble t 165 with | true => (match Nat.ble t 137 with | true => (match Nat.ble t 123 with | true => (match Nat.ble t 116 with | true => (match Nat.ble t 113 with | true => (match Nat.ble t 111 with | true => none | false => (match Nat.ble t 112 with | true => none | false => none)) | false => (match Nat.ble t 114 with | true => none | false => (match Nat.ble t 115 with | true => none | false => none))) | false => (match Nat.ble t 119 with | true => (match Nat.ble t 117 with | true => none | false => (match Nat.ble t 118 with | true => none | false => none)) | false => (match Nat.ble t 121 with | true => (match Nat.ble t 120 with | true => none | false => none) | false => (match Nat.ble t 122 with | true => none | false => none)))) | false => (match Nat.ble t 130 with | true => (match Nat.ble t 126 with | true => (match Nat.ble t 124 with | true => none | false => (match Nat.ble t 125 with | true => none | false => none)) | false => (match Nat.ble t 128 with | true => (match Nat.ble t 127 with | true => none | false => none) | false => (match Nat.ble t 129 with | true => none | false => none))) | false => (match Nat.ble t 133 with | true => (match Nat.ble t 131 with | true => none | false => (match Nat.ble t 132 with | true => none | false => none)) | false => (match Nat.ble t 135 with | true => (match Nat.ble t 134 with | true => none | false => none) | false => (match Nat.ble t 136 with | true => none | false => none))))) | false => (match Nat.ble t 151 with | true => (match Nat.ble t 144 with | true => (match Nat.ble t 140 with | true => (match Nat.ble t 138 with | true => none | false => (match Nat.ble t 139 with | true => none | false => none)) | false => (match Nat.ble t 142 with | true => (match Nat.ble t 141 with | true => none | false => none) | false => (match Nat.ble t 143 with | true => none | false => none))) | false => (match Nat.ble t 147 with | true => (match Nat.ble t 145 with | true => none | false => (match Nat.ble t 146 with | true => none | false => none)) | false => (match Nat.ble t 149 with | true => (match Nat.ble t 148 with | true => none | false => none) | false => (match Nat.ble t 150 with | true => none | false => none)))) | false => (match Nat.ble t 158 with | true => (match Nat.ble t 154 with | true => (match Nat.ble t 152 with | true => none | false => (match Nat.ble t 153 with | true => none | false => none)) | false => (match Nat.ble t 156 with | true => (match Nat.ble t 155 with | true => none | false => none) | false => (match Nat.ble t 157 with | true => none | false => none))) | false => (match Nat.ble t 161 with | true => (match Nat.ble t 159 with | true => none | false => (match Nat.ble t 160 with | true => none | false => none)) | false => (match Nat.ble t 163 with | true => (match Nat.ble t 162 with | true => none | false => none) | false => (match Nat.ble t 164 with | true => none | false => none)))))) | false => (match Nat.ble t 193 with | true => (match Nat.ble t 179 with | true => (match Nat.ble t 172 with | true => (match Nat.ble t 168 with | true => (match Nat.ble t 166 with | true => none | false => (match Nat.ble t 167 with | true => none | false => none)) | false => (match Nat.ble t 170 with | true => (match Nat.ble t 169 with | true => none | false => none) | false => (match Nat.ble t 171 with | true => none | false => none))) | false => (match Nat.ble t 175 with | true => (match Nat.ble t 173 with | true => none | false => (match Nat.ble t 174 with | true => none | false => none)) | false => (match Nat.ble t 177 with | true => (match Nat.ble t 176 with | true => none | false => none) | false => (match Nat.ble t 178 with | true => none | false => none)))) | false => (match Nat.ble t 186 with | true => (match Nat.ble t 182 with | true => (match Nat.ble t 180 with | true => none | false => (match Nat.ble t 181 with | true => none | false => none)) | false => (match Nat.ble t 184 with | true => (match Nat.ble t 183 with | true => none | false => none) | false => (match Nat.ble t 185 with | true => none | false => none))) | false => (match Nat.ble t 189 with | true => (match Nat.ble t 187 with | true => none | false => (match Nat.ble t 188 with | true => none | false => none)) | false => (match Nat.ble t 191 with | true => (match Nat.ble t 190 with | true => none | false => none) | false => (match Nat.ble t 192 with | true => none | false => none))))) | false => (match Nat.ble t 207 with | true => (match Nat.ble t 200 with | true => (match Nat.ble t 196 with | true => (match Nat.ble t 194 with | true => none | false => (match Nat.ble t 195 with | true => none | false => none)) | false => (match Nat.ble t 198 with | true => (match Nat.ble t 197 with | true => none | false => none) | false => (match Nat.ble t 199 with | true => none | false => none))) | false => (match Nat.ble t 203 with | true => (match Nat.ble t 201 with | true => none | false => (match Nat.ble t 202 with | true => none | false => none)) | false => (match Nat.ble t 205 with | true => (match Nat.ble t 204 with | true => none | false => some [.int .u8, .int .u8]) | false => (match Nat.ble t 206 with | true => none | false => none)))) | false => (match Nat.ble t 214 with | true => (match Nat.ble t 210 with | true => (match Nat.ble t 208 with | true => none | false => (match Nat.ble t 209 with | true => none | false => none)) | false => (match Nat.ble t 212 with | true => (match Nat.ble t 211 with | true => none | false => none) | false => (match Nat.ble t 213 with | true => none | false => none))) | false => (match Nat.ble t 217 with | true => (match Nat.ble t 215 with | true => none | false => (match Nat.ble t 216 with | true => none | false => none)) | false => (match Nat.ble t 219 with | true => (match Nat.ble t 218 with | true => none | false => none) | false => (match Nat.ble t 220 with | true => none | false => none)))))))) | false => none
def basesTableInts : List Int := [192, 214, 216, 246, 248, 767, 880, 893, 895, 8191, 8204, 8205, 8304, 8591, 11264, 12271, 12289, 55295, 63744, 64975, 65008, 65533, 65536, 983039]
def basesTableRows : List (List SV) := basesTableInts.map fun x => [.int .i32 x]
def tab : Tab := { sh := tabSh, size := tabSize, zero := tabZero, bytes := tabBytes, flat := tabFlat, globs := [(1, .rows 1 basesTableRows)], bld := some (95, 5) }
theorem tabOK : TabOK Tryz.prog tab := by
  refine tabOK_of 222 (by kernel_rfl) (fun t ht => ?_)
  have h : Nat.ble t 221 = false := by
    cases e : Nat.ble t 221
    · rfl
    · have := Nat.le_of_ble_eq_true e; omega
  exact ⟨by simp only [tab, tabSh, h], by simp only [tab, tabZero, h], by simp only [tab, tabFlat, h]⟩
theorem mixed : Tryz.prog.follows .mixedOrders = true := by kernel_rfl
end Go.Proofs.YtpffclpheldabaaGreatDoor
/- How terms and quads that come in read; what package variables hold; from a contract to a row's walk. Conditions: none. -/
set_option linter.unusedVariables false
set_option linter.unusedSimpArgs false
namespace Go.Proofs.YtpffclpheldabaaGreatDoor
open Go.RowKit Go.Our Go.ChangeShapes Go.WideShapes Go.ChangeAt Go.Sx

section
variable {H : Type} {enc : TypeId × Value → H} {w : World} {base : Nat} {sp : Nat → Bool} {held : Bool}
abbrev strV (s : List UInt8) : Value := .string ⟨s.toArray⟩
abbrev tmL (x : Tm) : List Value := [.int .i64 x.k, strV x.t, strV x.y, strV x.l]
abbrev tmV (x : Tm) : Value := .agg ⟨tmL x⟩
abbrev qdL (q : Qd) : List Value := [.int .i64 q.s.k, strV q.s.t, strV q.s.y, strV q.s.l, .int .i64 q.p.k, strV q.p.t, strV q.p.y, strV q.p.l, .int .i64 q.o.k, strV q.o.t, strV q.o.y, strV q.o.l, .int .i64 q.g.k, strV q.g.t, strV q.g.y, strV q.g.l]
abbrev qdV (q : Qd) : Value := .agg ⟨qdL q⟩
def tmD (x : Tm) : DataW H := .agg [.lit (.int .i64 x.k), .lit (.string x.t), .lit (.string x.y), .lit (.string x.l)]
def qdD (q : Qd) : DataW H := .agg [tmD q.s, tmD q.p, tmD q.o, tmD q.g]
abbrev TmWf (x : Tm) : Prop := (Lit.int .i64 x.k).wf = true
abbrev QdWf (q : Qd) : Prop := TmWf q.s ∧ TmWf q.p ∧ TmWf q.o ∧ TmWf q.g
theorem cellsOfI : Tryz.prog.cellsOf 3 = 1 := by kernel_rfl
theorem cellsOfS : Tryz.prog.cellsOf 9 = 1 := by kernel_rfl
theorem cellsOfT : Tryz.prog.cellsOf 32 = 4 := by kernel_rfl
theorem cellsOfQ : Tryz.prog.cellsOf 53 = 16 := by kernel_rfl
theorem strV_of (s : ByteArray) : Value.string s = strV s.data.toList := by cases s; rfl
set_option maxRecDepth 100000 in
theorem trod_tm {fuel : Nat} {cs : List Value} {x : DataW H × List MemPlace} (h : DataW.trod enc Tryz.prog w base sp held fuel 32 cs = some x) :
    ∃ t : Tm, cs = tmL t ∧ x = (tmD t, []) ∧ TmWf t := by
  cases fuel with
  | zero => simp [DataW.trod] at h
  | succ fuel =>
    simp only [DataW.trod, Tryz.underlying32, cellsOfT] at h
    split at h
    · rename_i hl
      match cs, hl with
      | [c0, c1, c2, c3], _ =>
        simp only [List.mapM_cons, List.mapM_nil, cellsOfI, cellsOfS, List.drop_zero, List.drop_succ_cons, List.take_succ_cons, List.take_zero] at h
        simp only [Option.map_eq_some_iff, Option.bind_eq_bind, Option.bind_eq_some_iff, Option.pure_def, Option.some.injEq] at h
        obtain ⟨xs, ⟨y0, h0, r1, ⟨y1, h1, r2, ⟨y2, h2, r3, ⟨y3, h3, r4, rfl, rfl⟩, rfl⟩, rfl⟩, rfl⟩, hx⟩ := h
        obtain ⟨k, hk, rfl, wk⟩ := DataW.trod_int Tryz.underlying3 h0
        obtain ⟨s1, hs1, rfl, w1⟩ := DataW.trod_string Tryz.underlying9 h1
        obtain ⟨s2, hs2, rfl, w2⟩ := DataW.trod_string Tryz.underlying9 h2
        obtain ⟨s3, hs3, rfl, w3⟩ := DataW.trod_string Tryz.underlying9 h3
        injection hk with hk _; injection hs1 with hs1 _; injection hs2 with hs2 _; injection hs3 with hs3 _
        subst hk hs1 hs2 hs3
        exact ⟨⟨k, s1.data.toList, s2.data.toList, s3.data.toList⟩, by rw [strV_of, strV_of, strV_of], by rw [← hx]; rfl, wk⟩
    · cases h
set_option maxRecDepth 100000 in
theorem trod_qd {fuel : Nat} {cs : List Value} {x : DataW H × List MemPlace} (h : DataW.trod enc Tryz.prog w base sp held fuel 53 cs = some x) :
    ∃ q : Qd, cs = qdL q ∧ x = (qdD q, []) ∧ QdWf q := by
  cases fuel with
  | zero => simp [DataW.trod] at h
  | succ fuel =>
    simp only [DataW.trod, Tryz.underlying53, cellsOfQ] at h
    split at h
    · rename_i hl
      simp only [List.mapM_cons, List.mapM_nil, cellsOfT] at h
      simp only [Option.map_eq_some_iff, Option.bind_eq_bind, Option.bind_eq_some_iff, Option.pure_def, Option.some.injEq] at h
      obtain ⟨xs, ⟨y0, h0, r1, ⟨y1, h1, r2, ⟨y2, h2, r3, ⟨y3, h3, r4, rfl, rfl⟩, rfl⟩, rfl⟩, rfl⟩, hx⟩ := h
      obtain ⟨s, hs, rfl, ws⟩ := trod_tm h0
      obtain ⟨p, hp, rfl, wp⟩ := trod_tm h1
      obtain ⟨o, ho, rfl, wo⟩ := trod_tm h2
      obtain ⟨g, hg, rfl, wg⟩ := trod_tm h3
      refine ⟨⟨s, p, o, g⟩, ?_, by rw [← hx]; rfl, ws, wp, wo, wg⟩
      match cs, hl with
      | [c0, c1, c2, c3, c4, c5, c6, c7, c8, c9, c10, c11, c12, c13, c14, c15], _ =>
        simp only [List.drop_zero, List.drop_succ_cons, List.take_succ_cons, List.take_zero, tmL, List.cons.injEq, and_true] at hs hp ho hg
        obtain ⟨rfl, rfl, rfl, rfl⟩ := hs
        obtain ⟨rfl, rfl, rfl, rfl⟩ := hp
        obtain ⟨rfl, rfl, rfl, rfl⟩ := ho
        obtain ⟨rfl, rfl, rfl, rfl⟩ := hg
        rfl
    · cases h
set_option maxRecDepth 100000 in
theorem read_qd {v : Value} {d : DataW H} {p : List MemPlace} {r : Reach} {b0 : Nat} (ho : Value.okWide Tryz.prog w r b0 53 v) (h : DataW.Trod enc Tryz.prog w base sp held 53 v d p) :
    ∃ q : Qd, v = qdV q ∧ d = qdD q ∧ QdWf q := by
  obtain ⟨fuel, hf⟩ := h
  obtain ⟨q, hcs, hx, hok⟩ := trod_qd hf
  unfold Value.okWide at ho
  rw [Tryz.underlying53] at ho
  obtain ⟨cs, rfl, _, _⟩ := ho
  refine ⟨q, ?_, by injection hx, hok⟩
  congr 1
  exact Array.toList_inj.1 hcs
set_option maxRecDepth 100000 in
theorem read_tm {v : Value} {d : DataW H} {p : List MemPlace} {r : Reach} {b0 : Nat} (ho : Value.okWide Tryz.prog w r b0 32 v) (h : DataW.Trod enc Tryz.prog w base sp held 32 v d p) :
    ∃ t : Tm, v = tmV t ∧ d = tmD t ∧ TmWf t := by
  obtain ⟨fuel, hf⟩ := h
  obtain ⟨t, hcs, hx, hok⟩ := trod_tm hf
  unfold Value.okWide at ho
  rw [Tryz.underlying32] at ho
  obtain ⟨cs, rfl, _, _⟩ := ho
  refine ⟨t, ?_, by injection hx, hok⟩
  congr 1
  exact Array.toList_inj.1 hcs
/-- What the size of a reading says of its texts. -/
theorem tm_small {x : Tm} (h : ((tmD x : DataW H).weights Tryz.prog 32).all (fun n => decide (n ≤ reachBytes)) = true) : x.t.length ≤ reachBytes ∧ x.y.length ≤ reachBytes ∧ x.l.length ≤ reachBytes := by
  simp only [tmD, DataW.weights, Tryz.underlying32, List.map_cons, List.map_nil, DataW.weightsEach, List.nil_append, List.append_nil, List.cons_append, List.all_cons, List.all_nil, Bool.and_true, Bool.and_eq_true, decide_eq_true_eq] at h
  exact h
theorem qd_small {q : Qd} (h : ((qdD q : DataW H).weights Tryz.prog 53).all (fun n => decide (n ≤ reachBytes)) = true) : (q.s.t.length ≤ reachBytes ∧ q.s.y.length ≤ reachBytes ∧ q.s.l.length ≤ reachBytes) ∧ (q.p.t.length ≤ reachBytes ∧ q.p.y.length ≤ reachBytes ∧ q.p.l.length ≤ reachBytes) ∧
    (q.o.t.length ≤ reachBytes ∧ q.o.y.length ≤ reachBytes ∧ q.o.l.length ≤ reachBytes) ∧ (q.g.t.length ≤ reachBytes ∧ q.g.y.length ≤ reachBytes ∧ q.g.l.length ≤ reachBytes) := by
  have e : (qdD q : DataW H).weights Tryz.prog 53 = (tmD q.s : DataW H).weights Tryz.prog 32 ++ ((tmD q.p : DataW H).weights Tryz.prog 32 ++ ((tmD q.o : DataW H).weights Tryz.prog 32 ++ ((tmD q.g : DataW H).weights Tryz.prog 32 ++ []))) := by
    simp only [qdD, DataW.weights, Tryz.underlying53, List.map_cons, List.map_nil, DataW.weightsEach]
  rw [e] at h
  simp only [List.all_append, Bool.and_eq_true] at h
  exact ⟨tm_small h.1, tm_small h.2.1, tm_small h.2.2.1, tm_small h.2.2.2.1⟩
theorem TmSm.of {x : Tm} (h : x.t.length ≤ reachBytes ∧ x.y.length ≤ reachBytes ∧ x.l.length ≤ reachBytes) : TmSm x := by
  unfold reachBytes at h
  exact ⟨by omega, by omega, by omega⟩
theorem tm_sm {x : Tm} (h : ((tmD x : DataW H).weights Tryz.prog 32).all (fun n => decide (n ≤ reachBytes)) = true) : TmSm x := TmSm.of (tm_small h)
theorem qd_sm {q : Qd} (h : ((qdD q : DataW H).weights Tryz.prog 53).all (fun n => decide (n ≤ reachBytes)) = true) : QdSm q :=
  have h := qd_small h
  ⟨TmSm.of h.1, TmSm.of h.2.1, TmSm.of h.2.2.1, TmSm.of h.2.2.2⟩
end
theorem den_tm (x : Tm) : Den [] x.sv (tmV x) := by
  unfold Tm.sv
  simp only [Den, DenL]
  exact ⟨_, rfl, ⟨_, _, rfl, rfl, _, _, rfl, rfl, _, _, rfl, rfl, _, _, rfl, rfl, rfl⟩, by simp [Value.oneCell']⟩
theorem den_qd (q : Qd) : Den [] q.sv (qdV q) := by
  unfold Qd.sv
  simp only [Den, DenL]
  exact ⟨_, rfl, ⟨_, _, rfl, rfl, _, _, rfl, rfl, _, _, rfl, rfl, _, _, rfl, rfl, _, _, rfl, rfl, _, _, rfl, rfl, _, _, rfl, rfl, _, _, rfl, rfl, _, _, rfl, rfl, _, _, rfl, rfl, _, _, rfl, rfl, _, _, rfl, rfl, _, _, rfl, rfl, _, _, rfl, rfl, _, _, rfl, rfl, _, _, rfl, rfl, rfl⟩, by simp [Value.oneCell']⟩
/-- What the walk takes for granted of the package variables. -/
abbrev GlobOK (W : World) : Prop := ∀ g h, lkp g tab.globs = some h → HpSat [] W false (.glob g) h ∧ g < W.heap.size
/-- A law that answers true, whatever plain values come in. -/
theorem law_calls {g : FuncId} {args : List SV} {vs : List Value} {W : World} (sp : Does Tryz.prog tab g 0 args [] [] (Val (.bool true))) (eg : ∀ args w, (callFunc g args).run Tryz.prog w = .ok (.enter g args) w) (hd : DenL [] args vs) (hg : GlobOK W) :
    Calls Tryz.prog g ⟨vs⟩ W fun e W' => e = .returned (.bool true) ∧ Below W.heap.size W W' := by
  refine (sp.calls eg hd hg).mono fun e W' ⟨v, he, hv, hf⟩ => ?_
  simp only [Den] at hv
  subst hv
  exact ⟨he, hf.os, hf.tape, hf.output, hf.size, fun k hk => hf.block k hk fun h => h⟩
end Go.Proofs.YtpffclpheldabaaGreatDoor
/- What the package variable names.basesTable holds, by the row's own words. Conditions: none. -/
set_option linter.unusedVariables false
set_option linter.unusedSimpArgs false
namespace Go.Proofs.YtpffclpheldabaaGreatDoor
open Go.RowKit Go.Our Go.ChangeShapes Go.WideShapes Go.ChangeAt Go.Sx
theorem globOf {W : World} {l : List (String × DataW Unit)} (hl : (l.filter fun x => x.2.handleName?.isNone).filter (fun x => x.1 == "tessera/names.basesTable") = [("tessera/names.basesTable", Lib.tabData .i32 basesTableInts)]) (h : laidMetH Tryz.prog l W) : GlobOK W := by
  have h1 := laidMet.filter (fun x => x.1 == "tessera/names.basesTable") (laidMetH_iff.1 h).1
  rw [hl] at h1
  have hT : Lib.TabIs Tryz.prog W "tessera/names.basesTable" .i32 basesTableInts :=
    Lib.tabIs_of_head (rest := []) (g := 1) (by kernel_rfl) (by kernel_rfl) Tryz.underlying198 Tryz.underlying21 (by kernel_rfl) (by kernel_rfl) h1
  have hc : ∀ i, i < 24 → W.cell? ⟨1, i, none⟩ = some (.int .i32 (basesTableInts.getD i 0)) := fun i hi => hT.cell (by kernel_rfl) i hi
  intro g h hg
  simp only [tab] at hg
  rw [lkp_cons] at hg
  split at hg
  case isFalse => simp [lkp] at hg
  rename_i eg
  subst eg
  injection hg with hg
  subst hg
  have h0 := hc 0 (by omega)
  unfold World.cell? at h0
  split at h0
  case h_2 => cases h0
  rename_i c T fz hh
  have hall : ∀ i, i < 24 → c[i]? = some (.int .i32 (basesTableInts.getD i 0)) := by
    intro i hi
    have := hc i hi
    unfold World.cell? at this
    simp only at this hh
    rw [hh] at this
    simpa using this
  simp only at hh
  refine ⟨?_, (Array.getElem?_eq_some_iff.1 hh).1⟩
  simp only [HpSat]
  refine .inr ⟨⟨1, 0, 0⟩, c, T, fz, rfl, hh, fun h => (by cases h), fun i row hr => ?_⟩
  unfold basesTableRows at hr
  rw [List.getElem?_map] at hr
  obtain ⟨x, hx, rfl⟩ := Option.map_eq_some_iff.1 hr
  have hi : i < 24 := (List.getElem?_eq_some_iff.1 hx).1
  refine ⟨rfl, fun j sv hj => ?_⟩
  cases j with
  | succ j => simp at hj
  | zero =>
    simp only [List.getElem?_cons_zero, Option.some.injEq] at hj
    subst hj
    refine ⟨_, by simp only [Nat.zero_add, Nat.mul_one, Nat.add_zero]; exact hall i hi, rfl, ?_⟩
    simp only [Den, List.getD, hx, Option.getD_some]
end Go.Proofs.YtpffclpheldabaaGreatDoor
/- Texts that come in: how they read. Conditions: none. -/
set_option linter.unusedVariables false
namespace Go.Proofs.YtpffclpheldabaaGreatDoor
open Go.Sx Go.Our Go.RowKit
theorem den_str (s : ByteArray) {η : Env} : Den η (.str s.data.toList) (.string s) := by
  simp only [Den]
theorem str_small {H : Type} {P : Program} {t : TypeId} {s : ByteArray} (h : ((DataW.lit (.string s.data.toList) : DataW H).weights P t).all (fun x => decide (x ≤ reachBytes)) = true) : s.data.toList.length ≤ 140737488351232 := by
  simp only [DataW.weights, List.all_cons, List.all_nil, Bool.and_true, decide_eq_true_eq] at h
  unfold reachBytes at h
  exact h
end Go.Proofs.YtpffclpheldabaaGreatDoor
/- utf: what stands at a place of a text, walked. Conditions: none. -/
set_option linter.unusedVariables false
set_option linter.unusedSimpArgs false
set_option maxRecDepth 20000
namespace Go.Proofs.YtpffclpheldabaaGreatDoor
open Go.Sx Go.Our
theorem lead_does (c : Int) (hc : 0 ≤ c ∧ c < 256) : Does Tryz.prog tab 130 0 [.int .u8 c] [] [] (Val (.tup [.int .i64 (leadM c).1, .int .i32 (leadM c).2])) := by
  refine Does.enter tabOK (g := 130) (fn := Tryz.f130) Tryz.call130 Tryz.func130 rfl 30 rfl rfl [.tmp 2, .tmp 3] rfl ?_
  intro w0 F η0 h0
  conv => whnf
  repeat' ((first | with_reducible refine IF.tt ?_ | with_reducible refine IF.ff ?_ | ((with_reducible refine NEED.mk ?_ ?_); (first | with_reducible rfl | omega | (simp (disch := omega) only [lnB, wrap64, wrap32] <;> omega) | (intro h; (try simp (disch := omega) only [hsB, hsC, lnB, wrap64, wrap32, simprocAttr] at h); (first | omega | (simp (disch := omega) only [lnB, wrap64, wrap32] <;> omega))) | (exact needApp 256 rfl rfl (by simp) (by simp) (by omega)) | (simp <;> omega))) | ((with_reducible apply GET.at); rfl) | ((with_reducible apply GETG.at); rfl) | ((with_reducible refine IF.mk (fun h => ?_) (fun h => ?_)) <;> (try simp (disch := omega) only [hsB, hsC, lnB, wrap64, wrap32, simprocAttr] at h) <;> try (exfalso; omega))) <;> conv => whnf)
  all_goals (refine FIN.value h0 rfl ?_; unfold leadM; (first | (simp (disch := omega) only [↓if_pos, ↓if_neg, ite_self, wrap64, wrap32, Int.reduceAdd, Int.reduceSub, Int.reduceMul, Int.reduceNeg, and31, and15, and7]; done) | (simp (disch := omega) only [↓if_pos, ↓if_neg, ite_self, wrap64, wrap32, Int.reduceAdd, Int.reduceSub, Int.reduceMul, Int.reduceNeg, and31, and15, and7]; with_reducible rfl)))
theorem scalar_does (r : Int) : Does Tryz.prog tab 132 0 [.int .i32 r] [] [] (Val (.bool (scalarM r))) := by
  refine Does.enter tabOK (g := 132) (fn := Tryz.f132) Tryz.call132 Tryz.func132 rfl 17 rfl rfl [.tmp 2] rfl ?_
  intro w0 F η0 h0
  conv => whnf
  repeat' ((first | with_reducible refine IF.tt ?_ | with_reducible refine IF.ff ?_ | ((with_reducible refine NEED.mk ?_ ?_); (first | with_reducible rfl | omega | (simp (disch := omega) only [lnB, wrap64, wrap32] <;> omega) | (intro h; (try simp (disch := omega) only [hsB, hsC, lnB, wrap64, wrap32, simprocAttr] at h); (first | omega | (simp (disch := omega) only [lnB, wrap64, wrap32] <;> omega))) | (exact needApp 256 rfl rfl (by simp) (by simp) (by omega)) | (simp <;> omega))) | ((with_reducible apply GET.at); rfl) | ((with_reducible apply GETG.at); rfl) | ((with_reducible refine IF.mk (fun h => ?_) (fun h => ?_)) <;> (try simp (disch := omega) only [hsB, hsC, lnB, wrap64, wrap32, simprocAttr] at h) <;> try (exfalso; omega))) <;> conv => whnf)
  refine FIN.value h0 rfl (congrArg SV.bool ?_)
  rw [Bool.eq_iff_iff, scalarM_true]
  simp only [Bool.cond_eq_ite, decide_eq_true_eq, Bool.if_false_right, Bool.if_true_left, Bool.and_eq_true, Bool.or_eq_true]
  omega
theorem least_does (n : Int) (hn : 0 ≤ n ∧ n < 5) : Does Tryz.prog tab 131 0 [.int .i64 n] [] [] (Val (.int .i32 (leastM n))) := by
  have hn : n = 0 ∨ n = 1 ∨ n = 2 ∨ n = 3 ∨ n = 4 := by omega
  rcases hn with rfl | rfl | rfl | rfl | rfl
  all_goals
    refine Does.enter tabOK (g := 131) (fn := Tryz.f131) Tryz.call131 Tryz.func131 rfl 6 rfl rfl [.tmp 2] rfl ?_
    intro w0 F η0 h0
    conv => whnf
    repeat' ((first | with_reducible refine IF.tt ?_ | with_reducible refine IF.ff ?_ | ((with_reducible refine NEED.mk ?_ ?_); (first | with_reducible rfl | omega | (simp (disch := omega) only [lnB, wrap64, wrap32] <;> omega) | (intro h; (try simp (disch := omega) only [hsB, hsC, lnB, wrap64, wrap32, simprocAttr] at h); (first | omega | (simp (disch := omega) only [lnB, wrap64, wrap32] <;> omega))) | (exact needApp 256 rfl rfl (by simp) (by simp) (by omega)) | (simp <;> omega))) | ((with_reducible apply GET.at); rfl) | ((with_reducible apply GETG.at); rfl) | ((with_reducible refine IF.mk (fun h => ?_) (fun h => ?_)) <;> (try simp (disch := omega) only [hsB, hsC, lnB, wrap64, wrap32, simprocAttr] at h) <;> try (exfalso; omega))) <;> conv => whnf)
    exact FIN.value h0 rfl rfl
theorem lead_at {c : Int} {n r : Int} (hc : 0 ≤ c ∧ c < 256) (h : leadM c = (n, r)) : Does Tryz.prog tab 130 0 [.int .u8 c] [] [] (Val (.tup [.int .i64 n, .int .i32 r])) := by
  have := lead_does c hc
  rw [h] at this
  exact this
theorem next_does (s : List UInt8) (i : Int) (hs : Sm s) : Does Tryz.prog tab 96 0 [.str s, .int .i64 i] [] [] (Val (.tup [.int .i32 (nextAt s i).1, .int .i64 (nextAt s i).2])) := by
  refine Does.enter tabOK (g := 96) (fn := Tryz.f96) Tryz.call96 Tryz.func96 rfl 65 rfl rfl [.tmp 4, .tmp 5] rfl ?_
  intro w0 F η0 h0
  conv => whnf
  repeat' ((first | with_reducible refine IF.tt ?_ | with_reducible refine IF.ff ?_ | ((with_reducible refine NEED.mk ?_ ?_); (first | with_reducible rfl | omega | (simp (disch := omega) only [lnB, wrap64, wrap32] <;> omega) | (intro h; (try simp (disch := omega) only [hsB, hsC, lnB, wrap64, wrap32, simprocAttr] at h); (first | omega | (simp (disch := omega) only [lnB, wrap64, wrap32] <;> omega))) | (exact needApp 256 rfl rfl (by simp) (by simp) (by omega)) | (simp <;> omega))) | ((with_reducible apply GET.at); rfl) | ((with_reducible apply GETG.at); rfl) | ((with_reducible refine IF.mk (fun h => ?_) (fun h => ?_)) <;> (try simp (disch := omega) only [hsB, hsC, lnB, wrap64, wrap32, simprocAttr] at h) <;> try (exfalso; omega))) <;> conv => whnf)
  · refine FIN.value h0 rfl ?_
    unfold nextAt; rw [if_pos h]
  · have e0 := byteAt_lt s i; have e1 := byteAt_lt s (i + 1); have e2 := byteAt_lt s (i + 2); have e3 := byteAt_lt s (i + 3)
    have hl := leadM_cases (byteAt s i)
    rcases hl with ⟨hb, hl⟩ | ⟨hb, hl⟩ | ⟨hb, hl⟩ | ⟨hb, hl⟩ | ⟨hb, hl⟩
    all_goals
      refine CALL.value (lead_at e0 hl) rfl rfl ?_
      conv => whnf
      repeat' ((first | with_reducible refine IF.tt ?_ | with_reducible refine IF.ff ?_ | refine CALL.value (least_does _ (by omega)) rfl rfl ?_ | (refine LOOP.once tabOK ?_; conv => whnf) | refine CALL.value (scalar_does _) rfl rfl ?_ | ((with_reducible refine NEED.mk ?_ ?_); (first | with_reducible rfl | omega | (simp (disch := omega) only [lnB, wrap64, wrap32] <;> omega) | (intro h; (try simp (disch := omega) only [hsB, hsC, lnB, wrap64, wrap32, simprocAttr] at h); (first | omega | (simp (disch := omega) only [lnB, wrap64, wrap32] <;> omega))) | (exact needApp 256 rfl rfl (by simp) (by simp) (by omega)) | (simp <;> omega))) | ((with_reducible apply GET.at); rfl) | ((with_reducible apply GETG.at); rfl) | ((with_reducible refine IF.mk (fun h => ?_) (fun h => ?_)) <;> (try simp (disch := omega) only [hsB, hsC, lnB, wrap64, wrap32, simprocAttr] at h) <;> try (exfalso; omega))) <;> conv => whnf)
    all_goals
      refine FIN.value h0 rfl ?_
      unfold nextAt decB r2 r3 r4
      try simp (disch := omega) only [or6, and192, leastM1, leastM2, leastM3, leastM4, scalarM_true, scalarM_false] at *
      (simp (disch := omega) only [↓if_pos, ↓if_neg, ite_self, wrap64, wrap32, Int.reduceAdd, Int.reduceSub, Int.reduceMul, Int.reduceNeg, or6])
theorem check_does (s : List UInt8) (hs : Sm s) : Does Tryz.prog tab 59 0 [.str s] [] [] (Val (.int .i64 (chk s 0))) := by
  refine Does.enter tabOK (g := 59) (fn := Tryz.f59) Tryz.call59 Tryz.func59 rfl 22 rfl rfl [.tmp 2] rfl ?_
  intro w0 F η0 h0
  conv => whnf
  refine LOOP.go tabOK [0] (X := Nat) (fun i => i ≤ s.length ∧ chk s i = chk s 0) (fun i => [(3, .int .i64 (i : Int))]) (fun _ => []) 0 (fun i => s.length - i) 0 ⟨by omega, rfl⟩ ?_
  conv => whnf
  refine ⟨by (refine GOES.cutting h0 rfl rfl rfl (by first | rfl | simp [belowO, belowH, plainLL_below, plainLL_map, plainL, plain]) ?_ ?_ <;> (repeat' (first | (with_reducible rfl) | (exact congrArg (fun n => SV.sl _ _ _ n _) (by simp)) | (exact congrArg (Hp.rows _) (by simp)) | (exact congrArg (SV.int _) (by first | omega | (simp (disch := omega) only [lnB, wrap64, wrap32] <;> omega) | (simp; done) | (simp <;> omega))) | ((conv => whnf); refine ⟨?_, ?_⟩) | exact trivial | (simp; done) | rfl))), ?_⟩
  rintro i ⟨hi, hc⟩
  conv => whnf
  have hn := nextAt_n s i
  repeat' ((first | with_reducible refine IF.tt ?_ | with_reducible refine IF.ff ?_ | refine CALL.value (next_does s _ hs) rfl rfl ?_ | ((with_reducible refine NEED.mk ?_ ?_); (first | with_reducible rfl | omega | (simp (disch := omega) only [lnB, wrap64, wrap32] <;> omega) | (intro h; (try simp (disch := omega) only [hsB, hsC, lnB, wrap64, wrap32, simprocAttr] at h); (first | omega | (simp (disch := omega) only [lnB, wrap64, wrap32] <;> omega))) | (exact needApp 256 rfl rfl (by simp) (by simp) (by omega)) | (simp <;> omega))) | ((with_reducible apply GET.at); rfl) | ((with_reducible apply GETG.at); rfl) | ((with_reducible refine IF.mk (fun h => ?_) (fun h => ?_)) <;> (try simp (disch := omega) only [hsB, hsC, lnB, wrap64, wrap32, simprocAttr] at h) <;> try (exfalso; omega))) <;> conv => whnf)
  · have hz : (nextAt s i).2 = 0 := h
    refine FIN.value h0 rfl ?_
    rw [← hc, chk_bad (by omega) hz]
  · rename_i h1
    refine ⟨i + (nextAt s i).2.toNat, ⟨by omega, ?_⟩, by omega, ?_⟩
    · rw [← hc, ← chk_step (by omega) h]
    · conv => whnf
      (refine GOES.cutting h0 rfl rfl rfl (by first | rfl | simp [belowO, belowH, plainLL_below, plainLL_map, plainL, plain]) ?_ ?_ <;> (repeat' (first | (with_reducible rfl) | (exact congrArg (fun n => SV.sl _ _ _ n _) (by simp)) | (exact congrArg (Hp.rows _) (by simp)) | (exact congrArg (SV.int _) (by first | omega | (simp (disch := omega) only [lnB, wrap64, wrap32] <;> omega) | (simp; done) | (simp <;> omega))) | ((conv => whnf); refine ⟨?_, ?_⟩) | exact trivial | (simp; done) | rfl)))
  · refine FIN.value h0 rfl ?_
    rw [← hc, chk_end (by omega)]
end Go.Proofs.YtpffclpheldabaaGreatDoor
/- The reference's utf, walked. Conditions: none. -/
set_option linter.unusedVariables false
set_option linter.unusedSimpArgs false
set_option maxRecDepth 20000
namespace Go.Proofs.YtpffclpheldabaaGreatDoor
open Go.Sx Go.Our
def plUtf040 : Plan := (planOf [(0, 1), (1, 1), (4, 1), (5, 1), (6, 1), (2, 2), (3, 1), (7, 2), (8, 1), (9, 1)])
def plUtf041 : Plan := (planOf [(0, 1), (1, 1), (2, 1), (3, 1), (6, 1), (7, 2), (4, 3), (5, 2), (8, 1), (9, 1)])
theorem ref04Scalar_does (r : Int) : Does Tryz.prog tab 146 0 [.int .i64 r] [] [] (Val (.bool (scalarM r))) := by
  refine Does.enter tabOK (g := 146) (fn := Tryz.f146) Tryz.call146 Tryz.func146 rfl 17 rfl rfl [.tmp 2] rfl ?_
  intro w0 F η0 h0
  conv => whnf
  repeat' ((first | with_reducible refine IF.tt ?_ | with_reducible refine IF.ff ?_ | ((with_reducible refine NEED.mk ?_ ?_); (first | with_reducible rfl | omega | (simp (disch := omega) only [lnB, wrap64, wrap32] <;> omega) | (intro h; (try simp (disch := omega) only [hsB, hsC, lnB, wrap64, wrap32, simprocAttr] at h); (first | omega | (simp (disch := omega) only [lnB, wrap64, wrap32] <;> omega))) | (exact needApp 256 rfl rfl (by simp) (by simp) (by omega)) | (simp <;> omega))) | ((with_reducible apply GET.at); rfl) | ((with_reducible apply GETG.at); rfl) | ((with_reducible refine IF.mk (fun h => ?_) (fun h => ?_)) <;> (try simp (disch := omega) only [hsB, hsC, lnB, wrap64, wrap32, simprocAttr] at h) <;> try (exfalso; omega))) <;> conv => whnf)
  refine FIN.value h0 rfl (congrArg SV.bool ?_)
  rw [Bool.eq_iff_iff, scalarM_true]
  simp only [Bool.cond_eq_ite, decide_eq_true_eq, Bool.if_false_right, Bool.if_true_left, Bool.and_eq_true, Bool.or_eq_true]
  omega
theorem ref04Bytes_does (r : Int) (hr : 0 ≤ r ∧ r ≤ 1114111) : Does Tryz.prog tab 107 0 [.int .i64 r] [] [] (NewBytes 0 (encM r)) := by
  refine Does.enter tabOK (g := 107) (fn := Tryz.f107) Tryz.call107 Tryz.func107 rfl 57 rfl rfl [.tmp 2] rfl ?_
  intro w0 F η0 h0
  conv => whnf
  repeat' ((first | with_reducible refine IF.tt ?_ | with_reducible refine IF.ff ?_ | ((with_reducible refine NEED.mk ?_ ?_); (first | with_reducible rfl | omega | (simp (disch := omega) only [lnB, wrap64, wrap32] <;> omega) | (intro h; (try simp (disch := omega) only [hsB, hsC, lnB, wrap64, wrap32, simprocAttr] at h); (first | omega | (simp (disch := omega) only [lnB, wrap64, wrap32] <;> omega))) | (exact needApp 256 rfl rfl (by simp) (by simp) (by omega)) | (simp <;> omega))) | ((with_reducible apply GET.at); rfl) | ((with_reducible apply GETG.at); rfl) | ((with_reducible refine IF.mk (fun h => ?_) (fun h => ?_)) <;> (try simp (disch := omega) only [hsB, hsC, lnB, wrap64, wrap32, simprocAttr] at h) <;> try (exfalso; omega))) <;> conv => whnf)
  all_goals
    refine FIN.rows h0 0 1 _ rfl rfl rfl rfl ?_
    unfold encM encI
    simp (disch := omega) only [↓if_pos, ↓if_neg, List.map_cons, List.map_nil, wrapu8, wrap64, tdivp, tmodp]
    refine ⟨rfl, ?_, rfl⟩
    simp (disch := omega) only [List.map_cons, List.map_nil, ← bytesRow_of]
theorem guess1_does (a : UInt8) : Does Tryz.prog tab 105 1 [.sl (.loc 0) 0 1 1 none] [] [(0, .rows 1 ([a].map Sx.bytesRow))] (ValK 1 (.int .i64 (guessM [a]))) := by
  have ha := a.toNat_lt
  refine Does.enter tabOK (g := 105) (fn := Tryz.f105) Tryz.call105 Tryz.func105 rfl 45 rfl rfl [.tmp 2] rfl ?_
  intro w0 F η0 h0
  conv => whnf
  repeat' ((first | with_reducible refine IF.tt ?_ | with_reducible refine IF.ff ?_ | refine DRAWN.of (id := 2) tabOK mixed plUtf040 (by kernel_rfl) ?_ | refine DRAWN.of (id := 8) tabOK mixed plUtf041 (by kernel_rfl) ?_ | with_reducible refine ADD.mk (fun _ _ => ?_) | with_reducible refine NEED.mk (Det.of rfl) ?_ | with_reducible refine FORK.mk ?_ ?_ | refine CALL.value (ref04Scalar_does _) rfl rfl ?_ | (refine LOOP.once tabOK ?_; conv => whnf) | (refine CALL.bytes (ref04Bytes_does _ (by simp (disch := omega) only [scalarM_true, wrap64, Int.sub_zero] at *; omega)) rfl ?_; conv => whnf) | (refine NEED.mk (needText (by simp)) ?_; conv => whnf) | ((with_reducible refine NEED.mk ?_ ?_); (first | with_reducible rfl | omega | (simp (disch := omega) only [lnB, wrap64, wrap32] <;> omega) | (intro h; (try simp (disch := omega) only [hsB, hsC, lnB, wrap64, wrap32, simprocAttr] at h); (first | omega | (simp (disch := omega) only [lnB, wrap64, wrap32] <;> omega))) | (exact needApp 256 rfl rfl (by simp) (by simp) (by omega)) | (simp <;> omega))) | ((with_reducible apply GET.at); rfl) | ((with_reducible apply GETG.at); rfl) | ((with_reducible refine IF.mk (fun h => ?_) (fun h => ?_)) <;> (try simp (disch := omega) only [hsB, hsC, lnB, wrap64, wrap32, simprocAttr] at h) <;> try (exfalso; omega))) <;> conv => whnf)
  all_goals
    refine FIN.valueK h0 rfl (congrArg (SV.int _) ?_)
    simp (disch := omega) only [wrap64, Int.sub_zero, List.drop_zero, ← List.map_take, unrow, List.take_length, List.take_succ_cons, List.take_zero, scalarM, decide_eq_true_eq, decide_eq_false_iff_not] at *
    simp_all [guessM, rawM, bn]
theorem guess2_does (a b : UInt8) : Does Tryz.prog tab 105 1 [.sl (.loc 0) 0 1 2 none] [] [(0, .rows 1 ([a, b].map Sx.bytesRow))] (ValK 1 (.int .i64 (guessM [a, b]))) := by
  have ha := a.toNat_lt; have hb := b.toNat_lt
  refine Does.enter tabOK (g := 105) (fn := Tryz.f105) Tryz.call105 Tryz.func105 rfl 45 rfl rfl [.tmp 2] rfl ?_
  intro w0 F η0 h0
  conv => whnf
  repeat' ((first | with_reducible refine IF.tt ?_ | with_reducible refine IF.ff ?_ | refine DRAWN.of (id := 2) tabOK mixed plUtf040 (by kernel_rfl) ?_ | refine DRAWN.of (id := 8) tabOK mixed plUtf041 (by kernel_rfl) ?_ | with_reducible refine ADD.mk (fun _ _ => ?_) | with_reducible refine NEED.mk (Det.of rfl) ?_ | with_reducible refine FORK.mk ?_ ?_ | refine CALL.value (ref04Scalar_does _) rfl rfl ?_ | (refine LOOP.once tabOK ?_; conv => whnf) | (refine CALL.bytes (ref04Bytes_does _ (by simp (disch := omega) only [scalarM_true, wrap64, Int.sub_zero] at *; omega)) rfl ?_; conv => whnf) | (refine NEED.mk (needText (by simp)) ?_; conv => whnf) | ((with_reducible refine NEED.mk ?_ ?_); (first | with_reducible rfl | omega | (simp (disch := omega) only [lnB, wrap64, wrap32] <;> omega) | (intro h; (try simp (disch := omega) only [hsB, hsC, lnB, wrap64, wrap32, simprocAttr] at h); (first | omega | (simp (disch := omega) only [lnB, wrap64, wrap32] <;> omega))) | (exact needApp 256 rfl rfl (by simp) (by simp) (by omega)) | (simp <;> omega))) | ((with_reducible apply GET.at); rfl) | ((with_reducible apply GETG.at); rfl) | ((with_reducible refine IF.mk (fun h => ?_) (fun h => ?_)) <;> (try simp (disch := omega) only [hsB, hsC, lnB, wrap64, wrap32, simprocAttr] at h) <;> try (exfalso; omega))) <;> conv => whnf)
  all_goals
    refine FIN.valueK h0 rfl (congrArg (SV.int _) ?_)
    simp (disch := omega) only [wrap64, Int.sub_zero, List.drop_zero, ← List.map_take, unrow, List.take_length, List.take_succ_cons, List.take_zero, scalarM, decide_eq_true_eq, decide_eq_false_iff_not] at *
    simp_all [guessM, rawM, bn]
theorem guess3_does (a b c : UInt8) : Does Tryz.prog tab 105 1 [.sl (.loc 0) 0 1 3 none] [] [(0, .rows 1 ([a, b, c].map Sx.bytesRow))] (ValK 1 (.int .i64 (guessM [a, b, c]))) := by
  have ha := a.toNat_lt; have hb := b.toNat_lt; have hc := c.toNat_lt
  refine Does.enter tabOK (g := 105) (fn := Tryz.f105) Tryz.call105 Tryz.func105 rfl 45 rfl rfl [.tmp 2] rfl ?_
  intro w0 F η0 h0
  conv => whnf
  repeat' ((first | with_reducible refine IF.tt ?_ | with_reducible refine IF.ff ?_ | refine DRAWN.of (id := 2) tabOK mixed plUtf040 (by kernel_rfl) ?_ | refine DRAWN.of (id := 8) tabOK mixed plUtf041 (by kernel_rfl) ?_ | with_reducible refine ADD.mk (fun _ _ => ?_) | with_reducible refine NEED.mk (Det.of rfl) ?_ | with_reducible refine FORK.mk ?_ ?_ | refine CALL.value (ref04Scalar_does _) rfl rfl ?_ | (refine LOOP.once tabOK ?_; conv => whnf) | (refine CALL.bytes (ref04Bytes_does _ (by simp (disch := omega) only [scalarM_true, wrap64, Int.sub_zero] at *; omega)) rfl ?_; conv => whnf) | (refine NEED.mk (needText (by simp)) ?_; conv => whnf) | ((with_reducible refine NEED.mk ?_ ?_); (first | with_reducible rfl | omega | (simp (disch := omega) only [lnB, wrap64, wrap32] <;> omega) | (intro h; (try simp (disch := omega) only [hsB, hsC, lnB, wrap64, wrap32, simprocAttr] at h); (first | omega | (simp (disch := omega) only [lnB, wrap64, wrap32] <;> omega))) | (exact needApp 256 rfl rfl (by simp) (by simp) (by omega)) | (simp <;> omega))) | ((with_reducible apply GET.at); rfl) | ((with_reducible apply GETG.at); rfl) | ((with_reducible refine IF.mk (fun h => ?_) (fun h => ?_)) <;> (try simp (disch := omega) only [hsB, hsC, lnB, wrap64, wrap32, simprocAttr] at h) <;> try (exfalso; omega))) <;> conv => whnf)
  all_goals
    refine FIN.valueK h0 rfl (congrArg (SV.int _) ?_)
    simp (disch := omega) only [wrap64, Int.sub_zero, List.drop_zero, ← List.map_take, unrow, List.take_length, List.take_succ_cons, List.take_zero, scalarM, decide_eq_true_eq, decide_eq_false_iff_not] at *
    simp_all [guessM, rawM, bn]
theorem guess4_does (a b c d : UInt8) : Does Tryz.prog tab 105 1 [.sl (.loc 0) 0 1 4 none] [] [(0, .rows 1 ([a, b, c, d].map Sx.bytesRow))] (ValK 1 (.int .i64 (guessM [a, b, c, d]))) := by
  have ha := a.toNat_lt; have hb := b.toNat_lt; have hc := c.toNat_lt; have hd := d.toNat_lt
  refine Does.enter tabOK (g := 105) (fn := Tryz.f105) Tryz.call105 Tryz.func105 rfl 45 rfl rfl [.tmp 2] rfl ?_
  intro w0 F η0 h0
  conv => whnf
  repeat' ((first | with_reducible refine IF.tt ?_ | with_reducible refine IF.ff ?_ | refine DRAWN.of (id := 2) tabOK mixed plUtf040 (by kernel_rfl) ?_ | refine DRAWN.of (id := 8) tabOK mixed plUtf041 (by kernel_rfl) ?_ | with_reducible refine ADD.mk (fun _ _ => ?_) | with_reducible refine NEED.mk (Det.of rfl) ?_ | with_reducible refine FORK.mk ?_ ?_ | refine CALL.value (ref04Scalar_does _) rfl rfl ?_ | (refine LOOP.once tabOK ?_; conv => whnf) | (refine CALL.bytes (ref04Bytes_does _ (by simp (disch := omega) only [scalarM_true, wrap64, Int.sub_zero] at *; omega)) rfl ?_; conv => whnf) | (refine NEED.mk (needText (by simp)) ?_; conv => whnf) | ((with_reducible refine NEED.mk ?_ ?_); (first | with_reducible rfl | omega | (simp (disch := omega) only [lnB, wrap64, wrap32] <;> omega) | (intro h; (try simp (disch := omega) only [hsB, hsC, lnB, wrap64, wrap32, simprocAttr] at h); (first | omega | (simp (disch := omega) only [lnB, wrap64, wrap32] <;> omega))) | (exact needApp 256 rfl rfl (by simp) (by simp) (by omega)) | (simp <;> omega))) | ((with_reducible apply GET.at); rfl) | ((with_reducible apply GETG.at); rfl) | ((with_reducible refine IF.mk (fun h => ?_) (fun h => ?_)) <;> (try simp (disch := omega) only [hsB, hsC, lnB, wrap64, wrap32, simprocAttr] at h) <;> try (exfalso; omega))) <;> conv => whnf)
  all_goals
    refine FIN.valueK h0 rfl (congrArg (SV.int _) ?_)
    simp (disch := omega) only [wrap64, Int.sub_zero, List.drop_zero, ← List.map_take, unrow, List.take_length, List.take_succ_cons, List.take_zero, scalarM, decide_eq_true_eq, decide_eq_false_iff_not] at *
    simp_all [guessM, rawM, bn]
theorem guess_does (l : List UInt8) (hl : 1 ≤ l.length ∧ l.length ≤ 4) : Does Tryz.prog tab 105 1 [.sl (.loc 0) 0 1 l.length none] [] [(0, .rows 1 (l.map Sx.bytesRow))] (ValK 1 (.int .i64 (guessM l))) := by
  match l, hl with
  | [a], _ => exact guess1_does a
  | [a, b], _ => exact guess2_does a b
  | [a, b, c], _ => exact guess3_does a b c
  | [a, b, c, d], _ => exact guess4_does a b c d
  | [], h => simp at h
  | _ :: _ :: _ :: _ :: _ :: _, h => simp at h
theorem ref04Next_does (s : List UInt8) (i : Int) (hs : Sm s) : Does Tryz.prog tab 68 0 [.str s, .int .i64 i] [] [] (Val (.tup [.int .i64 (nextAt s i).1, .int .i64 (nextAt s i).2])) := by
  refine Does.enter tabOK (g := 68) (fn := Tryz.f68) Tryz.call68 Tryz.func68 rfl 40 rfl rfl [.tmp 4, .tmp 5] rfl ?_
  intro w0 F η0 h0
  conv => whnf
  repeat' ((first | with_reducible refine IF.tt ?_ | with_reducible refine IF.ff ?_ | (refine LOOP.once tabOK ?_; conv => whnf) | (refine CALL.look1 _ (guess_does _ (by simp (disch := omega) only [wrap64, List.length_take, List.length_drop]; omega)) rfl rfl rfl rfl (plainBytes _) rfl ?_; conv => whnf) | ((with_reducible refine NEED.mk ?_ ?_); (first | with_reducible rfl | omega | (simp (disch := omega) only [lnB, wrap64, wrap32] <;> omega) | (intro h; (try simp (disch := omega) only [hsB, hsC, lnB, wrap64, wrap32, simprocAttr] at h); (first | omega | (simp (disch := omega) only [lnB, wrap64, wrap32] <;> omega))) | (exact needApp 256 rfl rfl (by simp) (by simp) (by omega)) | (simp <;> omega))) | ((with_reducible apply GET.at); rfl) | ((with_reducible apply GETG.at); rfl) | ((with_reducible refine IF.mk (fun h => ?_) (fun h => ?_)) <;> (try simp (disch := omega) only [hsB, hsC, lnB, wrap64, wrap32, simprocAttr] at h) <;> try (exfalso; omega))) <;> conv => whnf)
  all_goals
    refine FIN.value h0 rfl ?_
    first
      | (unfold nextAt; rw [if_pos (by assumption)])
      | (rw [nextAt_guess (by omega)]; simp (disch := omega) only [↓if_pos, ↓if_neg, wrap64, Int.reduceAdd])
theorem ref04Check_does (s : List UInt8) (hs : Sm s) : Does Tryz.prog tab 67 0 [.str s] [] [] (Val (.int .i64 (chk s 0))) := by
  refine Does.enter tabOK (g := 67) (fn := Tryz.f67) Tryz.call67 Tryz.func67 rfl 22 rfl rfl [.tmp 2] rfl ?_
  intro w0 F η0 h0
  conv => whnf
  refine LOOP.go tabOK [0] (X := Nat) (fun i => i ≤ s.length ∧ chk s i = chk s 0) (fun i => [(3, .int .i64 (i : Int))]) (fun _ => []) 0 (fun i => s.length - i) 0 ⟨by omega, rfl⟩ ?_
  conv => whnf
  refine ⟨by (refine GOES.cutting h0 rfl rfl rfl (by first | rfl | simp [belowO, belowH, plainLL_below, plainLL_map, plainL, plain]) ?_ ?_ <;> (repeat' (first | (with_reducible rfl) | (exact congrArg (fun n => SV.sl _ _ _ n _) (by simp)) | (exact congrArg (Hp.rows _) (by simp)) | (exact congrArg (SV.int _) (by first | omega | (simp (disch := omega) only [lnB, wrap64, wrap32] <;> omega) | (simp; done) | (simp <;> omega))) | ((conv => whnf); refine ⟨?_, ?_⟩) | exact trivial | (simp; done) | rfl))), ?_⟩
  rintro i ⟨hi, hc⟩
  conv => whnf
  have hn := nextAt_n s i
  repeat' ((first | with_reducible refine IF.tt ?_ | with_reducible refine IF.ff ?_ | refine CALL.value (ref04Next_does s _ hs) rfl rfl ?_ | ((with_reducible refine NEED.mk ?_ ?_); (first | with_reducible rfl | omega | (simp (disch := omega) only [lnB, wrap64, wrap32] <;> omega) | (intro h; (try simp (disch := omega) only [hsB, hsC, lnB, wrap64, wrap32, simprocAttr] at h); (first | omega | (simp (disch := omega) only [lnB, wrap64, wrap32] <;> omega))) | (exact needApp 256 rfl rfl (by simp) (by simp) (by omega)) | (simp <;> omega))) | ((with_reducible apply GET.at); rfl) | ((with_reducible apply GETG.at); rfl) | ((with_reducible refine IF.mk (fun h => ?_) (fun h => ?_)) <;> (try simp (disch := omega) only [hsB, hsC, lnB, wrap64, wrap32, simprocAttr] at h) <;> try (exfalso; omega))) <;> conv => whnf)
  · have hz : (nextAt s i).2 = 0 := h
    refine FIN.value h0 rfl ?_
    rw [← hc, chk_bad (by omega) hz]
  · rename_i h1
    refine ⟨i + (nextAt s i).2.toNat, ⟨by omega, ?_⟩, by omega, ?_⟩
    · rw [← hc, ← chk_step (by omega) h]
    · conv => whnf
      (refine GOES.cutting h0 rfl rfl rfl (by first | rfl | simp [belowO, belowH, plainLL_below, plainLL_map, plainL, plain]) ?_ ?_ <;> (repeat' (first | (with_reducible rfl) | (exact congrArg (fun n => SV.sl _ _ _ n _) (by simp)) | (exact congrArg (Hp.rows _) (by simp)) | (exact congrArg (SV.int _) (by first | omega | (simp (disch := omega) only [lnB, wrap64, wrap32] <;> omega) | (simp; done) | (simp <;> omega))) | ((conv => whnf); refine ⟨?_, ?_⟩) | exact trivial | (simp; done) | rfl)))
  · refine FIN.value h0 rfl ?_
    rw [← hc, chk_end (by omega)]
end Go.Proofs.YtpffclpheldabaaGreatDoor
/- The library's searches in texts, walked. Conditions: none. -/
set_option linter.unusedVariables false
set_option linter.unusedSimpArgs false
set_option maxRecDepth 20000
namespace Go.Proofs.YtpffclpheldabaaGreatDoor
open Go.Sx Go.Our
theorem indexByteString_does (s : List UInt8) (c : Int) : Does Tryz.prog tab 147 0 [.str s, .int .u8 c] [] [] (Val (.int .i64 (Lib.indexByte s c.toNat.toUInt8))) := by
  refine Does.says fun η w vs hd => ?_
  simp only [DenL, Den] at hd
  obtain ⟨u, us, rfl, rfl, u', us', rfl, rfl, rfl⟩ := hd
  refine ⟨_, ?_, rfl⟩
  rw [run_callFunc_extern Tryz.func147 (by kernel_rfl) (by kernel_rfl) (by kernel_rfl) (e := Extern.BytealgIndexByte.indexByte) (by kernel_rfl), Lib.run_indexByteString]
  rfl
theorem slIndexByte_does (s : List UInt8) (c : Int) : Does Tryz.prog tab 108 0 [.str s, .int .u8 c] [] [] (Val (.int .i64 (Lib.indexByte s c.toNat.toUInt8))) := by
  refine Does.enter tabOK (g := 108) (fn := Tryz.f108) Tryz.call108 Tryz.func108 rfl 8 rfl rfl [.tmp 4] rfl ?_
  intro w0 F η0 h0
  conv => whnf
  repeat' ((first | with_reducible refine IF.tt ?_ | with_reducible refine IF.ff ?_ | refine CALL.value (indexByteString_does _ _) rfl rfl ?_ | ((with_reducible refine NEED.mk ?_ ?_); (first | with_reducible rfl | omega | (simp (disch := omega) only [lnB, wrap64, wrap32] <;> omega) | (intro h; (try simp (disch := omega) only [hsB, hsC, lnB, wrap64, wrap32, simprocAttr] at h); (first | omega | (simp (disch := omega) only [lnB, wrap64, wrap32] <;> omega))) | (exact needApp 256 rfl rfl (by simp) (by simp) (by omega)) | (simp <;> omega))) | ((with_reducible apply GET.at); rfl) | ((with_reducible apply GETG.at); rfl) | ((with_reducible refine IF.mk (fun h => ?_) (fun h => ?_)) <;> (try simp (disch := omega) only [hsB, hsC, lnB, wrap64, wrap32, simprocAttr] at h) <;> try (exfalso; omega))) <;> conv => whnf)
  exact FIN.value h0 rfl rfl
theorem indexByte_does (s : List UInt8) (c : Int) : Does Tryz.prog tab 70 0 [.str s, .int .u8 c] [] [] (Val (.int .i64 (Lib.indexByte s c.toNat.toUInt8))) := by
  refine Does.enter tabOK (g := 70) (fn := Tryz.f70) Tryz.call70 Tryz.func70 rfl 8 rfl rfl [.tmp 4] rfl ?_
  intro w0 F η0 h0
  conv => whnf
  repeat' ((first | with_reducible refine IF.tt ?_ | with_reducible refine IF.ff ?_ | refine CALL.value (slIndexByte_does _ _) rfl rfl ?_ | ((with_reducible refine NEED.mk ?_ ?_); (first | with_reducible rfl | omega | (simp (disch := omega) only [lnB, wrap64, wrap32] <;> omega) | (intro h; (try simp (disch := omega) only [hsB, hsC, lnB, wrap64, wrap32, simprocAttr] at h); (first | omega | (simp (disch := omega) only [lnB, wrap64, wrap32] <;> omega))) | (exact needApp 256 rfl rfl (by simp) (by simp) (by omega)) | (simp <;> omega))) | ((with_reducible apply GET.at); rfl) | ((with_reducible apply GETG.at); rfl) | ((with_reducible refine IF.mk (fun h => ?_) (fun h => ?_)) <;> (try simp (disch := omega) only [hsB, hsC, lnB, wrap64, wrap32, simprocAttr] at h) <;> try (exfalso; omega))) <;> conv => whnf)
  exact FIN.value h0 rfl rfl
theorem validRune_does (r : Int) : Does Tryz.prog tab 195 0 [.int .i32 r] [] [] (Val (.bool (scalarM r))) := by
  refine Does.enter tabOK (g := 195) (fn := Tryz.f195) Tryz.call195 Tryz.func195 rfl 17 rfl rfl [.tmp 2] rfl ?_
  intro w0 F η0 h0
  conv => whnf
  repeat' ((first | with_reducible refine IF.tt ?_ | with_reducible refine IF.ff ?_ | ((with_reducible refine NEED.mk ?_ ?_); (first | with_reducible rfl | omega | (simp (disch := omega) only [lnB, wrap64, wrap32] <;> omega) | (intro h; (try simp (disch := omega) only [hsB, hsC, lnB, wrap64, wrap32, simprocAttr] at h); (first | omega | (simp (disch := omega) only [lnB, wrap64, wrap32] <;> omega))) | (exact needApp 256 rfl rfl (by simp) (by simp) (by omega)) | (simp <;> omega))) | ((with_reducible apply GET.at); rfl) | ((with_reducible apply GETG.at); rfl) | ((with_reducible refine IF.mk (fun h => ?_) (fun h => ?_)) <;> (try simp (disch := omega) only [hsB, hsC, lnB, wrap64, wrap32, simprocAttr] at h) <;> try (exfalso; omega))) <;> conv => whnf)
  all_goals
    refine FIN.value h0 rfl (congrArg SV.bool ?_)
    rw [Bool.eq_iff_iff, scalarM_true]
    simp
    try omega
theorem idxFunc_does (g : Nat) (p : Int → Bool) (hp : ∀ r : Int, Scalar r → Does Tryz.prog tab g 0 [.int .i32 r] [] [] (Val (.bool (p r)))) (s : List UInt8) (hs : Sm s) : Does Tryz.prog tab 165 0 [.str s, .fn (.func g) [] [], .bool true] [] [] (Val (.int .i64 (idxF p s 0))) := by
  refine Does.enter tabOK (g := 165) (fn := Tryz.f165) Tryz.call165 Tryz.func165 rfl 21 rfl rfl [.tmp 6] rfl ?_
  intro w0 F η0 h0
  conv => whnf
  refine LOOP.go tabOK [1, 2, 10] (X := Nat) (fun i => i ≤ s.length ∧ idxF p s i = idxF p s 0) (fun i => []) (fun i => [(0, .siter s i)]) 1 (fun i => s.length - i) 0 ⟨by omega, rfl⟩ ?_
  conv => whnf
  refine ⟨by (refine GOES.cutting h0 rfl rfl rfl (by first | rfl | simp [belowO, belowH, plainLL_below, plainLL_map, plainL, plain]) ?_ ?_ <;> (repeat' (first | (with_reducible rfl) | (exact congrArg (fun n => SV.sl _ _ _ n _) (by simp)) | (exact congrArg (Hp.rows _) (by simp)) | (exact congrArg (SV.int _) (by first | omega | (simp (disch := omega) only [lnB, wrap64, wrap32] <;> omega) | (simp; done) | (simp <;> omega))) | ((conv => whnf); refine ⟨?_, ?_⟩) | exact trivial | (simp; done) | rfl))), ?_⟩
  rintro i ⟨hi, hc⟩
  conv => whnf
  refine ⟨fun h => ?_, fun h => ?_⟩
  · have h : i < s.length := by simpa using h
    have hf := deco_fits s i h
    have hd := deco_pos s i
    conv => whnf
    repeat' ((first | with_reducible refine IF.tt ?_ | with_reducible refine IF.ff ?_ | refine CALL.value (hp _ (deco_scalar s i)) rfl rfl ?_ | ((with_reducible refine NEED.mk ?_ ?_); (first | with_reducible rfl | omega | (simp (disch := omega) only [lnB, wrap64, wrap32] <;> omega) | (intro h; (try simp (disch := omega) only [hsB, hsC, lnB, wrap64, wrap32, simprocAttr] at h); (first | omega | (simp (disch := omega) only [lnB, wrap64, wrap32] <;> omega))) | (exact needApp 256 rfl rfl (by simp) (by simp) (by omega)) | (simp <;> omega))) | ((with_reducible apply GET.at); rfl) | ((with_reducible apply GETG.at); rfl) | ((with_reducible refine IF.mk (fun h => ?_) (fun h => ?_)) <;> (try simp (disch := omega) only [hsB, hsC, lnB, wrap64, wrap32, simprocAttr] at h) <;> try (exfalso; omega))) <;> conv => whnf)
    · refine FIN.value h0 rfl ?_
      rw [← hc, idxF_at (by omega) (by simpa using h)]
    · refine ⟨i + (deco s i).2, ⟨by omega, ?_⟩, by omega, ?_⟩
      · rw [← hc, ← idxF_step (by omega) (by simpa using h)]
      · conv => whnf
        (refine GOES.cutting h0 rfl rfl rfl (by first | rfl | simp [belowO, belowH, plainLL_below, plainLL_map, plainL, plain]) ?_ ?_ <;> (repeat' (first | (with_reducible rfl) | (exact congrArg (fun n => SV.sl _ _ _ n _) (by simp)) | (exact congrArg (Hp.rows _) (by simp)) | (exact congrArg (SV.int _) (by first | omega | (simp (disch := omega) only [lnB, wrap64, wrap32] <;> omega) | (simp; done) | (simp <;> omega))) | ((conv => whnf); refine ⟨?_, ?_⟩) | exact trivial | (simp; done) | rfl)))
  · have h : s.length ≤ i := by simpa using h
    conv => whnf
    repeat' ((first | with_reducible refine IF.tt ?_ | with_reducible refine IF.ff ?_ | ((with_reducible refine NEED.mk ?_ ?_); (first | with_reducible rfl | omega | (simp (disch := omega) only [lnB, wrap64, wrap32] <;> omega) | (intro h; (try simp (disch := omega) only [hsB, hsC, lnB, wrap64, wrap32, simprocAttr] at h); (first | omega | (simp (disch := omega) only [lnB, wrap64, wrap32] <;> omega))) | (exact needApp 256 rfl rfl (by simp) (by simp) (by omega)) | (simp <;> omega))) | ((with_reducible apply GET.at); rfl) | ((with_reducible apply GETG.at); rfl) | ((with_reducible refine IF.mk (fun h => ?_) (fun h => ?_)) <;> (try simp (disch := omega) only [hsB, hsC, lnB, wrap64, wrap32, simprocAttr] at h) <;> try (exfalso; omega))) <;> conv => whnf)
    refine FIN.value h0 rfl ?_
    rw [← hc, idxF_end h]
theorem indexFunc_does (g : Nat) (p : Int → Bool) (hp : ∀ r : Int, Scalar r → Does Tryz.prog tab g 0 [.int .i32 r] [] [] (Val (.bool (p r)))) (s : List UInt8) (hs : Sm s) : Does Tryz.prog tab 121 0 [.str s, .fn (.func g) [] []] [] [] (Val (.int .i64 (idxF p s 0))) := by
  refine Does.enter tabOK (g := 121) (fn := Tryz.f121) Tryz.call121 Tryz.func121 rfl 8 rfl rfl [.tmp 4] rfl ?_
  intro w0 F η0 h0
  conv => whnf
  repeat' ((first | with_reducible refine IF.tt ?_ | with_reducible refine IF.ff ?_ | refine CALL.value (idxFunc_does g p hp s hs) rfl rfl ?_ | ((with_reducible refine NEED.mk ?_ ?_); (first | with_reducible rfl | omega | (simp (disch := omega) only [lnB, wrap64, wrap32] <;> omega) | (intro h; (try simp (disch := omega) only [hsB, hsC, lnB, wrap64, wrap32, simprocAttr] at h); (first | omega | (simp (disch := omega) only [lnB, wrap64, wrap32] <;> omega))) | (exact needApp 256 rfl rfl (by simp) (by simp) (by omega)) | (simp <;> omega))) | ((with_reducible apply GET.at); rfl) | ((with_reducible apply GETG.at); rfl) | ((with_reducible refine IF.mk (fun h => ?_) (fun h => ?_)) <;> (try simp (disch := omega) only [hsB, hsC, lnB, wrap64, wrap32, simprocAttr] at h) <;> try (exfalso; omega))) <;> conv => whnf)
  exact FIN.value h0 rfl rfl
end Go.Proofs.YtpffclpheldabaaGreatDoor
/- Escapes in plain words: what is written for a text. No program in sight. -/
set_option linter.unusedVariables false
set_option linter.unusedSimpArgs false
namespace Go.Our
open Go.Sx
def hexTab : List UInt8 := [48, 49, 50, 51, 52, 53, 54, 55, 56, 57, 65, 66, 67, 68, 69, 70]
def hexD (k : Int) : UInt8 := hexTab.getD k.toNat 0
def hex4 (n : Int) : List UInt8 := [hexD (n / 4096 % 16), hexD (n / 256 % 16), hexD (n / 16 % 16), hexD (n % 16)]
/-- What is written for a scalar. -/
def writtenM (way r : Int) : List UInt8 :=
  if way = 1 then
    if r = 8 then [92, 98] else if r = 9 then [92, 116] else if r = 10 then [92, 110] else if r = 12 then [92, 102] else if r = 13 then [92, 114] else if r = 34 then [92, 34] else if r = 92 then [92, 92]
    else if r < 32 ∨ r = 127 then [92, 117] ++ hex4 r else encM r
  else if Barred r then [92, 117] ++ hex4 r else encM r
theorem encM_le (r : Int) : (encM r).length ≤ 4 := by
  unfold encM encI
  (repeat' split) <;> simp
theorem written_len (way r : Int) : (writtenM way r).length ≤ 6 := by
  have := encM_le r
  unfold writtenM
  (repeat' split) <;> simp [hex4] <;> omega
/-- What is written for a text, from a place on. -/
def escFrom (way : Int) (s : List UInt8) (i : Nat) : List UInt8 :=
  if h : i < s.length ∧ (nextAt s i).2 ≠ 0 then writtenM way (nextAt s i).1 ++ escFrom way s (i + (nextAt s i).2.toNat) else []
termination_by s.length - i
decreasing_by have := nextAt_n s i; omega
theorem escFrom_end {way : Int} {s : List UInt8} {i : Nat} (h : s.length ≤ i) : escFrom way s i = [] := by rw [escFrom, dif_neg (by omega)]
theorem escFrom_step {way : Int} {s : List UInt8} {i : Nat} (h : i < s.length) (h0 : (nextAt s i).2 ≠ 0) : escFrom way s i = writtenM way (nextAt s i).1 ++ escFrom way s (i + (nextAt s i).2.toNat) := by
  conv => lhs; rw [escFrom]
  rw [dif_pos ⟨h, h0⟩]
theorem escFrom_len (way : Int) (s : List UInt8) (i : Nat) : (escFrom way s i).length ≤ 6 * (s.length - i) := by
  induction i using escFrom.induct s with
  | case1 i h ih =>
    rw [escFrom_step h.1 h.2]
    have h1 := nextAt_n s i
    have h2 := written_len way (nextAt s i).1
    simp only [List.length_append]
    omega
  | case2 i h => rw [escFrom, dif_neg h]; simp
/-- The text escaped: where it is no UTF-8, nothing. -/
def escM (way : Int) (s : List UInt8) : List UInt8 := if 0 ≤ chk s 0 then [] else escFrom way s 0
theorem chk_next {s : List UInt8} {i : Nat} (h : i < s.length) (hc : chk s i = -1) : (nextAt s i).2 ≠ 0 := by
  intro h0
  rw [chk_bad h h0] at hc
  omega
/-- A scalar by its place. -/
theorem nextAt_scalar {s : List UInt8} {i : Nat} (h : i < s.length) (hn : (nextAt s i).2 ≠ 0) : Scalar (nextAt s i).1 := by
  rw [← (deco_next h hn).1]; exact deco_scalar s i

/-! ### Bits -/
theorem small_all {k : Nat} {p : Int → Bool} (h : (List.range k).all (fun n => p (n : Int)) = true) {c : Int} (h0 : 0 ≤ c ∧ c < k) : p c = true := by
  have := List.all_eq_true.1 h c.toNat (List.mem_range.2 (by omega))
  rwa [show ((c.toNat : Nat) : Int) = c by omega] at this
theorem or192 {x : Int} (h : 0 ≤ x ∧ x < 32) : iOr .i32 192 x = 192 + x := by
  have := small_all (k := 32) (p := fun n => iOr .i32 192 n == 192 + n) (by decide +kernel) h
  simpa using this
theorem or224 {x : Int} (h : 0 ≤ x ∧ x < 16) : iOr .i32 224 x = 224 + x := by
  have := small_all (k := 16) (p := fun n => iOr .i32 224 n == 224 + n) (by decide +kernel) h
  simpa using this
theorem or240 {x : Int} (h : 0 ≤ x ∧ x < 8) : iOr .i32 240 x = 240 + x := by
  have := small_all (k := 8) (p := fun n => iOr .i32 240 n == 240 + n) (by decide +kernel) h
  simpa using this
theorem or128 {x : Int} (h : 0 ≤ x ∧ x < 64) : iOr .i32 128 x = 128 + x := by
  have := small_all (k := 64) (p := fun n => iOr .i32 128 n == 128 + n) (by decide +kernel) h
  simpa using this
theorem and63i {r : Int} (h : 0 ≤ r ∧ r ≤ 2147483647) : iAnd .i32 r 63 = r % 64 := by
  obtain ⟨n, rfl⟩ : ∃ n : Nat, r = n := ⟨r.toNat, by omega⟩
  unfold iAnd
  have h2 : (BitVec.ofInt IntKind.i32.bits (n : Int) &&& BitVec.ofInt IntKind.i32.bits 63).toNat = n % 64 := by
    rw [BitVec.toNat_and, ofInt_nat, show (63 : Int) = ((63 : Nat) : Int) from rfl, ofInt_nat]
    show n % 2 ^ 32 &&& 63 % 2 ^ 32 = _
    rw [Nat.mod_eq_of_lt (by omega), Nat.mod_eq_of_lt (by omega), show (63 : Nat) = 2 ^ 6 - 1 from rfl, Nat.and_two_pow_sub_one_eq_mod]
  rw [h2, wrap32 (by omega) (by omega)]
  omega
theorem shr_i32 {r : Int} (n : Nat) (hn : n ≤ 32) (h : 0 ≤ r) : iShr .i32 r (n : Int) = r / 2 ^ n := by
  unfold iShr
  rw [show min (Int.toNat (n : Int)) IntKind.i32.bits = n by show min _ 32 = n; omega, Int.fdiv_eq_ediv_of_nonneg _ (by exact Int.le_of_lt (Int.pow_pos (by omega)))]
theorem shr6 {r : Int} (h : 0 ≤ r) : iShr .i32 r 6 = r / 64 := shr_i32 6 (by omega) h
theorem shr12 {r : Int} (h : 0 ≤ r) : iShr .i32 r 12 = r / 4096 := shr_i32 12 (by omega) h
theorem shr18 {r : Int} (h : 0 ≤ r) : iShr .i32 r 18 = r / 262144 := shr_i32 18 (by omega) h
/-- The digits, as the program's own operations have them. -/
theorem hexP {n : Int} (h : 0 ≤ n ∧ n < 256) : [UInt8.ofNat (byteAt hexTab (iAnd .u64 (iShr .u64 n 12) 15)).toNat, UInt8.ofNat (byteAt hexTab (iAnd .u64 (iShr .u64 n 8) 15)).toNat, UInt8.ofNat (byteAt hexTab (iAnd .u64 (iShr .u64 n 4) 15)).toNat, UInt8.ofNat (byteAt hexTab (iAnd .u64 (iShr .u64 n 0) 15)).toNat] = hex4 n := by
  have := int_all (p := fun n => [UInt8.ofNat (byteAt hexTab (iAnd .u64 (iShr .u64 n 12) 15)).toNat, UInt8.ofNat (byteAt hexTab (iAnd .u64 (iShr .u64 n 8) 15)).toNat, UInt8.ofNat (byteAt hexTab (iAnd .u64 (iShr .u64 n 4) 15)).toNat, UInt8.ofNat (byteAt hexTab (iAnd .u64 (iShr .u64 n 0) 15)).toNat] == hex4 n) (by decide +kernel) h
  simpa using this
/-! ### The escapes of one letter -/
def lettersB : List UInt8 := [116, 98, 110, 114, 102, 34, 39, 92]
def meantB : List UInt8 := [9, 8, 10, 13, 12, 34, 39, 92]
abbrev mIdx (r : Int) : Int := Lib.indexByte meantB (IntKind.u8.wrap r).toNat.toUInt8
abbrev bIdx (r : Int) : Int := Lib.indexByte bars (IntKind.u8.wrap r).toNat.toUInt8
theorem mIdx_in {r : Int} (h : 0 ≤ r ∧ r < 128) (h39 : ¬ r = 39) (hi : 0 ≤ mIdx r) : mIdx r < 8 ∧ [92] ++ ((lettersB.drop (mIdx r).toNat).take 1) = writtenM 1 r := by
  have := small_all (k := 128) (p := fun n => decide (n = 39) || decide (mIdx n < 0) || (decide (mIdx n < 8) && ([92] ++ ((lettersB.drop (mIdx n).toNat).take 1)) == writtenM 1 n)) (by decide +kernel) h
  simp only [Bool.or_eq_true, decide_eq_true_eq, Bool.and_eq_true, beq_iff_eq] at this
  rcases this with (h1 | h1) | h1
  · exact absurd h1 h39
  · omega
  · exact h1
theorem mIdx_out {r : Int} (h : 0 ≤ r ∧ r < 128) (hi : mIdx r < 0) : writtenM 1 r = if r < 32 ∨ r = 127 then [92, 117] ++ hex4 r else encM r := by
  have := small_all (k := 128) (p := fun n => decide (0 ≤ mIdx n) || (decide (n ≠ 8) && decide (n ≠ 9) && decide (n ≠ 10) && decide (n ≠ 12) && decide (n ≠ 13) && decide (n ≠ 34) && decide (n ≠ 92))) (by decide +kernel) h
  simp only [Bool.or_eq_true, decide_eq_true_eq, Bool.and_eq_true, beq_iff_eq] at this
  rcases this with h1 | ⟨⟨⟨⟨⟨⟨h1, h2⟩, h3⟩, h4⟩, h5⟩, h6⟩, h7⟩
  · omega
  · unfold writtenM; simp [h1, h2, h3, h4, h5, h6, h7]
theorem bIdx_iff {r : Int} (h : 0 ≤ r ∧ r < 128) (h32 : 32 < r) : 0 ≤ bIdx r ↔ Barred r := by
  have := small_all (k := 128) (p := fun n => decide (n ≤ 32) || (decide (0 ≤ bIdx n) == decide (Barred n))) (by decide +kernel) h
  simp only [Bool.or_eq_true, decide_eq_true_eq, beq_iff_eq, decide_eq_decide] at this
  rcases this with h1 | h1
  · omega
  · exact h1
/-! ### The reference's digits and tables -/
theorem hexCut {x : Int} (h : 0 ≤ x ∧ x < 16) : (hexTab.drop x.toNat).take ((x + 1).toNat - x.toNat) = [hexD x] := by
  have := small_all (k := 16) (p := fun x => (hexTab.drop x.toNat).take ((x + 1).toNat - x.toNat) == [hexD x]) (by decide +kernel) h
  simpa using this
theorem fromAt : IntKind.i64.wrap (byteAt [8, 9, 10, 12, 13, 34, 92] 0) = 8 ∧ IntKind.i64.wrap (byteAt [8, 9, 10, 12, 13, 34, 92] 1) = 9 ∧ IntKind.i64.wrap (byteAt [8, 9, 10, 12, 13, 34, 92] 2) = 10 ∧ IntKind.i64.wrap (byteAt [8, 9, 10, 12, 13, 34, 92] 3) = 12 ∧
    IntKind.i64.wrap (byteAt [8, 9, 10, 12, 13, 34, 92] 4) = 13 ∧ IntKind.i64.wrap (byteAt [8, 9, 10, 12, 13, 34, 92] 5) = 34 ∧ IntKind.i64.wrap (byteAt [8, 9, 10, 12, 13, 34, 92] 6) = 92 := by decide +kernel
theorem noAt : IntKind.i64.wrap (byteAt [60, 62, 34, 123, 125, 124, 94, 96, 92] 0) = 60 ∧ IntKind.i64.wrap (byteAt [60, 62, 34, 123, 125, 124, 94, 96, 92] 1) = 62 ∧ IntKind.i64.wrap (byteAt [60, 62, 34, 123, 125, 124, 94, 96, 92] 2) = 34 ∧ IntKind.i64.wrap (byteAt [60, 62, 34, 123, 125, 124, 94, 96, 92] 3) = 123 ∧
    IntKind.i64.wrap (byteAt [60, 62, 34, 123, 125, 124, 94, 96, 92] 4) = 125 ∧ IntKind.i64.wrap (byteAt [60, 62, 34, 123, 125, 124, 94, 96, 92] 5) = 124 ∧ IntKind.i64.wrap (byteAt [60, 62, 34, 123, 125, 124, 94, 96, 92] 6) = 94 ∧ IntKind.i64.wrap (byteAt [60, 62, 34, 123, 125, 124, 94, 96, 92] 7) = 96 ∧
    IntKind.i64.wrap (byteAt [60, 62, 34, 123, 125, 124, 94, 96, 92] 8) = 92 := by decide +kernel
def hexR : Nat → Int → List UInt8
  | 0, _ => []
  | k + 1, r => hexR k (r / 16) ++ [hexD (r % 16)]
theorem hexR4 (n : Int) : hexR 4 n = hex4 n := by
  simp only [hexR, hex4, List.nil_append, List.cons_append]
  rw [show n / 16 / 16 / 16 % 16 = n / 4096 % 16 by omega, show n / 16 / 16 % 16 = n / 256 % 16 by omega]
theorem hex4_len (r : Int) : (hex4 r).length = 4 := rfl
theorem written_high {way r : Int} (h : 128 ≤ r) : writtenM way r = encM r := by
  have hb : ¬ Barred r := by unfold Barred; omega
  unfold writtenM
  simp (disch := omega) only [↓if_neg, hb, if_false, ite_self]
end Go.Our
/- strings.Builder: what its functions do to the builder, and to nothing else. Conditions: none. -/
set_option linter.unusedVariables false
set_option linter.unusedSimpArgs false
set_option maxRecDepth 100000
namespace Go.Proofs.YtpffclpheldabaaGreatDoor
open Go.Sx Go.RowKit
abbrev TB : TypeId := 95
abbrev TU : TypeId := 5
theorem cc_used (b : Nat) (w : World) (h0 : w.cell? ⟨b, 0, none⟩ = some (.pointer (some ⟨b, 0, none⟩))) :
    Calls Tryz.prog 97 #[.pointer (some ⟨b, 0, none⟩)] w fun e w' => e = .returned (.tuple #[]) ∧ w' = w := by
  obtain ⟨j, hj, _⟩ := Option.map_eq_some_iff.1 (show (Tryz.prog.info? TB).map (·.size) = some 2 by kernel_rfl)
  go_enter Tryz.func97, Tryz.ntmps97
  go_wp2
  rw [Lib.run_neq_ptr_same w _ Tryz.underlying92 hj]
  go_wp2
  go_end0
  exact ⟨rfl, rfl⟩
theorem cc_fresh (b : Nat) (w : World) (h0 : w.cell? ⟨b, 0, none⟩ = some (.pointer none)) (hsh : w.shape? b = some (TB, 2)) (hfz : w.frozen? ⟨b, 0, none⟩ = false) :
    Calls Tryz.prog 97 #[.pointer (some ⟨b, 0, none⟩)] w fun e w' => e = .returned (.tuple #[]) ∧ w' = w.setCell ⟨b, 0, none⟩ (.pointer (some ⟨b, 0, none⟩)) := by
  obtain ⟨j, hj, hjs⟩ := Option.map_eq_some_iff.1 (show (Tryz.prog.info? TB).map (·.size) = some 2 by kernel_rfl)
  go_enter Tryz.func97, Tryz.ntmps97
  go_wp2
  rw [Lib.run_to_unsafe w ⟨b, 0, none⟩ Tryz.underlying92 Tryz.underlying155 hj (by rw [hjs]; decide) hsh (Nat.zero_lt_succ 1)]
  simp only [Result.andThen]
  rw [Oper.upon_value]
  go_wp2
  rw [run_callFunc_extern Tryz.func133 (by kernel_rfl) (by kernel_rfl) (by kernel_rfl) (e := Extern.AbiNoEscape.same) (by kernel_rfl)]
  rw [Lib.run_noEscape]
  simp only [Result.andThen]
  rw [Oper.upon_value]
  go_wp2
  rw [Lib.run_from_unsafe w ⟨b, 0, none⟩ Tryz.underlying155 Tryz.underlying92 hj hsh (by kernel_rfl)]
  simp only [Result.andThen]
  rw [Oper.upon_value]
  go_wp2
  go_end0
  exact ⟨rfl, rfl⟩
/-- All blocks but the builder's and its buffer's stay. -/
structure Stays (b : Nat) (w w' : World) : Prop where
  os : w'.os = w.os
  tape : w'.tape = w.tape
  output : w'.output = w.output
  drawn : w.drawn ≤ w'.drawn
  size : w.heap.size ≤ w'.heap.size
  block : ∀ k, k < w.heap.size → k ≠ b → ¬ kid w b (.bld TB TU []) k → w'.heap[k]? = w.heap[k]?
  kids : ∀ k, kid w' b (.bld TB TU []) k → kid w b (.bld TB TU []) k ∨ w.heap.size ≤ k
/-- copyCheck: the builder is a used one. -/
theorem cc_any (b : Nat) (bs : List Value) (w : World) (h : Lib.IsBuilderF TB TU 0 b bs w) :
    Calls Tryz.prog 97 #[.pointer (some ⟨b, 0, none⟩)] w fun e w' => e = .returned (.tuple #[]) ∧ Lib.BuilderAtF TB TU 0 b (.pointer (some ⟨b, 0, none⟩)) bs w' ∧ (w' = w ∨ w' = w.setCell ⟨b, 0, none⟩ (.pointer (some ⟨b, 0, none⟩))) := by
  rcases h with h | h
  · refine (cc_fresh b w h.cell0 h.shape h.frozen0).mono ?_
    rintro e w' ⟨rfl, rfl⟩
    exact ⟨rfl, h.used _, .inr rfl⟩
  · refine (cc_used b w h.cell0).mono ?_
    rintro e w' ⟨rfl, rfl⟩
    exact ⟨rfl, h, .inl rfl⟩
section
variable {P : Program}
/-- The law of an append of a text, with the number of draws. -/
theorem append_str (w : World) (t u ty e : TypeId) (i : TypeInfo) (ht : P.underlying t = some (.slice e)) (hu : P.underlying u = some .string) (hi : P.info? e = some i) (hz : i.zero = some (.int .u8 0)) (hsize : i.size = 1) (hby : i.bytes = 1)
    (v : Value) (n : Nat) (xs : List Value) (hown : w.ownsRowF 0 e 1 v n xs) (s : ByteArray) (h63 : n + s.size ≤ 140737488355328) :
    ∃ v' w', (Builtin.append_ #[t, u] ty #[v, .string s]).run P w = .ok v' w' ∧ w'.ownsRowF 0 e 1 v' (n + s.size) (xs ++ Lib.strCells s) ∧ w.grownBy w' v.ownBlock ∧ w.drawn ≤ w'.drawn ∧ ∀ k, v'.ownBlock = some k → v.ownBlock = some k ∨ w.heap.size ≤ k := by
  have hm : n + s.size ≤ maxLen := by unfold maxLen; omega
  obtain ⟨v', w', hr, h1, h2, _⟩ := Lib.run_append_own_stringF (P := P) w 0 t u ty e i ht hu hi hz hsize hby v n xs hown s hm h63 (Nat.zero_le _)
  refine ⟨v', w', hr, h1, h2, ?_⟩
  rcases hown.2 with ⟨rfl, rfl⟩ | ⟨g, cap, cur, fz, rfl, hbg, hg, hfz, hnc, hcm, hcs, htake⟩
  · by_cases hs : s.size = 0
    · have hf := Lib.run_firstCells_string (P := P) w 1 s
      rw [hs] at hf
      have : (Builtin.append_ #[t, u] ty #[.slice none 0 0, .string s]).run P w = .ok (.slice none 0 0) w := by
        simp [Builtin.append_, run_underlying ht, run_underlying hu, sizeOf, typeInfo, hi, hsize, Builtin.lenOf, hs, hf]
      rw [this] at hr
      injection hr with hv hr
      rw [← hr, ← hv]; exact ⟨Nat.le_refl _, fun k hk => .inl hk⟩
    · rw [run_append_nil_string (P := P) w t u ty e i (.int .u8 0) ht hu hi hz s (by omega) (by omega) (by rw [hby]; omega)] at hr
      injection hr with hv hr
      rw [← hr, ← hv]
      refine ⟨Nat.le_succ _, fun k hk => .inr ?_⟩
      simp only [Value.ownBlock, Option.some.injEq] at hk
      omega
  · by_cases hroom : n + s.size ≤ cap
    · rw [Lib.run_append_room_stringF (P := P) w t u ty e i ht hu hi hsize g n cap cur fz hg (by simpa using hfz) s hroom (by omega)] at hr
      injection hr with hv hr
      rw [← hr, ← hv]; exact ⟨Nat.le_refl _, fun k hk => .inl hk⟩
    · have hxl : xs.length = n := by simpa using hown.1
      have holds : ∀ j u, xs[j]? = some u → w.cell? ((⟨g, 0, none⟩ : Addr).add j) = some u := hown.cells (g := g) rfl
      rw [Lib.run_append_grow_string (P := P) w t u ty e i (.int .u8 0) ht hu hi hz ⟨g, 0, none⟩ n cap xs (by rw [hsize]; simpa using hxl) holds s (by omega) (by omega) (by rw [hby]; exact growslice_fits (by omega) (by omega))] at hr
      injection hr with hv hr
      rw [← hr, ← hv]
      refine ⟨Nat.le_succ _, fun k hk => .inr ?_⟩
      simp only [Value.ownBlock, Option.some.injEq] at hk
      omega
theorem wpList_append_str {ops : Array Oper} {rest : List Oper} {o : Oper} {a : Act} {w : World} {Q : Exit → Act → World → Prop} (hgd : o.guard = none) (sl x : Operand) (t u : TypeId)
    (ho : o.op = .call { callee := .builtin .append, args := #[sl, x], argTypes := #[t, u] })
    (e : TypeId) (i : TypeInfo) (ht : P.underlying t = some (.slice e)) (hu : P.underlying u = some .string) (hi : P.info? e = some i) (hz : i.zero = some (.int .u8 0)) (hsize : i.size = 1) (hby : i.bytes = 1)
    (v : Value) (n : Nat) (xs : List Value) (hs : a.eval sl = v) (hown : w.ownsRowF 0 e 1 v n xs) (s : ByteArray) (hx : a.eval x = .string s) (h63 : n + s.size ≤ 140737488355328)
    (h : ∀ v' w', w'.ownsRowF 0 e 1 v' (n + s.size) (xs ++ Lib.strCells s) → w.grownBy w' v.ownBlock → w.drawn ≤ w'.drawn → (∀ k, v'.ownBlock = some k → v.ownBlock = some k ∨ w.heap.size ≤ k) → wpList P ops Q rest (a.put o.dst v') w') : wpList P ops Q (o :: rest) a w := by
  refine wpList_plain hgd fun K hK => ?_
  obtain ⟨v', w', hr, h2, h3, h4, h5⟩ := append_str (P := P) w t u o.type e i ht hu hi hz hsize hby v n xs hown s h63
  unfold Oper.wp execOp
  simp only [ho, resolve, invoke, builtin, Sem.run_bind, Sem.run_pure, Result.andThen_ok, List.map_toArray, List.map_cons, List.map_nil, hs, hx, hr]
  exact hK _ _ (h v' w' h2 h3 h4 h5)
end
set_option maxHeartbeats 1000000 in
theorem ws_any (b : Nat) (bs : List Value) (s : ByteArray) (w : World) (h : Lib.IsBuilderF TB TU 0 b bs w) (hlen : bs.length + s.size ≤ 140737488355328) :
    Calls Tryz.prog 61 #[.pointer (some ⟨b, 0, none⟩), .string s] w fun e w' => e = .returned (.tuple #[.int .i64 s.size, .nilIface]) ∧ Lib.BuilderAtF TB TU 0 b (.pointer (some ⟨b, 0, none⟩)) (bs ++ Lib.strCells s) w' ∧ Stays b w w' := by
  obtain ⟨i0, hi, hz0, hz1, hz2⟩ := info_parts (show (Tryz.prog.info? TU).map (fun i => (i.zero, i.size, i.bytes)) = some (some (.int .u8 0), 1, 1) by kernel_rfl)
  go_enter Tryz.func61, Tryz.ntmps61
  go_wp2_with (go_at_call 97; refine (cc_any b bs _ h).mono ?_)
  rintro e w1 ⟨rfl, h1, hw1⟩
  obtain ⟨hB, v, hbk, hown, hne⟩ := h1
  have c0 : w1.cell? ⟨b, 0, none⟩ = some (.pointer (some ⟨b, 0, none⟩)) := by rw [Lib.cell_of_heap hbk]; rfl
  have c1 : w1.cell? ⟨b, 1, none⟩ = some v := by rw [Lib.cell_of_heap hbk]; rfl
  go_wp2_with (at_builtin; refine wpList_append_str rfl _ _ 93 9 rfl TU i0 Tryz.underlying93 Tryz.underlying9 hi hz0 hz1 hz2 _ _ _ rfl hown s rfl ?c3 ?_)
  case c3 => exact hlen
  intro v' w2 hown' hgrow hdr hnew
  have hlt : b < w1.heap.size := (Array.getElem?_eq_some_iff.1 hbk).1
  have hb2 : w2.heap[b]? = some (.cells #[.pointer (some ⟨b, 0, none⟩), v] TB (0, 0)) := by
    rw [hgrow.block b hlt (fun e => hne e.symm)]
    exact hbk
  have d0 : w2.cell? ⟨b, 0, none⟩ = some (.pointer (some ⟨b, 0, none⟩)) := by rw [Lib.cell_of_heap hb2]; rfl
  have d1 : w2.cell? ⟨b, 1, none⟩ = some v := by rw [Lib.cell_of_heap hb2]; rfl
  have f1 : w2.frozen? ⟨b, 1, none⟩ = false := Lib.frozen_of_heap hb2 1
  obtain ⟨ao, n', cap, rfl⟩ : ∃ ao n' cap, v' = .slice ao n' cap := by
    rcases hown'.2 with ⟨hv, _⟩ | ⟨g, cap, cur, fz, hv, _⟩
    · exact ⟨_, _, _, hv⟩
    · exact ⟨_, _, _, hv⟩
  have other : ∀ k, k ≠ b → w1.heap[k]? = w.heap[k]? := by
    intro k hk
    rcases hw1 with rfl | rfl
    · rfl
    · exact Below.heap_setCell _ _ _ _ (fun e => hk (by simp [e]))
  have hsz1 : w1.heap.size = w.heap.size := by rcases hw1 with rfl | rfl <;> simp [World.setCell]
  have hkid : ∀ k, v.ownBlock = some k → kid w b (.bld TB TU []) k := by
    intro k hk
    simp only [kid]
    rcases hw1 with rfl | rfl
    · exact ⟨_, _, _, v, hbk, rfl, hk⟩
    · simp only [World.setCell, Array.getElem?_modify, if_pos, Option.map_eq_some_iff] at hbk
      obtain ⟨o, ho, hoc⟩ := hbk
      cases o with
      | cells arr T fz =>
        simp only [Obj.cells.injEq] at hoc
        obtain ⟨h1, h2, h3⟩ := hoc
        refine ⟨arr, T, fz, v, ho, ?_, hk⟩
        have := congrArg (fun a => a[1]?) h1
        simpa using this
      | _ => cases hoc
  go_wp2
  go_ret2
  refine ⟨rfl, ?_, ?_⟩
  · exact Lib.BuilderAtF.put (T := TB) (e := TU) hB hb2 (bs' := bs ++ Lib.strCells s) (by simpa [Lib.strCells_length] using hown') (by decide)
  · have w1os : w1.os = w.os ∧ w1.tape = w.tape ∧ w1.output = w.output ∧ w1.drawn = w.drawn := by rcases hw1 with rfl | rfl <;> exact ⟨rfl, rfl, rfl, rfl⟩
    refine ⟨hgrow.os.trans w1os.1, hgrow.tape.trans w1os.2.1, hgrow.output.trans w1os.2.2.1, by have h1 := w1os.2.2.2; show w.drawn ≤ w2.drawn; omega, ?_, fun k hk hkb hkk => ?_, fun k hk => ?_⟩
    · have := hgrow.size
      simp only [World.setCell, Array.size_modify]
      omega
    · have e1 : (w2.setCell ⟨b, 1, none⟩ (.slice ao n' cap)).heap[k]? = w2.heap[k]? := Below.heap_setCell _ _ _ _ (fun e => hkb (by simp [e]))
      rw [e1, hgrow.block k (by omega) (fun e => hkk (hkid k e.symm)), other k hkb]
    · have hA := Lib.BuilderAtF.put (T := TB) (e := TU) hB hb2 (bs' := bs ++ Lib.strCells s) (v' := .slice ao n' cap) (by simpa [Lib.strCells_length] using hown') (by decide)
      have e2 : (w2.setCell ⟨b, 1, none⟩ (.slice ao n' cap)).heap[b]? = some (.cells #[.pointer (some ⟨b, 0, none⟩), .slice ao n' cap] TB (0, 0)) := by
        simp [World.setCell, Array.getElem?_modify, hb2]
      simp only [kid] at hk
      obtain ⟨arr, T, fz, u, k1, k2, k3⟩ := hk
      rw [e2] at k1
      injection k1 with k1
      injection k1 with k1
      subst k1
      simp at k2
      subst k2
      rcases hnew k k3 with h1 | h1
      · exact .inl (hkid k h1)
      · exact .inr (by omega)
/-- From what a function does to a builder to the engine's contract. -/
theorem bld_does {f : FuncId} {rest : List SV} {l l' : List UInt8} {r : SV} (hcall : ∀ args w, (callFunc f args).run Tryz.prog w = .ok (.enter f args) w)
    (h : ∀ (η : Env) (b : Nat) (vs : List Value) (w : World), DenL η rest vs → Lib.IsBuilderF TB TU 0 b (Lib.byteCells l) w →
      Calls Tryz.prog f ⟨.pointer (some ⟨b, 0, none⟩) :: vs⟩ w fun e w' => ∃ v, e = .returned v ∧ Den η r v ∧ Lib.IsBuilderF TB TU 0 b (Lib.byteCells l') w' ∧ Stays b w w') :
    Does Tryz.prog tab f 1 (.ptr (.loc 0) 0 0 0 :: rest) [(0, .bld TB TU l)] [] fun r' O nx => r' = r ∧ O = [(0, .bld TB TU l')] ∧ nx = 1 := by
  refine ⟨fun M vs hP hT hF hS H hd => .inl ⟨f, by rw [hP]; exact hcall _ _, ?_⟩⟩
  obtain ⟨hsat, hfeet⟩ := H.own.1 0 _ rfl
  simp only [HpSat] at hsat
  obtain ⟨e, he, hb, hB⟩ := hsat
  simp only [DenL] at hd
  obtain ⟨u, us, rfl, hu, hus⟩ := hd
  simp only [Den] at hu
  obtain ⟨e', he', rfl⟩ := hu
  rw [he] at he'; injection he' with he'; injection he' with he'; subst he'
  rw [hP, hb]
  refine (h M.η0 e.g us M.w0 hus hB).mono fun en w' => ?_
  rintro ⟨v, rfl, hv, hB', hst⟩
  refine ⟨v, rfl, r, _, 1, M.η0, ⟨rfl, rfl, rfl⟩, List.prefix_rfl, ⟨List.prefix_rfl, H.len, ⟨?_, ?_⟩, ⟨hst.os, hst.tape, hst.output, hst.drawn, hst.size, ?_⟩, H.sok⟩, hv⟩
  · intro i g hi
    rw [lkp_cons] at hi
    split at hi
    · rename_i ei; subst ei; injection hi with hi; subst hi
      refine ⟨⟨e, he, hb, hB'⟩, fun k f => ?_⟩
      rcases f.of he with rfl | f
      · exact hfeet _ (feet.own he)
      · rcases hst.kids k f with f | f
        · exact hfeet k ⟨e, he, .inr f⟩
        · exact .inr f
    · simp [lkp] at hi
  · intro i j g g' k hi hj hij
    rw [lkp_cons] at hi hj
    split at hi
    · split at hj
      · rename_i e1 e2; exact (hij (e1.trans e2.symm)).elim
      · simp [lkp] at hj
    · simp [lkp] at hi
  · intro k hk hFk
    refine hst.block k hk (fun hkb => hFk ?_) fun f => hFk ?_
    · rw [hF]; exact ⟨0, _, rfl, hkb ▸ feet.own he⟩
    · rw [hF]; exact ⟨0, _, rfl, e, he, .inr f⟩
theorem writeString_does (l s : List UInt8) (hlen : l.length + s.length ≤ 140737488355328) :
    Does Tryz.prog tab 61 1 [.ptr (.loc 0) 0 0 0, .str s] [(0, .bld TB TU l)] [] fun r O nx => r = .tup [.int .i64 s.length, .val .nilIface] ∧ O = [(0, .bld TB TU (l ++ s))] ∧ nx = 1 := by
  refine bld_does Tryz.call61 fun η b vs w hd hB => ?_
  simp only [DenL, Den] at hd
  obtain ⟨u, us, rfl, rfl, rfl⟩ := hd
  refine (ws_any b _ ⟨s.toArray⟩ w hB (by rw [Lib.byteCells_length]; exact hlen)).mono fun e w' => ?_
  rintro ⟨rfl, h1, h2⟩
  refine ⟨_, rfl, ?_, .inr ?_, h2⟩
  · simp only [Den, DenL]
    exact ⟨_, rfl, _, _, rfl, rfl, _, _, rfl, ⟨rfl, rfl⟩, rfl⟩
  · have : Lib.byteCells (l ++ s) = Lib.byteCells l ++ Lib.strCells ⟨s.toArray⟩ := by simp [Lib.byteCells, Lib.strCells]
    rw [this]; exact h1
end Go.Proofs.YtpffclpheldabaaGreatDoor
/- strings.Builder: String. Conditions: none. -/
set_option linter.unusedVariables false
set_option linter.unusedSimpArgs false
set_option maxRecDepth 100000
namespace Go.Proofs.YtpffclpheldabaaGreatDoor
open Go.Sx Go.RowKit
theorem Stays.of {b : Nat} {w w' : World} (os : w'.os = w.os) (tape : w'.tape = w.tape) (output : w'.output = w.output) (drawn : w.drawn ≤ w'.drawn) (size : w.heap.size ≤ w'.heap.size) (hb : w'.heap[b]? = w.heap[b]?)
    (block : ∀ k, k < w.heap.size → k ≠ b → ¬ kid w b (.bld TB TU []) k → w'.heap[k]? = w.heap[k]?) : Stays b w w' := ⟨os, tape, output, drawn, size, block, fun k f => .inl (f.keep hb)⟩
theorem stays_drew (b : Nat) (w : World) : Stays b w w.drew := .of rfl rfl rfl (Nat.le_succ _) (Nat.le_refl _) rfl fun _ _ _ _ => rfl
set_option maxHeartbeats 2000000 in
theorem st_some (b : Nat) (l : List UInt8) (w : World) (h : Lib.IsBuilderF TB TU 0 b (Lib.byteCells l) w) (h0 : l ≠ []) :
    Calls Tryz.prog 63 #[.pointer (some ⟨b, 0, none⟩)] w fun e w' => e = .returned (.string ⟨l.toArray⟩) ∧ Lib.IsBuilderF TB TU 0 b (Lib.byteCells l) w' ∧ Stays b w w' := by
  obtain ⟨p, hp, hB, v, hbk, hown, hne⟩ : ∃ p, (p = .pointer none ∨ p = .pointer (some ⟨b, 0, none⟩)) ∧ Lib.BuilderAtF TB TU 0 b p (Lib.byteCells l) w := by
    rcases h with h | h
    · exact ⟨_, .inl rfl, h⟩
    · exact ⟨_, .inr rfl, h⟩
  have hl0 : l.length ≠ 0 := by simpa using h0
  have hA : Lib.BuilderAtF TB TU 0 b p (Lib.byteCells l) w := ⟨hB, v, hbk, hown, hne⟩
  rw [Lib.byteCells_length] at hown
  rcases hown.2 with ⟨_, hz⟩ | ⟨g, cap, cur, fz, rfl, hbg, hg, hfz, hnc, hcm, hcs, htake⟩
  · exact absurd hz hl0
  have c1 : w.drew.cell? ⟨b, 1, none⟩ = some (.slice (some ⟨g, 0, none⟩) l.length cap) := by
    have : w.drew.heap[b]? = some (.cells #[p, .slice (some ⟨g, 0, none⟩) l.length cap] TB (0, 0)) := hbk
    rw [Lib.cell_of_heap this]; rfl
  have hSD : (Builtin.unsafeSliceData_ #[93] 127 #[.slice (some ⟨g, 0, none⟩) l.length cap]).run Tryz.prog w.drew = .ok (.pointer (some ⟨g, 0, none⟩)) w.drew :=
    Lib.run_unsafeSliceData_row _ _ _ _ _ _ (by omega)
  have hUS : (Builtin.unsafeString_ #[127, 3] 9 #[.pointer (some ⟨g, 0, none⟩), .int .i64 l.length]).run Tryz.prog w.drew = .ok (.string ⟨l.toArray⟩) (w.drew.freeze ⟨g, 0, none⟩ l.length) := by
    refine Lib.run_unsafeString_row w.drew 127 3 9 TU Tryz.underlying127 (by kernel_rfl) g cur.size (by have hg' : w.drew.heap[g]? = some (.cells cur TU fz) := hg; simp [World.shape?, hg']) l h0 (by omega) (by unfold maxLen at hcm; omega) ?_
    intro j x hx
    exact hown.cells (g := g) rfl j (.int .u8 x.toNat) (by simp [Lib.byteCells, hx])
  have hF := (hA.drew).froze (g := g) (cap := cap) (by rw [Lib.byteCells_length]; exact c1)
  rw [Lib.byteCells_length] at hF
  have hkeep : Lib.IsBuilderF TB TU 0 b (Lib.byteCells l) (w.drew.freeze ⟨g, 0, none⟩ l.length) := by
    rcases hp with rfl | rfl
    · exact .inl hF
    · exact .inr hF
  have hgb : g ≠ b := fun e => hne (by simp [Value.ownBlock, e])
  obtain ⟨fn, hfr⟩ : ∃ fn, w.drew.freeze ⟨g, 0, none⟩ l.length = { w.drew with heap := w.drew.heap.modify g fn } := ⟨_, by unfold World.freeze; rw [if_neg hl0]⟩
  have hfre : ∀ k, k ≠ g → (w.drew.freeze ⟨g, 0, none⟩ l.length).heap[k]? = w.heap[k]? := by
    intro k hk
    rw [hfr]
    show (w.heap.modify g fn)[k]? = w.heap[k]?
    rw [Array.getElem?_modify, if_neg (Ne.symm hk)]
  have hst : Stays b w (w.drew.freeze ⟨g, 0, none⟩ l.length) := by
    refine .of (by rw [hfr]; rfl) (by rw [hfr]; rfl) (by rw [hfr]; rfl) (by rw [hfr]; exact Nat.le_succ _) ?_ (hfre b (Ne.symm hgb)) fun k hk hkb hkk => hfre k fun e => hkk ?_
    · rw [hfr]
      show w.heap.size ≤ (w.heap.modify g fn).size
      rw [Array.size_modify]; exact Nat.le_refl _
    · subst e
      simp only [kid]
      exact ⟨_, _, _, _, hbk, rfl, rfl⟩
  clear hA hF hp hne hB hfr hfre
  have mixed : Tryz.prog.follows .mixedOrders = true := by kernel_rfl
  go_enter Tryz.func63, Tryz.ntmps63
  go_wp2
  go_region_o
  all_goals (go_wp2; go_ret; exact ⟨rfl, hkeep, hst⟩)
theorem us_none (W : World) (q : Option Addr) : (Builtin.unsafeString_ #[127, 3] 9 #[.pointer q, .int .i64 0]).run Tryz.prog W = .ok (.string .empty) W := Lib.run_unsafeString_none W _ _ _ q
set_option maxHeartbeats 2000000 in
theorem st_nil (b : Nat) (p : Value) (w : World) (hbk : w.heap[b]? = some (.cells #[p, .slice none 0 0] TB (0, 0))) (hA : Lib.BuilderAtF TB TU 0 b p [] w) :
    Calls Tryz.prog 63 #[.pointer (some ⟨b, 0, none⟩)] w fun e w' => e = .returned (.string ⟨#[]⟩) ∧ Lib.BuilderAtF TB TU 0 b p [] w' ∧ Stays b w w' := by
  have hUS := us_none
  have c1 : w.drew.cell? ⟨b, 1, none⟩ = some (.slice none 0 0) := by
    have : w.drew.heap[b]? = some (.cells #[p, .slice none 0 0] TB (0, 0)) := hbk
    rw [Lib.cell_of_heap this]; rfl
  have hSD : (Builtin.unsafeSliceData_ #[93] 127 #[.slice none 0 0]).run Tryz.prog w.drew = .ok (.pointer none) w.drew := rfl
  have hA' := hA.drew
  have hst := stays_drew b w
  have mixed : Tryz.prog.follows .mixedOrders = true := by kernel_rfl
  go_enter Tryz.func63, Tryz.ntmps63
  go_wp2
  go_region_o
  all_goals (go_wp2; go_ret; exact ⟨rfl, hA', hst⟩)
set_option maxHeartbeats 2000000 in
theorem st_noroom (b g : Nat) (p : Value) (cur : Array Value) (w : World) (hbk : w.heap[b]? = some (.cells #[p, .slice (some ⟨g, 0, none⟩) 0 0] TB (0, 0))) (fz : Nat × Nat) (hg : w.heap[g]? = some (.cells cur TU fz)) (hA : Lib.BuilderAtF TB TU 0 b p [] w) :
    Calls Tryz.prog 63 #[.pointer (some ⟨b, 0, none⟩)] w fun e w' => e = .returned (.string ⟨#[]⟩) ∧ Lib.BuilderAtF TB TU 0 b p [] w' ∧ Stays b w w' := by
  have hUS := us_none
  have hlt : b < w.heap.size := (Array.getElem?_eq_some_iff.1 hbk).1
  have c1 : w.drew.cell? ⟨b, 1, none⟩ = some (.slice (some ⟨g, 0, none⟩) 0 0) := by
    have : w.drew.heap[b]? = some (.cells #[p, .slice (some ⟨g, 0, none⟩) 0 0] TB (0, 0)) := hbk
    rw [Lib.cell_of_heap this]; rfl
  have hSD : (Builtin.unsafeSliceData_ #[93] 127 #[.slice (some ⟨g, 0, none⟩) 0 0]).run Tryz.prog w.drew = .ok (.pointer (some ⟨w.drew.heap.size, 0, none⟩)) (w.drew.alloc (.view ⟨g, 0, none⟩ TU)) :=
    Lib.run_unsafeSliceData_zero w.drew _ _ TU Tryz.underlying127 ⟨g, 0, none⟩ 0 (TU, cur.size) (by have hg' : w.drew.heap[g]? = some (.cells cur TU fz) := hg; simp [World.shape?, hg'])
  have c2 : (w.drew.alloc (.view ⟨g, 0, none⟩ TU)).cell? ⟨b, 1, none⟩ = some (.slice (some ⟨g, 0, none⟩) 0 0) := by
    have : (w.drew.alloc (.view ⟨g, 0, none⟩ TU)).heap[b]? = _ := (Lib.alloc_old w.drew _ b hlt).trans hbk
    rw [Lib.cell_of_heap this]; rfl
  have c3 : (w.alloc (.view ⟨g, 0, none⟩ TU)).drew.cell? ⟨b, 1, none⟩ = some (.slice (some ⟨g, 0, none⟩) 0 0) := c2
  have c0 : w.cell? ⟨b, 1, none⟩ = some (.slice (some ⟨g, 0, none⟩) 0 0) := c1
  have hA' := hA.drew.alloc (.view ⟨g, 0, none⟩ TU)
  have hst : Stays b w (w.drew.alloc (.view ⟨g, 0, none⟩ TU)) := .of rfl rfl rfl (Nat.le_succ _) (by simp) (Lib.alloc_old w.drew _ b hlt) fun k hk _ _ => Lib.alloc_old w.drew _ k hk
  have mixed : Tryz.prog.follows .mixedOrders = true := by kernel_rfl
  go_enter Tryz.func63, Tryz.ntmps63
  go_wp2
  go_region_o
  all_goals (go_wp2; go_ret; exact ⟨rfl, hA', hst⟩)
set_option maxHeartbeats 2000000 in
theorem st_room (b g cap : Nat) (p : Value) (w : World) (hc0 : cap ≠ 0) (hbk : w.heap[b]? = some (.cells #[p, .slice (some ⟨g, 0, none⟩) 0 cap] TB (0, 0))) (hA : Lib.BuilderAtF TB TU 0 b p [] w) :
    Calls Tryz.prog 63 #[.pointer (some ⟨b, 0, none⟩)] w fun e w' => e = .returned (.string ⟨#[]⟩) ∧ Lib.BuilderAtF TB TU 0 b p [] w' ∧ Stays b w w' := by
  have hUS := us_none
  have c1 : w.drew.cell? ⟨b, 1, none⟩ = some (.slice (some ⟨g, 0, none⟩) 0 cap) := by
    have : w.drew.heap[b]? = some (.cells #[p, .slice (some ⟨g, 0, none⟩) 0 cap] TB (0, 0)) := hbk
    rw [Lib.cell_of_heap this]; rfl
  have hSD : (Builtin.unsafeSliceData_ #[93] 127 #[.slice (some ⟨g, 0, none⟩) 0 cap]).run Tryz.prog w.drew = .ok (.pointer (some ⟨g, 0, none⟩)) w.drew :=
    Lib.run_unsafeSliceData_row _ _ _ _ _ _ hc0
  clear hc0
  have hA' := hA.drew
  have hst := stays_drew b w
  have mixed : Tryz.prog.follows .mixedOrders = true := by kernel_rfl
  go_enter Tryz.func63, Tryz.ntmps63
  go_wp2
  go_region_o
  all_goals (go_wp2; go_ret; exact ⟨rfl, hA', hst⟩)
theorem st_any (b : Nat) (l : List UInt8) (w : World) (h : Lib.IsBuilderF TB TU 0 b (Lib.byteCells l) w) :
    Calls Tryz.prog 63 #[.pointer (some ⟨b, 0, none⟩)] w fun e w' => e = .returned (.string ⟨l.toArray⟩) ∧ Lib.IsBuilderF TB TU 0 b (Lib.byteCells l) w' ∧ Stays b w w' := by
  by_cases h0 : l = []
  · subst h0
    have key : ∀ p, Lib.BuilderAtF TB TU 0 b p [] w → Calls Tryz.prog 63 #[.pointer (some ⟨b, 0, none⟩)] w fun e w' => e = .returned (.string ⟨#[]⟩) ∧ Lib.BuilderAtF TB TU 0 b p [] w' ∧ Stays b w w' := by
      intro p hA
      have hA0 := hA
      obtain ⟨hB, v, hbk, hown, hne⟩ := hA
      rcases hown.2 with ⟨rfl, _⟩ | ⟨g, cap, cur, fz, rfl, hbg, hg, _⟩
      · exact st_nil b p w hbk hA0
      · by_cases hc : cap = 0
        · subst hc; exact st_noroom b g p cur w hbk fz hg hA0
        · exact st_room b g cap p w hc hbk hA0
    rcases h with h | h
    · exact (key _ h).mono fun e w' ⟨h1, h2, h3⟩ => ⟨h1, .inl h2, h3⟩
    · exact (key _ h).mono fun e w' ⟨h1, h2, h3⟩ => ⟨h1, .inr h2, h3⟩
  · exact st_some b l w h h0
theorem string_does (l : List UInt8) : Does Tryz.prog tab 63 1 [.ptr (.loc 0) 0 0 0] [(0, .bld TB TU l)] [] fun r O nx => r = .str l ∧ O = [(0, .bld TB TU l)] ∧ nx = 1 := by
  refine bld_does Tryz.call63 fun η b vs w hd hB => ?_
  simp only [DenL] at hd
  subst hd
  refine (st_any b l w hB).mono fun e w' => ?_
  rintro ⟨rfl, h1, h2⟩
  exact ⟨_, rfl, by simp only [Den], h1, h2⟩
end Go.Proofs.YtpffclpheldabaaGreatDoor
/- Calls among functions that share their names for blocks; empty slices in boxes by names. Conditions: none. -/
set_option linter.unusedVariables false
set_option linter.unusedSimpArgs false
namespace Go.Sx
open Go

/-! ### Names that stay -/
section
variable {σ : Nat → Nat} {k : Nat}
theorem renB_below (h : ∀ j, j < k → σ j = j) : ∀ {b : Blk}, belowB k b = true → renB σ b = b
  | .glob g, _ => rfl
  | .loc i, hb => by simp only [belowB, Nat.blt_eq] at hb; simp only [renB, h i hb]
mutual
theorem ren_below (h : ∀ j, j < k → σ j = j) : ∀ {v : SV}, below k v = true → ren σ v = v
  | .bool _, _ => rfl
  | .int _ _, _ => rfl
  | .str _, _ => rfl
  | .val _, _ => rfl
  | .any, _ => rfl
  | .ptr b _ _ _, hb => by simp only [below] at hb; simp only [ren, renB_below h hb]
  | .sl b _ _ _ _, hb => by simp only [below] at hb; simp only [ren, renB_below h hb]
  | .agg cs, hb => by simp only [below] at hb; simp only [ren, renL_below h hb]
  | .arr _ rs, hb => by simp only [below] at hb; simp only [ren, renLL_below h hb]
  | .tup vs, hb => by simp only [below] at hb; simp only [ren, renL_below h hb]
  | .ifc _ v, hb => by simp only [below] at hb; simp only [ren, ren_below h hb]
  | .fn _ a b, hb => by simp only [below, Bool.and_eq_true] at hb; simp only [ren, renL_below h hb.1, renL_below h hb.2]
theorem renL_below (h : ∀ j, j < k → σ j = j) : ∀ {vs : List SV}, belowL k vs = true → renL σ vs = vs
  | [], _ => rfl
  | c :: cs, hb => by simp only [belowL, Bool.and_eq_true] at hb; simp only [renL, ren_below h hb.1, renL_below h hb.2]
theorem renLL_below (h : ∀ j, j < k → σ j = j) : ∀ {vs : List (List SV)}, belowLL k vs = true → renLL σ vs = vs
  | [], _ => rfl
  | c :: cs, hb => by simp only [belowLL, Bool.and_eq_true] at hb; simp only [renLL, renL_below h hb.1, renLL_below h hb.2]
end
theorem renH_below (h : ∀ j, j < k → σ j = j) : ∀ {hp : Hp}, belowH k hp = true → renH σ hp = hp
  | .box _, hb => by simp only [belowH] at hb; simp only [renH, renL_below h hb]
  | .rows _ _, hb => by simp only [belowH] at hb; simp only [renH, renLL_below h hb]
  | .siter _ _, _ => rfl
  | .bld _ _ _, _ => rfl
theorem renO_below (h : ∀ j, j < k → σ j = j) : ∀ {O : Hps}, belowO k O = true → renO σ O = O
  | [], _ => rfl
  | (i, hp) :: r, hb => by
    simp only [belowO, Bool.and_eq_true, Nat.blt_eq] at hb
    simp only [renO, h i hb.1, renH_below h hb.2.1, renO_below h hb.2.2]
end
variable {M : Mx} {fr fr' : Fr} {O O' : Hps} {nx : Nat}
theorem range_get {k i : Nat} (h : i < k) : (List.range k).getD i 0 = i := by simp [List.getD, h]
theorem cname_range {k nx j : Nat} (h : j < k) : cname (List.range k) nx j = j := by
  simp only [cname, List.length_range, if_pos h, range_get h]
/-- What a contract owns and looks at stands so in the caller's heap, by the same names. -/
def hereO (O : Hps) : Hps → Prop
  | [] => True
  | (i, h) :: r => match lkp i O with
    | some g => g = h ∧ hereO O r
    | none => False
def hereS (C : Cx) (O : Hps) : Hps → Prop
  | [] => True
  | (i, h) :: r => match hLook C O (.loc i) with
    | some g => g = h ∧ hereS C O r
    | none => False
theorem hereO.at {O : Hps} : ∀ {Oc : Hps}, hereO O Oc → ∀ p ∈ Oc, lkp p.1 O = some p.2
  | [], _, p, hp => by cases hp
  | (i, h) :: r, hs, p, hp => by
    simp only [hereO] at hs
    split at hs
    · rename_i g hg
      obtain ⟨rfl, hs⟩ := hs
      rcases List.mem_cons.1 hp with rfl | hp
      · exact hg
      · exact hereO.at hs p hp
    · exact hs.elim
theorem hereS.at {C : Cx} {O : Hps} : ∀ {Sc : Hps}, hereS C O Sc → ∀ p ∈ Sc, hLook C O (.loc p.1) = some p.2
  | [], _, p, hp => by cases hp
  | (i, h) :: r, hs, p, hp => by
    simp only [hereS] at hs
    split at hs
    · rename_i g hg
      obtain ⟨rfl, hs⟩ := hs
      rcases List.mem_cons.1 hp with rfl | hp
      · exact hg
      · exact hereS.at hs p hp
    · exact hs.elim
theorem belowO_mem {k : Nat} : ∀ {O : Hps}, belowO k O = true → ∀ p ∈ O, p.1 < k ∧ belowH k p.2 = true
  | [], _, p, hp => by cases hp
  | (i, h) :: r, hb, p, hp => by
    simp only [belowO, Bool.and_eq_true, Nat.blt_eq] at hb
    rcases List.mem_cons.1 hp with rfl | hp
    · exact ⟨hb.1, hb.2.1⟩
    · exact belowO_mem hb.2.2 p hp
theorem namesOf_below {k : Nat} : ∀ {O : Hps}, belowO k O = true → ∀ j ∈ namesOf O, j < k
  | [], _, j, hj => by cases hj
  | (i, h) :: r, hb, j, hj => by
    simp only [belowO, Bool.and_eq_true, Nat.blt_eq] at hb
    rcases List.mem_cons.1 hj with rfl | hj
    · exact hb.1
    · exact namesOf_below hb.2.2 j hj
theorem map_same {f : Nat → Nat} : ∀ {l : List Nat}, (∀ j ∈ l, f j = j) → l.map f = l
  | [], _ => rfl
  | x :: l, h => by simp only [List.map_cons, h x (List.mem_cons_self ..), map_same fun j hj => h j (List.mem_cons_of_mem _ hj)]
theorem mem_names : ∀ {S : Hps} {p : Nat × Hp}, p ∈ S → p.1 ∈ namesOf S
  | [], p, hp => by cases hp
  | (i, h) :: S, p, hp => by
    rcases List.mem_cons.1 hp with rfl | hp
    · exact List.mem_cons_self ..
    · exact List.mem_cons_of_mem _ (mem_names hp)
/-- A call by the caller's own names, the first k; the callee makes no new ones. -/
theorem CALL.here {f : FuncId} {args : List SV} {K : SV → Hps → Nat → Prop} {k : Nat} {Oc Sc : Hps} {Q : SV → Hps → Nat → Prop} (sp : Does M.P M.C.T f k args Oc Sc Q)
    (hk : Nat.ble k nx = true) (hb : belowL k args = true) (hbO : belowO k Oc = true) (hbS : belowO k Sc = true) (hO : hereO O Oc) (hS : hereS M.C O Sc)
    (hd : (namesOf Sc).all (fun j => !((namesOf Oc).any (Nat.beq j))) = true)
    (hQ : ∀ r O' nx', Q r O' nx' → nx' = k ∧ below k r = true ∧ belowO k O' = true)
    (hK : ∀ r O', Q r O' k → K r (O' ++ outside (namesOf Oc) O) nx) : CALL M f args O nx K := by
  have hk := Nat.le_of_ble_eq_true hk
  have hσ : ∀ j, j < k → cname (List.range k) nx j = j := fun j hj => cname_range hj
  have hnames : (namesOf Oc).map (cname (List.range k) nx) = namesOf Oc := map_same fun j hj => hσ j (namesOf_below hbO j hj)
  refine CALL.of (List.range k) sp (by simp) (fun i hi => by have := List.mem_range.1 hi; omega) (renL_below hσ hb).symm hb ?_ ?_ ?_ ?_
  · intro p hp
    obtain ⟨h1, h2⟩ := belowO_mem hbO p hp
    exact ⟨h1, by rw [hσ _ h1, renH_below hσ h2]; exact hO.at p hp, h2⟩
  · intro j hj j' hj' he
    rwa [hσ j (namesOf_below hbO j hj), hσ j' (namesOf_below hbO j' hj')] at he
  · intro p hp
    obtain ⟨h1, h2⟩ := belowO_mem hbS p hp
    refine ⟨h1, by rw [hσ _ h1, renH_below hσ h2]; exact hS.at p hp, h2, ?_⟩
    rw [hnames, hσ _ h1]
    intro hm
    have hj : p.1 ∈ namesOf Sc := mem_names hp
    have := List.all_eq_true.1 hd _ hj
    simp only [Bool.not_eq_eq_eq_not, Bool.not_true] at this
    have h3 : (namesOf Oc).any (Nat.beq p.1) = true := List.any_eq_true.2 ⟨p.1, hm, beq_self _⟩
    rw [h3] at this; cases this
  · intro r O' nx' hq
    obtain ⟨rfl, h1, h2⟩ := hQ r O' nx' hq
    have := hK r O' hq
    rw [ren_below hσ h1, renO_below hσ h2, hnames]
    simpa using this

/-- What a contract owns and looks at stands so in the caller's heap, by the caller's names for it. -/
def thereO (σ : Nat → Nat) (O : Hps) : Hps → Prop
  | [] => True
  | (i, h) :: r => match lkp (σ i) O with
    | some g => g = renH σ h ∧ thereO σ O r
    | none => False
def thereS (C : Cx) (σ : Nat → Nat) (O : Hps) : Hps → Prop
  | [] => True
  | (i, h) :: r => match hLook C O (.loc (σ i)) with
    | some g => g = renH σ h ∧ thereS C σ O r
    | none => False
theorem thereO.at {σ : Nat → Nat} {O : Hps} : ∀ {Oc : Hps}, thereO σ O Oc → ∀ p ∈ Oc, lkp (σ p.1) O = some (renH σ p.2)
  | [], _, p, hp => by cases hp
  | (i, h) :: r, hs, p, hp => by
    simp only [thereO] at hs
    split at hs
    · rename_i g hg
      obtain ⟨rfl, hs⟩ := hs
      rcases List.mem_cons.1 hp with rfl | hp
      · exact hg
      · exact thereO.at hs p hp
    · exact hs.elim
theorem thereS.at {C : Cx} {σ : Nat → Nat} {O : Hps} : ∀ {Sc : Hps}, thereS C σ O Sc → ∀ p ∈ Sc, hLook C O (.loc (σ p.1)) = some (renH σ p.2)
  | [], _, p, hp => by cases hp
  | (i, h) :: r, hs, p, hp => by
    simp only [thereS] at hs
    split at hs
    · rename_i g hg
      obtain ⟨rfl, hs⟩ := hs
      rcases List.mem_cons.1 hp with rfl | hp
      · exact hg
      · exact thereS.at hs p hp
    · exact hs.elim
/-- A call, the callee's names being the caller's L, in this order. -/
theorem CALL.at {f : FuncId} {args argsc : List SV} {K : SV → Hps → Nat → Prop} {k : Nat} {Oc Sc : Hps} {Q : SV → Hps → Nat → Prop} (L : List Nat) (sp : Does M.P M.C.T f k argsc Oc Sc Q)
    (hL : L.length = k) (hLn : L.all (fun i => Nat.blt i nx) = true) (ha : args = renL (cname L nx) argsc) (hb : belowL k argsc = true) (hbO : belowO k Oc = true) (hbS : belowO k Sc = true) (hO : thereO (cname L nx) O Oc) (hS : thereS M.C (cname L nx) O Sc)
    (hinj : (namesOf Oc).all (fun j => (namesOf Oc).all fun j' => !(Nat.beq (cname L nx j) (cname L nx j')) || Nat.beq j j') = true)
    (hd : (namesOf Sc).all (fun j => !((namesOf Oc).any fun j' => Nat.beq (cname L nx j) (cname L nx j'))) = true)
    (hK : ∀ r O' nx', Q r O' nx' → K (ren (cname L nx) r) (renO (cname L nx) O' ++ outside ((namesOf Oc).map (cname L nx)) O) (nx + (nx' - k))) : CALL M f args O nx K := by
  refine CALL.of L sp hL (fun i hi => by have := List.all_eq_true.1 hLn i hi; simpa [Nat.blt_eq] using this) ha hb (fun p hp => ?_) (fun j hj j' hj' he => ?_) (fun p hp => ?_) hK
  · obtain ⟨h1, h2⟩ := belowO_mem hbO p hp
    exact ⟨h1, hO.at p hp, h2⟩
  · have := List.all_eq_true.1 (List.all_eq_true.1 hinj j hj) j' hj'
    simp only [he, beq_self, Bool.not_true, Bool.false_or] at this
    exact beq_eq this
  · obtain ⟨h1, h2⟩ := belowO_mem hbS p hp
    refine ⟨h1, hS.at p hp, h2, fun hm => ?_⟩
    obtain ⟨j', hj', he⟩ := List.mem_map.1 hm
    have := List.all_eq_true.1 hd _ (mem_names hp)
    simp only [Bool.not_eq_eq_eq_not, Bool.not_true] at this
    have h3 : (namesOf Oc).any (fun j' => Nat.beq (cname L nx p.1) (cname L nx j')) = true := List.any_eq_true.2 ⟨j', hj', by rw [he]; exact beq_self _⟩
    rw [h3] at this; cases this

/-- An end that tells of blocks: those that came in by their names, and those of τ. -/
theorem FIN.at {k : Nat} {r : SV} {Q : SV → Hps → Nat → Prop} (hk : M.η0.length = k) (τ : List Nat) (rc : SV) (Oc : Hps) (hτ : τ.all (fun i => Nat.blt i nx) = true) (hr : r = ren (fname k τ) rc) (hb : below (k + τ.length) rc = true) (hbO : belowO (k + τ.length) Oc = true)
    (hO : thereO (fname k τ) O Oc) (hinj : (namesOf Oc).all (fun j => (namesOf Oc).all fun j' => !(Nat.beq (fname k τ j) (fname k τ j')) || Nat.beq j j') = true) (hQ : Q rc Oc (k + τ.length)) : FIN M O nx r Q := by
  refine FIN.keep hk τ (rc := rc) (Oc := Oc) (fun i hi => by have := List.all_eq_true.1 hτ i hi; simpa [Nat.blt_eq] using this) hr hb (fun p hp => ?_) (fun j hj j' hj' he => ?_) hQ
  · obtain ⟨h1, h2⟩ := belowO_mem hbO p hp
    exact ⟨h1, hO.at p hp, h2⟩
  · have := List.all_eq_true.1 (List.all_eq_true.1 hinj j hj) j' hj'
    simp only [he, beq_self, Bool.not_true, Bool.false_or] at this
    exact beq_eq this

/-- A loop that is come to on many ways, walked once. -/
theorem loopOnce {G : Prop} {body : Code} {Q : Post} {n : Nat} {X : Type} (P : X → Prop) (frx : X → Fr) (Ox : X → Hps) (h1 : (∀ x, P x → LOOP M body (frx x) (Ox x) n Q) → G) (h2 : ∀ x, P x → LOOP M body (frx x) (Ox x) n Q) : G := h1 h2

/-! ### The heap told otherwise ahead of a call -/
theorem CALL.weak {f : FuncId} {args : List SV} {K : SV → Hps → Nat → Prop} {O1 : Hps} {n1 : Nat} (h : ∀ η w, HeapOK M η w O nx → ∃ η', η <+: η' ∧ HeapOK M η' w O1 n1) (hc : CALL M f args O1 n1 K) : CALL M f args O nx K := by
  refine ⟨fun η w vs H hd => ?_⟩
  obtain ⟨η1, hp, H1⟩ := h η w H
  refine (hc.out η1 w vs H1 (DenL.mono hp hd)).mono ?_
  rintro v w' ⟨r, O', nx', η', h1, h2⟩
  exact ⟨r, O', nx', η', hp.trans h1, h2⟩
/-- A nil slice in a box's cell, by a name of its own. -/
def nilAt (nx es : Nat) : Nat → List SV → Option (List SV)
  | 0, .val (.slice none 0 0) :: r => some (.sl (.loc nx) 0 es 0 none :: r)
  | j + 1, c :: r => match nilAt nx es j r with | some r => some (c :: r) | none => none
  | _, _ => none
theorem nilAt_get {nx es : Nat} : ∀ {j : Nat} {row row' : List SV}, nilAt nx es j row = some row' → ∀ (i : Nat) (sv : SV), row'[i]? = some sv → row[i]? = some sv ∨ (row[i]? = some (SV.val (.slice none 0 0)) ∧ sv = SV.sl (.loc nx) 0 es 0 none)
  | 0, [], _, h => by simp [nilAt] at h
  | 0, c :: r, row', h => by
    unfold nilAt at h
    split at h
    · rename_i e1 e2
      injection e2 with e2 e3
      subst e2 e3
      injection h with h; subst h
      intro i sv hi
      cases i with
      | zero => simp at hi; subst hi; exact .inr ⟨rfl, rfl⟩
      | succ i => exact .inl (by simpa using hi)
    · simp_all
    · cases h
  | j + 1, [], _, h => by simp [nilAt] at h
  | j + 1, c :: r, row', h => by
    unfold nilAt at h
    split at h
    · rename_i r1 hr
      injection h with h; subst h
      intro i sv hi
      cases i with
      | zero => left; simpa using hi
      | succ i =>
        have := nilAt_get hr i sv (by simpa using hi)
        simpa using this
    · cases h
theorem HeapOK.nilCell {η : Env} {w : World} (H : HeapOK M η w O nx) {i j es : Nat} {row row' : List SV} (hi : lkp i O = some (.box row)) (hr : nilAt nx es j row = some row') :
    ∃ η', η <+: η' ∧ HeapOK M η' w ((nx, .rows es []) :: setK i (.box row') O) (nx + 1) := by
  have hpre : η <+: η ++ [none] := List.prefix_append _ _
  have hnew : (η ++ [none])[nx]? = some none := by rw [List.getElem?_append_right (by rw [H.len]; omega), H.len]; simp
  have hold : ∀ {i h}, lkp i O = some h → (η ++ [none])[i]? = η[i]? := fun {i h} hi => by
    rw [List.getElem?_append_left (by rw [H.len]; exact H.lt hi)]
  have hin : ∀ {a h}, lkp a (setK i (.box row') O) = some h → ∃ h0, lkp a O = some h0 ∧ HpSat (η ++ [none]) w true (.loc a) h ∧ ∀ n, feet (η ++ [none]) w (.loc a) h n → feet η w (.loc a) h0 n := by
    intro a h ha
    rw [lkp_setK _ _ _ _ (by rw [hi]; rfl)] at ha
    split at ha
    · rename_i e
      subst e
      injection ha with ha
      subst ha
      refine ⟨_, hi, ?_, fun n f => H.stands hpre hi (fun _ _ => rfl) (show feet (η ++ [none]) w (.loc _) (.box row) n from f)⟩
      have := (H.own.1 _ _ hi).1.mono hpre
      simp only [HpSat] at this ⊢
      obtain ⟨e, arr, T, fz, h1, h2, h3, h4⟩ := this
      refine ⟨e, arr, T, fz, h1, h2, h3, fun c sv hc => ?_⟩
      rcases nilAt_get hr c sv hc with hc' | ⟨hc', rfl⟩
      · exact h4 c sv hc'
      · obtain ⟨v, h5, h6, h7⟩ := h4 c _ hc'
        refine ⟨v, h5, h6, ?_⟩
        simp only [Den] at h7 ⊢
        exact .inl ⟨hnew, h7.1, trivial⟩
    · exact ⟨h, ha, (H.own.1 _ _ ha).1.mono hpre, fun n f => H.stands hpre ha (fun _ _ => rfl) f⟩
  refine ⟨η ++ [none], hpre, H.pre.trans hpre, by simp [H.len], ⟨fun a h ha => ?_, fun a b h h' n ha hb hab f f' => ?_⟩, H.fr, H.sok⟩
  · rw [lkp_cons] at ha
    split at ha
    · rename_i e; subst e; injection ha with ha; subst ha
      exact ⟨.inl ⟨hnew, rfl⟩, fun n f => (feet.none (b := .loc _) hnew f).elim⟩
    · obtain ⟨h0, h1, h2, h3⟩ := hin ha
      exact ⟨h2, fun n f => (H.own.1 a h0 h1).2 n (h3 n f)⟩
  · rw [lkp_cons] at ha hb
    split at ha
    · rename_i e1; subst e1; exact (feet.none (b := .loc _) hnew f).elim
    · split at hb
      · rename_i e2; subst e2; exact (feet.none (b := .loc _) hnew f').elim
      · obtain ⟨h0, h1, _, h3⟩ := hin ha
        obtain ⟨h0', h1', _, h3'⟩ := hin hb
        exact H.own.2 a b h0 h0' n h1 h1' hab (h3 n f) (h3' n f')
theorem CALL.nilCell {f : FuncId} {args : List SV} {K : SV → Hps → Nat → Prop} (i j es : Nat) {row row' : List SV} (hi : lkp i O = some (.box row)) (hr : nilAt nx es j row = some row') (hc : CALL M f args ((nx, .rows es []) :: setK i (.box row') O) (nx + 1) K) : CALL M f args O nx K :=
  CALL.weak (fun η w H => H.nilCell hi hr) hc
/-- An end that tells of blocks by the names that came in. -/
theorem FIN.here {k : Nat} {r rc : SV} {Oc : Hps} {Q : SV → Hps → Nat → Prop} (hk : M.η0.length = k) (hr : r = rc) (hb : below k rc = true) (hbO : belowO k Oc = true) (hO : hereO O Oc) (hQ : Q rc Oc k) : FIN M O nx r Q := by
  have hσ : ∀ j, j < k → fname k [] j = j := fun j hj => by simp [fname, hj]
  refine FIN.keep hk [] (rc := rc) (Oc := Oc) (fun i hi => by cases hi) (by rw [ren_below hσ hb]; exact hr) hb ?_ ?_ hQ
  · intro p hp
    obtain ⟨h1, h2⟩ := belowO_mem hbO p hp
    exact ⟨h1, by rw [hσ _ h1, renH_below hσ h2]; exact hO.at p hp, h2⟩
  · intro j hj j' hj' he
    rwa [hσ j (namesOf_below hbO j hj), hσ j' (namesOf_below hbO j' hj')] at he
/-- A row of which less is told. -/
def Loose (k : Nat) : List SV → List SV → Prop
  | _, [] => True
  | [], _ :: _ => False
  | c :: cs, c' :: cs' => (c' = .any ∨ (c' = c ∧ below k c = true)) ∧ Loose k cs cs'
theorem Loose.get {k : Nat} : ∀ {row row' : List SV}, Loose k row row' → ∀ (j : Nat) (sv : SV), row'[j]? = some sv → ∃ c, row[j]? = some c ∧ (sv = .any ∨ (sv = c ∧ below k c = true))
  | _, [], _, j, sv, h => by simp at h
  | [], _ :: _, h, _, _, _ => h.elim
  | c :: cs, c' :: cs', h, 0, sv, hj => by simp at hj; subst hj; exact ⟨c, rfl, h.1⟩
  | c :: cs, c' :: cs', h, j + 1, sv, hj => by simp at hj; obtain ⟨d, h1, h2⟩ := Loose.get h.2 j sv hj; exact ⟨d, by simpa using h1, h2⟩
/-- An end with a plain value and one box, of which less is told. -/
theorem FIN.loose {k : Nat} {r : SV} {Q : SV → Hps → Nat → Prop} (hk : M.η0.length = k) (i : Nat) (row' : List SV) {row : List SV} (hr : plain r = true) (hO : lkp i O = some (.box row)) (hi : Nat.blt i k = true) (hl : Loose k row row') (hQ : Q r [(i, .box row')] k) : FIN M O nx r Q := by
  refine ⟨fun η w v H hd => ⟨r, [(i, .box row')], k, M.η0, hQ, List.prefix_rfl, ?_, ?_⟩⟩
  · have hi : i < k := by simpa [Nat.blt_eq] using hi
    have hget : ∀ j, j < k → η[j]? = M.η0[j]? := fun j hj => by
      obtain ⟨t, ht⟩ := H.pre
      rw [← ht, List.getElem?_append_left (by omega)]
    have hb : Bwd η M.η0 id k := fun j x hj hx => by rw [← hget j hj]; exact hx
    have hsat : HpSat M.η0 w true (.loc i) (.box row') := by
      have := (H.own.1 i _ hO).1
      simp only [HpSat] at this ⊢
      obtain ⟨e, arr, T, fz, h1, h2, h3, h4⟩ := this
      refine ⟨e, arr, T, fz, by simp only [Env.get] at h1 ⊢; rw [← hget i hi]; exact h1, h2, h3, fun j sv hj => ?_⟩
      obtain ⟨c, h5, h6⟩ := hl.get j sv hj
      obtain ⟨u, h7, h8, h9⟩ := h4 j c h5
      refine ⟨u, h7, h8, ?_⟩
      rcases h6 with rfl | ⟨rfl, h6⟩
      · simp only [Den]
      · exact Den.unren hb h6 (by rw [ren_id (σ := id) (fun _ => rfl)]; exact h9)
    refine ⟨List.prefix_rfl, hk, ⟨fun j h hj => ?_, fun a b h h' n ha hb' hab => ?_⟩, H.fr, H.sok⟩
    · rw [lkp_cons] at hj
      split at hj
      · rename_i e; subst e; injection hj with hj; subst hj
        exact ⟨hsat, fun n f => (H.own.1 _ _ hO).2 n ((show feet M.η0 w (.loc _) (.box row) n from f).mono H.pre)⟩
      · simp [lkp] at hj
    · rw [lkp_cons] at ha hb'
      split at ha
      · split at hb'
        · rename_i e1 e2; exact (hab (e1.trans e2.symm)).elim
        · simp [lkp] at hb'
      · simp [lkp] at ha
  · have hb : Bwd η M.η0 (fun i => i) 0 := fun i x hi => by omega
    exact Den.unren hb (plain_below 0 hr) (by rw [ren_plain _ hr]; exact hd)
/-- An end whose tuple's head is not told of. -/
theorem FIN.anyT {k : Nat} {r x : SV} {vs : List SV} {Q : SV → Hps → Nat → Prop} (hk : M.η0.length = k) (hr : r = .tup (x :: vs)) (hv : plainL vs = true) (hQ : Q (.tup (.any :: vs)) [] k) : FIN M O nx r Q := by
  refine ⟨fun η w v H hd => ⟨.tup (.any :: vs), [], k, M.η0, hQ, List.prefix_rfl, ⟨List.prefix_rfl, hk, ⟨fun i h hi => by simp [lkp] at hi, fun i j h h' n hi => by simp [lkp] at hi⟩, H.fr, H.sok⟩, ?_⟩⟩
  rw [hr] at hd
  simp only [Den, DenL] at hd ⊢
  obtain ⟨us, h1, u, us', h2, h3, h4⟩ := hd
  refine ⟨us, h1, u, us', h2, trivial, ?_⟩
  have hb : Bwd η M.η0 (fun i => i) 0 := fun i x hi => by omega
  exact DenL.unren hb (plainL_below 0 hv) (by rw [renL_plain _ hv]; exact h4)
def anyN : Nat → List SV
  | 0 => []
  | n + 1 => .any :: anyN n
theorem denL_any {η η' : Env} : ∀ {cs : List SV} {vs : List Value}, DenL η cs vs → DenL η' (anyN cs.length) vs
  | [], vs, h => by simpa [DenL, anyN] using h
  | c :: cs, vs, h => by
    simp only [DenL, anyN, List.length_cons] at h ⊢
    obtain ⟨u, us, rfl, _, h⟩ := h
    exact ⟨u, us, rfl, by simp only [Den], denL_any h⟩
/-- An end whose tuple's head is a struct of which nothing is told. -/
theorem FIN.anyA (n : Nat) {k : Nat} {r : SV} {cs vs : List SV} {Q : SV → Hps → Nat → Prop} (hk : M.η0.length = k) (hr : r = .tup (.agg cs :: vs)) (hn : lenIs cs n = true) (hv : plainL vs = true) (hQ : Q (.tup (.agg (anyN n) :: vs)) [] k) : FIN M O nx r Q := by
  have hn : cs.length = n := by
    clear hr hQ
    induction n generalizing cs with
    | zero => cases cs with
      | nil => rfl
      | cons a l => simp [lenIs] at hn
    | succ n ih => cases cs with
      | nil => simp [lenIs] at hn
      | cons a l => simp only [lenIs] at hn; simp [ih hn]
  refine ⟨fun η w v H hd => ⟨.tup (.agg (anyN n) :: vs), [], k, M.η0, hQ, List.prefix_rfl, ⟨List.prefix_rfl, hk, ⟨fun i h hi => by simp [lkp] at hi, fun i j h h' n hi => by simp [lkp] at hi⟩, H.fr, H.sok⟩, ?_⟩⟩
  rw [hr] at hd
  simp only [Den, DenL] at hd ⊢
  obtain ⟨us, h1, u, us', h2, ⟨xs, h5, h6, h7⟩, h4⟩ := hd
  refine ⟨us, h1, u, us', h2, ⟨xs, h5, by rw [← hn]; exact denL_any h6, h7⟩, ?_⟩
  have hb : Bwd η M.η0 (fun i => i) 0 := fun i x hi => by omega
  exact DenL.unren hb (plainL_below 0 hv) (by rw [renL_plain _ hv]; exact h4)
end Go.Sx
/- utf: what is written for a text, walked. Conditions: none. -/
set_option linter.unusedVariables false
set_option linter.unusedSimpArgs false
set_option maxRecDepth 20000
namespace Go.Proofs.YtpffclpheldabaaGreatDoor
open Go.Sx Go.Our
theorem bytes_does (r : Int) (hr : 0 ≤ r ∧ r ≤ 1114111) : Does Tryz.prog tab 99 0 [.int .i32 r] [] [] (NewBytes 0 (encM r)) := by
  refine Does.enter tabOK (g := 99) (fn := Tryz.f99) Tryz.call99 Tryz.func99 rfl 57 rfl rfl [.tmp 2] rfl ?_
  intro w0 F η0 h0
  conv => whnf
  repeat' ((first | with_reducible refine IF.tt ?_ | with_reducible refine IF.ff ?_ | ((with_reducible refine NEED.mk ?_ ?_); (first | with_reducible rfl | omega | (simp (disch := omega) only [lnB, wrap64, wrap32] <;> omega) | (intro h; (try simp (disch := omega) only [hsB, hsC, lnB, wrap64, wrap32, simprocAttr] at h); (first | omega | (simp (disch := omega) only [lnB, wrap64, wrap32] <;> omega))) | (exact needApp 256 rfl rfl (by simp) (by simp) (by omega)) | (simp <;> omega))) | ((with_reducible apply GET.at); rfl) | ((with_reducible apply GETG.at); rfl) | ((with_reducible refine IF.mk (fun h => ?_) (fun h => ?_)) <;> (try simp (disch := omega) only [hsB, hsC, lnB, wrap64, wrap32, simprocAttr] at h) <;> try (exfalso; omega))) <;> conv => whnf)
  all_goals
    refine FIN.rows h0 0 1 _ rfl rfl rfl rfl ?_
    unfold encM encI
    simp (disch := omega) only [↓if_pos, ↓if_neg, List.map_cons, List.map_nil, shr6, shr12, shr18, and63i, or192, or224, or240, or128, wrapu8]
    refine ⟨rfl, ?_, rfl⟩
    simp (disch := omega) only [List.map_cons, List.map_nil, ← bytesRow_of]
theorem needMk {l c : Int} {b : Nat} (B : Nat) (hb : Nat.ble b B = true) (h1 : 0 ≤ l) (h2 : l ≤ c) (h3 : c ≤ 9223372036854775807) (h4 : B * c ≤ 281474976710656) : 0 ≤ l ∧ l ≤ c ∧ c ≤ 9223372036854775807 ∧ (b : Int) * c ≤ 281474976710656 :=
  ⟨h1, h2, h3, Int.le_trans (Int.mul_le_mul_of_nonneg_right (by have := Nat.le_of_ble_eq_true hb; omega) (by omega)) h4⟩
theorem and15_lt (a : Int) : 0 ≤ iAnd .u64 a 15 ∧ iAnd .u64 a 15 < ((hexTab.length : Nat) : Int) := by
  unfold iAnd
  have h1 : (BitVec.ofInt IntKind.u64.bits a &&& BitVec.ofInt IntKind.u64.bits 15).toNat ≤ 15 := by
    rw [BitVec.toNat_and]
    exact Nat.and_le_right
  rw [IntWalk.u64_in _ ⟨by omega, by omega⟩]
  exact ⟨by omega, by show _ < (16 : Int); omega⟩
def hexN (n i : Int) : UInt8 := hexTab.getD (iAnd .u64 (iShr .u64 n i) 15).toNat 0
theorem needIdx {r : Int} (hr : (0 ≤ r ∧ r < 128) ∧ ¬ r = 39) (h : 0 ≤ Lib.indexByte [9, 8, 10, 13, 12, 34, 39, 92] (IntKind.u8.wrap r).toNat.toUInt8) :
    0 ≤ Lib.indexByte [9, 8, 10, 13, 12, 34, 39, 92] (IntKind.u8.wrap r).toNat.toUInt8 ∧ Lib.indexByte [9, 8, 10, 13, 12, 34, 39, 92] (IntKind.u8.wrap r).toNat.toUInt8 ≤ IntKind.i64.wrap (Lib.indexByte [9, 8, 10, 13, 12, 34, 39, 92] (IntKind.u8.wrap r).toNat.toUInt8 + 1) ∧
    IntKind.i64.wrap (Lib.indexByte [9, 8, 10, 13, 12, 34, 39, 92] (IntKind.u8.wrap r).toNat.toUInt8 + 1) ≤ ((lettersB.length : Nat) : Int) := by
  have h1 := (mIdx_in hr.1 hr.2 h).1
  have h1 : Lib.indexByte [9, 8, 10, 13, 12, 34, 39, 92] (IntKind.u8.wrap r).toNat.toUInt8 < 8 := h1
  rw [wrap64 (by omega) (by omega)]
  exact ⟨h, by omega, by show _ ≤ (8 : Int); omega⟩
theorem digits_does (n : Int) (hn : 0 ≤ n ∧ n < 256) : Does Tryz.prog tab 98 0 [.int .u64 (IntKind.u64.wrap n), .int .i64 4] [] [] (Val (.str (hex4 n))) := by
  rw [show IntKind.u64.wrap n = n from IntWalk.u64_in _ ⟨by omega, by omega⟩]
  refine Does.enter tabOK (g := 98) (fn := Tryz.f98) Tryz.call98 Tryz.func98 rfl 29 rfl rfl [.tmp 4] rfl ?_
  intro w0 F η0 h0
  conv => whnf
  repeat' ((first | with_reducible refine IF.tt ?_ | with_reducible refine IF.ff ?_ | (refine NEED.mk (needMk 256 rfl (by omega) (by omega) (by omega) (by omega)) ?_; conv => whnf) | (refine LOOP.once tabOK ?_; conv => whnf) | (refine NEED.mk (and15_lt _) ?_; conv => whnf) | ((with_reducible refine NEED.mk ?_ ?_); (first | with_reducible rfl | omega | (simp (disch := omega) only [lnB, wrap64, wrap32] <;> omega) | (intro h; (try simp (disch := omega) only [hsB, hsC, lnB, wrap64, wrap32, simprocAttr] at h); (first | omega | (simp (disch := omega) only [lnB, wrap64, wrap32] <;> omega))) | (exact needApp 256 rfl rfl (by simp) (by simp) (by omega)) | (simp <;> omega))) | ((with_reducible apply GET.at); rfl) | ((with_reducible apply GETG.at); rfl) | ((with_reducible refine IF.mk (fun h => ?_) (fun h => ?_)) <;> (try simp (disch := omega) only [hsB, hsC, lnB, wrap64, wrap32, simprocAttr] at h) <;> try (exfalso; omega))) <;> conv => whnf)
  refine NEED.mk ⟨rfl, [hexN n 12, hexN n 8, hexN n 4, hexN n 0], rfl⟩ ?_
  conv => whnf
  exact FIN.value h0 rfl (congrArg SV.str (hexP hn))
theorem written_does (r way : Int) (hr : Scalar r) : Does Tryz.prog tab 62 0 [.int .i32 r, .int .i64 way] [] [] (Val (.str (writtenM way r))) := by
  obtain ⟨hr0, hr1, _⟩ := hr
  have h4 := hex4_len r
  refine Does.enter tabOK (g := 62) (fn := Tryz.f62) Tryz.call62 Tryz.func62 rfl 56 rfl rfl [.tmp 4] rfl ?_
  intro w0 F η0 h0
  conv => whnf
  repeat' ((first | with_reducible refine IF.tt ?_ | with_reducible refine IF.ff ?_ | refine CALL.value (indexByte_does _ _) rfl rfl ?_ | refine CALL.value (digits_does _ (by omega)) rfl rfl ?_ | (refine CALL.bytes (bytes_does _ (by omega)) rfl ?_; conv => whnf) | (refine NEED.mk (needText (by simp)) ?_; conv => whnf) | (refine NEED.mk (needIdx (by omega) h) ?_; conv => whnf) | ((with_reducible refine NEED.mk ?_ ?_); (first | with_reducible rfl | omega | (simp (disch := omega) only [lnB, wrap64, wrap32] <;> omega) | (intro h; (try simp (disch := omega) only [hsB, hsC, lnB, wrap64, wrap32, simprocAttr] at h); (first | omega | (simp (disch := omega) only [lnB, wrap64, wrap32] <;> omega))) | (exact needApp 256 rfl rfl (by simp) (by simp) (by omega)) | (simp <;> omega))) | ((with_reducible apply GET.at); rfl) | ((with_reducible apply GETG.at); rfl) | ((with_reducible refine IF.mk (fun h => ?_) (fun h => ?_)) <;> (try simp (disch := omega) only [hsB, hsC, lnB, wrap64, wrap32, simprocAttr] at h) <;> try (exfalso; omega))) <;> conv => whnf)
  · refine FIN.value h0 rfl (congrArg SV.str ?_)
    unfold writtenM; rw [if_neg (by assumption), if_pos (by unfold Our.Barred; omega)]; try rfl
  · refine FIN.value h0 rfl (congrArg SV.str ?_)
    unfold writtenM; rw [if_neg (by assumption), if_pos ((bIdx_iff (by omega) (by omega)).1 h)]; try rfl
  · refine FIN.value h0 rfl (congrArg SV.str ?_)
    have hb : ¬ Our.Barred r := fun hb => by
      have h1 : 0 ≤ bIdx r := (bIdx_iff (by omega) (by omega)).2 hb
      have h2 : bIdx r < 0 := h
      omega
    rw [textAll]; unfold writtenM; rw [if_neg (by assumption), if_neg hb]
  · refine FIN.value h0 rfl (congrArg SV.str ?_)
    rw [textAll, written_high (by omega)]
  · have hm : mIdx r < 8 ∧ [92] ++ ((lettersB.drop (mIdx r).toNat).take 1) = writtenM 1 r := mIdx_in (by omega) (by omega) h
    have hw : IntKind.i64.wrap (mIdx r + 1) = mIdx r + 1 := wrap64 (by have : 0 ≤ mIdx r := h; omega) (by omega)
    have hi : 0 ≤ mIdx r := h
    refine FIN.value h0 rfl (congrArg SV.str ?_)
    rw [show way = 1 by assumption, ← hm.2, show 1 = (IntKind.i64.wrap (mIdx r + 1)).toNat - (mIdx r).toNat by omega]; try rfl
  · refine FIN.value h0 rfl (congrArg SV.str ?_)
    rw [show way = 1 by assumption, mIdx_out (by omega) (by assumption), if_pos h]; try rfl
  · refine FIN.value h0 rfl (congrArg SV.str ?_)
    rw [textAll, show way = 1 by assumption, mIdx_out (by omega) (by assumption), if_neg (by omega)]
  · refine FIN.value h0 rfl (congrArg SV.str ?_)
    rw [textAll]
    by_cases h9 : r = 39
    · subst h9; rw [show way = 1 by assumption]; rfl
    · rw [written_high (by omega)]
theorem escape_does (s : List UInt8) (way : Int) (hs : s.length ≤ 1099511627776) (hc : chk s 0 < 0) : Does Tryz.prog tab 36 0 [.str s, .int .i64 way] [] [] (Val (.tup [.str (escM way s), .val .nilIface])) := by
  refine Does.enter tabOK (g := 36) (fn := Tryz.f36) Tryz.call36 Tryz.func36 rfl 26 rfl rfl [.tmp 4, .tmp 5] rfl ?_
  intro w0 F η0 h0
  conv => whnf
  repeat' ((first | with_reducible refine IF.tt ?_ | with_reducible refine IF.ff ?_ | refine CALL.value (check_does _ (by omega)) rfl rfl ?_ | ((with_reducible refine NEED.mk ?_ ?_); (first | with_reducible rfl | omega | (simp (disch := omega) only [lnB, wrap64, wrap32] <;> omega) | (intro h; (try simp (disch := omega) only [hsB, hsC, lnB, wrap64, wrap32, simprocAttr] at h); (first | omega | (simp (disch := omega) only [lnB, wrap64, wrap32] <;> omega))) | (exact needApp 256 rfl rfl (by simp) (by simp) (by omega)) | (simp <;> omega))) | ((with_reducible apply GET.at); rfl) | ((with_reducible apply GETG.at); rfl) | ((with_reducible refine IF.mk (fun h => ?_) (fun h => ?_)) <;> (try simp (disch := omega) only [hsB, hsC, lnB, wrap64, wrap32, simprocAttr] at h) <;> try (exfalso; omega))) <;> conv => whnf)
  have hc1 : chk s 0 = -1 := by have := chk_ge s 0; omega
  refine LOOP.go tabOK [1, 7, 17] (X := Nat × List UInt8) (fun x => x.1 ≤ s.length ∧ chk s x.1 = -1 ∧ x.2 ++ escFrom way s x.1 = escFrom way s 0 ∧ x.2.length ≤ 6 * x.1) (fun _ => []) (fun x => [(1, .siter s x.1), (0, .bld TB TU x.2)]) 2 (fun x => s.length - x.1) (0, []) ⟨by simp, hc1, by simp, by simp⟩ ?_
  conv => whnf
  refine ⟨by (refine GOES.cutting h0 rfl rfl rfl (by first | rfl | simp [belowO, belowH, plainLL_below, plainLL_map, plainL, plain]) ?_ ?_ <;> (repeat' (first | (with_reducible rfl) | (exact congrArg (fun n => SV.sl _ _ _ n _) (by simp)) | (exact congrArg (Hp.rows _) (by simp)) | (exact congrArg (SV.int _) (by first | omega | (simp (disch := omega) only [lnB, wrap64, wrap32] <;> omega) | (simp; done) | (simp <;> omega))) | ((conv => whnf); refine ⟨?_, ?_⟩) | exact trivial | (simp; done) | rfl))), ?_⟩
  rintro ⟨i, out⟩ ⟨hi, hch, hout, hol⟩
  dsimp only at hi hch hout hol
  conv => whnf
  refine ⟨fun h => ?_, fun h => ?_⟩
  · have h : i < s.length := by simpa using h
    have hnx := chk_next h hch
    have hd := deco_next h hnx
    have hsc := nextAt_scalar h hnx
    have hn := nextAt_n s i
    have hwl := written_len way (nextAt s i).1
    have hds : Scalar ((deco s i).1 : Int) := deco_scalar s i
    have hwr := writeString_does out (writtenM way ((deco s i).1 : Int)) (by rw [hd.1]; omega)
    conv => whnf
    repeat' ((first | with_reducible refine IF.tt ?_ | with_reducible refine IF.ff ?_ | refine CALL.value (written_does _ way hds) rfl rfl ?_ | ((with_reducible refine NEED.mk ?_ ?_); (first | with_reducible rfl | omega | (simp (disch := omega) only [lnB, wrap64, wrap32] <;> omega) | (intro h; (try simp (disch := omega) only [hsB, hsC, lnB, wrap64, wrap32, simprocAttr] at h); (first | omega | (simp (disch := omega) only [lnB, wrap64, wrap32] <;> omega))) | (exact needApp 256 rfl rfl (by simp) (by simp) (by omega)) | (simp <;> omega))) | ((with_reducible apply GET.at); rfl) | ((with_reducible apply GETG.at); rfl) | ((with_reducible refine IF.mk (fun h => ?_) (fun h => ?_)) <;> (try simp (disch := omega) only [hsB, hsC, lnB, wrap64, wrap32, simprocAttr] at h) <;> try (exfalso; omega))) <;> conv => whnf)
    refine CALL.at [0] (hwr) rfl rfl rfl rfl (by first | rfl | (simp only [belowO, belowH, plainLL_below _ (plainStrs _), Bool.and_self, Bool.and_true] <;> rfl)) (by first | rfl | (simp only [belowO, belowH, plainLL_below _ (plainStrs _), Bool.and_self, Bool.and_true] <;> rfl)) (by repeat' (first | exact trivial | exact (renH_plain _ (h := .rows _ _) (plainStrs _)).symm | exact rfl | exact (renH_plain _ (h := .rows _ _) (plainStrs _)).trans (renH_plain _ (h := .rows _ _) (plainStrs _)).symm | ((conv => whnf); refine ⟨?_, ?_⟩))) (by repeat' (first | exact trivial | exact (renH_plain _ (h := .rows _ _) (plainStrs _)).symm | exact rfl | exact (renH_plain _ (h := .rows _ _) (plainStrs _)).trans (renH_plain _ (h := .rows _ _) (plainStrs _)).symm | ((conv => whnf); refine ⟨?_, ?_⟩))) rfl rfl ?_
    rintro r O' nx' ⟨rfl, rfl, rfl⟩
    conv => whnf
    refine ⟨(i + (deco s i).2, out ++ writtenM way ((deco s i).1 : Int)), ⟨?_, ?_, ?_, ?_⟩, ?_, ?_⟩
    · simp only; omega
    · simp only
      rw [show i + (deco s i).2 = i + (nextAt s i).2.toNat by omega, ← chk_step h hnx, hch]
    · simp only
      rw [← hout, escFrom_step h hnx, hd.1, show i + (deco s i).2 = i + (nextAt s i).2.toNat by omega, List.append_assoc]
    · simp only [List.length_append]; rw [hd.1]; omega
    · simp only; omega
    · conv => whnf
      (refine GOES.cutting h0 rfl rfl rfl (by first | rfl | simp [belowO, belowH, plainLL_below, plainLL_map, plainL, plain]) ?_ ?_ <;> (repeat' (first | (with_reducible rfl) | (exact congrArg (fun n => SV.sl _ _ _ n _) (by simp)) | (exact congrArg (Hp.rows _) (by simp)) | (exact congrArg (SV.int _) (by first | omega | (simp (disch := omega) only [lnB, wrap64, wrap32] <;> omega) | (simp; done) | (simp <;> omega))) | ((conv => whnf); refine ⟨?_, ?_⟩) | exact trivial | (simp; done) | rfl)))
  · have h : s.length ≤ i := by simpa using h
    conv => whnf
    repeat' ((first | with_reducible refine IF.tt ?_ | with_reducible refine IF.ff ?_ | ((with_reducible refine NEED.mk ?_ ?_); (first | with_reducible rfl | omega | (simp (disch := omega) only [lnB, wrap64, wrap32] <;> omega) | (intro h; (try simp (disch := omega) only [hsB, hsC, lnB, wrap64, wrap32, simprocAttr] at h); (first | omega | (simp (disch := omega) only [lnB, wrap64, wrap32] <;> omega))) | (exact needApp 256 rfl rfl (by simp) (by simp) (by omega)) | (simp <;> omega))) | ((with_reducible apply GET.at); rfl) | ((with_reducible apply GETG.at); rfl) | ((with_reducible refine IF.mk (fun h => ?_) (fun h => ?_)) <;> (try simp (disch := omega) only [hsB, hsC, lnB, wrap64, wrap32, simprocAttr] at h) <;> try (exfalso; omega))) <;> conv => whnf)
    rw [escFrom_end h, List.append_nil] at hout
    refine CALL.at [0] (string_does out) rfl rfl rfl rfl (by first | rfl | (simp only [belowO, belowH, plainLL_below _ (plainStrs _), Bool.and_self, Bool.and_true] <;> rfl)) (by first | rfl | (simp only [belowO, belowH, plainLL_below _ (plainStrs _), Bool.and_self, Bool.and_true] <;> rfl)) (by repeat' (first | exact trivial | exact (renH_plain _ (h := .rows _ _) (plainStrs _)).symm | exact rfl | exact (renH_plain _ (h := .rows _ _) (plainStrs _)).trans (renH_plain _ (h := .rows _ _) (plainStrs _)).symm | ((conv => whnf); refine ⟨?_, ?_⟩))) (by repeat' (first | exact trivial | exact (renH_plain _ (h := .rows _ _) (plainStrs _)).symm | exact rfl | exact (renH_plain _ (h := .rows _ _) (plainStrs _)).trans (renH_plain _ (h := .rows _ _) (plainStrs _)).symm | ((conv => whnf); refine ⟨?_, ?_⟩))) rfl rfl ?_
    rintro r O' nx' ⟨rfl, rfl, rfl⟩
    conv => whnf
    refine FIN.value h0 rfl ?_
    unfold escM
    rw [if_neg (by omega), ← hout]
end Go.Proofs.YtpffclpheldabaaGreatDoor
/- Escapes read, in plain words. No program in sight. -/
set_option linter.unusedVariables false
set_option linter.unusedSimpArgs false
namespace Go.Our
open Go.Sx
def hexV (c : Int) : Int := if 48 ≤ c ∧ c ≤ 57 then c - 48 else if 97 ≤ c ∧ c ≤ 102 then c - 97 + 10 else if 65 ≤ c ∧ c ≤ 70 then c - 65 + 10 else -1
theorem hexV_lt (c : Int) : -1 ≤ hexV c ∧ hexV c < 16 := by
  unfold hexV
  (repeat' split) <;> omega
/-- So many digits from a place on, behind what was read. -/
def numR (s : List UInt8) (i : Nat) : Nat → Int → Option Int
  | 0, a => some a
  | k + 1, a => if i < s.length ∧ 0 ≤ hexV (byteAt s i) then numR s (i + 1) k (a * 16 + hexV (byteAt s i)) else none
/-- The scalar of so many digits; -1: there is none. -/
def numM (s : List UInt8) (i k : Nat) : Int := match numR s i k 0 with
  | some r => if Scalar r then r else -1
  | none => -1
theorem numM_scalar {s : List UInt8} {i k : Nat} (h : 0 ≤ numM s i k) : Scalar (numM s i k) := by
  unfold numM at *
  split at h
  · split at h
    · rename_i h1 h2; rw [if_pos h2]; exact h2
    · omega
  · omega
theorem numM_ge (s : List UInt8) (i k : Nat) : -1 ≤ numM s i k := by
  unfold numM
  split
  · split
    · rename_i h; exact Int.le_trans (by decide) h.1
    · omega
  · omega
/-- What a letter behind a backslash means; -1: nothing. -/
def letM (c : Int) : Int := if c = 116 then 9 else if c = 98 then 8 else if c = 110 then 10 else if c = 114 then 13 else if c = 102 then 12 else if c = 34 then 34 else if c = 39 then 39 else if c = 92 then 92 else -1
/-- At a backslash: the scalar, and how many bytes the escape has; 0: there is none. -/
def escapeM (way : Int) (s : List UInt8) (i : Nat) : Int × Int :=
  if s.length ≤ i + 1 then (0, 0)
  else if byteAt s (i + 1 : Nat) = 117 then (if 0 ≤ numM s (i + 2) 4 then (numM s (i + 2) 4, 6) else (0, 0))
  else if byteAt s (i + 1 : Nat) = 85 then (if 0 ≤ numM s (i + 2) 8 then (numM s (i + 2) 8, 10) else (0, 0))
  else if way = 1 ∧ 0 ≤ letM (byteAt s (i + 1 : Nat)) then (letM (byteAt s (i + 1 : Nat)), 2) else (0, 0)
theorem numR_fits {s : List UInt8} {i k : Nat} {a r : Int} (h : numR s i k a = some r) (hk : 0 < k) : i + k ≤ s.length := by
  induction k generalizing i a with
  | zero => omega
  | succ k ih =>
    unfold numR at h
    split at h
    · rcases Nat.eq_zero_or_pos k with rfl | hk'
      · omega
      · have := ih h hk'; omega
    · cases h
theorem numM_fits {s : List UInt8} {i k : Nat} (h : 0 ≤ numM s i k) (hk : 0 < k) : i + k ≤ s.length := by
  unfold numM at h
  split at h
  · rename_i r hr; exact numR_fits hr hk
  · omega
theorem escapeM_n (way : Int) (s : List UInt8) (i : Nat) : (escapeM way s i).2 = 0 ∨ (2 ≤ (escapeM way s i).2 ∧ i + (escapeM way s i).2 ≤ s.length ∧ Scalar (escapeM way s i).1) := by
  unfold escapeM
  split
  · exact .inl rfl
  split
  · split
    · rename_i h; have := numM_fits h (by omega); exact .inr ⟨by simp, by simp only; omega, numM_scalar h⟩
    · exact .inl rfl
  split
  · split
    · rename_i h; have := numM_fits h (by omega); exact .inr ⟨by simp, by simp only; omega, numM_scalar h⟩
    · exact .inl rfl
  split
  · rename_i h
    refine .inr ⟨by simp, by simp only; omega, ?_⟩
    obtain ⟨_, h⟩ := h
    simp only
    unfold letM at *
    unfold Scalar
    (repeat' split at h) <;> simp_all
  · exact .inl rfl
def pre (l : List UInt8) : (Nat × Int) ⊕ List UInt8 → (Nat × Int) ⊕ List UInt8
  | .inl e => .inl e
  | .inr t => .inr (l ++ t)
/-- A text read: an error with its place, or what it says. -/
def unescM (way : Int) (s : List UInt8) (i : Nat) : (Nat × Int) ⊕ List UInt8 :=
  if h : i < s.length then
    if byteAt s i = 92 then
      if h2 : (escapeM way s i).2 = 0 then .inl (i, 41) else pre (encM (escapeM way s i).1) (unescM way s (i + (escapeM way s i).2.toNat))
    else
      if h2 : (nextAt s i).2 = 0 then .inl (i, 40) else pre (encM (nextAt s i).1) (unescM way s (i + (nextAt s i).2.toNat))
  else .inr []
termination_by s.length - i
decreasing_by
  · have := escapeM_n way s i; omega
  · have := nextAt_n s i; omega
theorem pre_pre (a b : List UInt8) (x : (Nat × Int) ⊕ List UInt8) : pre a (pre b x) = pre (a ++ b) x := by
  cases x <;> simp [pre]
theorem pre_nil (x : (Nat × Int) ⊕ List UInt8) : pre [] x = x := by cases x <;> rfl
section
variable {way : Int} {s : List UInt8} {i : Nat}
theorem unesc_end (h : s.length ≤ i) : unescM way s i = .inr [] := by rw [unescM, dif_neg (by omega)]
theorem unesc_bad (h : i < s.length) (h1 : byteAt s i = 92) (h2 : (escapeM way s i).2 = 0) : unescM way s i = .inl (i, 41) := by rw [unescM, dif_pos h, if_pos h1, dif_pos h2]
theorem unesc_esc (h : i < s.length) (h1 : byteAt s i = 92) (h2 : (escapeM way s i).2 ≠ 0) : unescM way s i = pre (encM (escapeM way s i).1) (unescM way s (i + (escapeM way s i).2.toNat)) := by
  conv => lhs; rw [unescM, dif_pos h, if_pos h1, dif_neg h2]
theorem unesc_wrong (h : i < s.length) (h1 : byteAt s i ≠ 92) (h2 : (nextAt s i).2 = 0) : unescM way s i = .inl (i, 40) := by rw [unescM, dif_pos h, if_neg h1, dif_pos h2]
theorem unesc_next (h : i < s.length) (h1 : byteAt s i ≠ 92) (h2 : (nextAt s i).2 ≠ 0) : unescM way s i = pre (encM (nextAt s i).1) (unescM way s (i + (nextAt s i).2.toNat)) := by
  conv => lhs; rw [unescM, dif_pos h, if_neg h1, dif_neg h2]
/-- A scalar's bytes are the ones that stand there. -/
theorem nextAt_enc (h : i < s.length) (h2 : (nextAt s i).2 ≠ 0) : encM (nextAt s i).1 = (s.drop i).take (nextAt s i).2.toNat := by
  have key : ∀ l : List UInt8, 0 ≤ guessM l → encM (guessM l) = l := by
    intro l hl
    unfold guessM at *
    split at hl
    · rename_i h; rw [if_pos h]; exact h.2
    · omega
  have hg := nextAt_guess (s := s) (i := i) (by omega)
  have e1 : ∀ k : Nat, ((i : Int) + (k : Int)).toNat - (i : Int).toNat = k := fun k => by omega
  have e0 : ((i : Int)).toNat = i := by omega
  split at hg
  · rename_i h
    rw [hg]; simp only
    rw [key _ h, e0, show ((i : Int) + 1).toNat - i = 1 by omega]; rfl
  split at hg
  · rename_i h
    rw [hg]; simp only
    rw [key _ h.2, e0, show ((i : Int) + 2).toNat - i = 2 by omega]; rfl
  split at hg
  · rename_i h
    rw [hg]; simp only
    rw [key _ h.2, e0, show ((i : Int) + 3).toNat - i = 3 by omega]; rfl
  split at hg
  · rename_i h
    rw [hg]; simp only
    rw [key _ h.2, e0, show ((i : Int) + 4).toNat - i = 4 by omega]; rfl
  · rw [hg] at h2; exact absurd rfl h2
theorem next_92 (h : i < s.length) (h1 : byteAt s i = 92) : nextAt s i = (92, 1) := by
  unfold nextAt decB
  rw [if_neg (by omega), h1]; rfl
theorem next_not92 (h : i < s.length) (h1 : byteAt s i ≠ 92) : (nextAt s i).1 ≠ 92 := by
  have e0 := byteAt_lt s i; have e1 := byteAt_lt s (i + 1); have e2 := byteAt_lt s (i + 2); have e3 := byteAt_lt s (i + 3)
  unfold nextAt decB
  rw [if_neg (by omega)]
  (repeat' split) <;> simp only <;> omega
end
theorem enc_len {r : Int} (h : 0 ≤ r) : 1 ≤ (encM r).length ∧ (encM r).length ≤ 4 := by
  unfold encM encI
  (repeat' split) <;> simp
theorem letM_lt (c : Int) : letM c < 128 := by
  unfold letM
  (repeat' split) <;> omega
theorem enc_low {r : Int} (h : r < 128) : (encM r).length = 1 := by
  unfold encM encI; rw [if_pos h]; rfl
/-- The bytes of an escape's scalar are fewer than the escape's. -/
theorem numM_enc {s : List UInt8} {i : Nat} : (encM (numM s i 4)).length ≤ 4 ∧ (encM (numM s i 8)).length ≤ 4 := ⟨encM_le _, encM_le _⟩
theorem esc_enc (way : Int) (s : List UInt8) (i : Nat) : (escapeM way s i).2 ≠ 0 → ((encM (escapeM way s i).1).length : Int) ≤ (escapeM way s i).2 := by
  unfold escapeM
  intro h
  split at h
  · simp at h
  rw [if_neg (by assumption)]
  split at h
  · rw [if_pos (by assumption)]
    split at h
    · rw [if_pos (by assumption)]; have := encM_le (numM s (i + 2) 4); simp only; omega
    · simp at h
  rw [if_neg (by assumption)]
  split at h
  · rw [if_pos (by assumption)]
    split at h
    · rw [if_pos (by assumption)]; have := encM_le (numM s (i + 2) 8); simp only; omega
    · simp at h
  rw [if_neg (by assumption)]
  split at h
  · rw [if_pos (by assumption)]
    have h2 : (encM (letM (byteAt s (i + 1 : Nat)))).length = 1 := enc_low (letM_lt _)
    simp only; omega
  · simp at h
theorem next_enc {s : List UInt8} {i : Nat} (h : i < s.length) (h2 : (nextAt s i).2 ≠ 0) : ((encM (nextAt s i).1).length : Int) = (nextAt s i).2 := by
  have hn := nextAt_n s i
  rw [nextAt_enc h h2]
  simp only [List.length_take, List.length_drop]
  omega
/-- What is read is no longer than what is read of. -/
theorem unesc_len (way : Int) (s : List UInt8) (i : Nat) : ∀ l, unescM way s i = .inr l → l.length ≤ s.length - i := by
  induction i using unescM.induct way s with
  | case1 i h h1 h2 => intro l hl; rw [unesc_bad h h1 h2] at hl; cases hl
  | case2 i h h1 h2 ih =>
    intro l hl
    rw [unesc_esc h h1 h2] at hl
    have h3 := esc_enc way s i h2
    have h4 := escapeM_n way s i
    cases hc : unescM way s (i + (escapeM way s i).2.toNat) with
    | inl e => rw [hc] at hl; cases hl
    | inr t =>
      rw [hc] at hl
      simp only [pre, Sum.inr.injEq] at hl
      have := ih t hc
      rw [← hl, List.length_append]
      omega
  | case3 i h h1 h2 => intro l hl; rw [unesc_wrong h h1 h2] at hl; cases hl
  | case4 i h h1 h2 ih =>
    intro l hl
    rw [unesc_next h h1 h2] at hl
    have h3 := next_enc h h2
    have h4 := nextAt_n s i
    cases hc : unescM way s (i + (nextAt s i).2.toNat) with
    | inl e => rw [hc] at hl; cases hl
    | inr t =>
      rw [hc] at hl
      simp only [pre, Sum.inr.injEq] at hl
      have := ih t hc
      rw [← hl, List.length_append]
      omega
  | case5 i h => intro l hl; rw [unesc_end (by omega)] at hl; cases hl; simp
/-! ### At the front of a cut -/
theorem byteAt_drp {s : List UInt8} {i : Nat} (k : Nat) : byteAt (s.drop i) (k : Nat) = byteAt s ((i + k : Nat) : Int) := by
  unfold byteAt
  rw [show ((k : Nat) : Int).toNat = k by omega, show (((i + k : Nat) : Nat) : Int).toNat = i + k by omega, getD_drop]
theorem numR_drop (s : List UInt8) (i : Nat) : ∀ (k j : Nat) (a : Int), numR (s.drop i) j k a = numR s (i + j) k a
  | 0, j, a => rfl
  | k + 1, j, a => by
    unfold numR
    rw [byteAt_drp, numR_drop s i k (j + 1), Nat.add_assoc]
    have : j < (s.drop i).length ↔ i + j < s.length := by rw [List.length_drop]; omega
    simp only [this]
theorem numM_drop (s : List UInt8) (i j k : Nat) : numM (s.drop i) j k = numM s (i + j) k := by unfold numM; rw [numR_drop]
theorem escapeM_drop (way : Int) (s : List UInt8) (i : Nat) : escapeM way (s.drop i) 0 = escapeM way s i := by
  unfold escapeM
  rw [numM_drop, numM_drop, byteAt_drp]
  have h1 : (s.drop i).length ≤ 0 + 1 ↔ s.length ≤ i + 1 := by rw [List.length_drop]; omega
  simp only [h1, Nat.zero_add]
theorem numR_step {s : List UInt8} {i k : Nat} {a : Int} (h : i < s.length) (h1 : 0 ≤ hexV (byteAt s i)) : numR s i (k + 1) a = numR s (i + 1) k (a * 16 + hexV (byteAt s i)) := by rw [numR, if_pos ⟨h, h1⟩]
theorem numR_no {s : List UInt8} {i k : Nat} {a : Int} (h : ¬ (i < s.length ∧ 0 ≤ hexV (byteAt s i))) : numR s i (k + 1) a = none := by rw [numR, if_neg h]
theorem numR_short {s : List UInt8} {i k : Nat} {a : Int} (h : s.length < i + k) (hk : 0 < k) : numR s i k a = none := by
  cases hc : numR s i k a with
  | none => rfl
  | some r => have := numR_fits hc hk; omega
/-- Four more bits. -/
theorem or4 {x c : Int} (hx : 0 ≤ x ∧ x < 268435456) (hc : 0 ≤ c ∧ c < 16) : iOr .i64 (iShl .i64 x 4) c = x * 16 + c := by
  have h1 : iShl .i64 x 4 = ((x.toNat * 2 ^ 4 : Nat) : Int) := by
    unfold iShl
    rw [show (min (Int.toNat 4) (IntKind.i64.bits)) = 4 by decide, show x * 2 ^ 4 = x * 16 by rfl, wrap64 (by omega) (by omega)]
    omega
  have h2 : c = ((c.toNat : Nat) : Int) := by omega
  rw [h1, h2, or_nat (by omega) (by show _ < 2 ^ 64; omega), wrap64 (by omega) (by omega)]
  omega
theorem pow16 {i k : Nat} (h : i ≤ k) : (16 : Nat) ^ i ≤ 16 ^ k := Nat.pow_le_pow_right (by omega) h
/-! ### The letters -/
abbrev lIdx (c : Int) : Int := Lib.indexByte lettersB c.toNat.toUInt8
theorem lIdx_in {c : Int} (h : 0 ≤ c ∧ c < 256) : (0 ≤ lIdx c → lIdx c < 8 ∧ IntKind.i32.wrap (byteAt meantB (lIdx c)) = letM c ∧ 0 ≤ letM c) ∧ (lIdx c < 0 → letM c = -1) := by
  have := int_all (p := fun c => decide ((0 ≤ lIdx c → lIdx c < 8 ∧ IntKind.i32.wrap (byteAt meantB (lIdx c)) = letM c ∧ 0 ≤ letM c) ∧ (lIdx c < 0 → letM c = -1))) (by decide +kernel) h
  simpa only [decide_eq_true_eq] using this
theorem numR_ge {s : List UInt8} {i k : Nat} {a r : Int} (h : numR s i k a = some r) (ha : 0 ≤ a) : 0 ≤ r := by
  induction k generalizing i a with
  | zero => simp only [numR, Option.some.injEq] at h; omega
  | succ k ih =>
    unfold numR at h
    split at h
    · exact ih h (by omega)
    · cases h
theorem letAt : byteAt [116, 98, 110, 114, 102, 34, 39, 92] 0 = 116 ∧ byteAt [116, 98, 110, 114, 102, 34, 39, 92] 1 = 98 ∧ byteAt [116, 98, 110, 114, 102, 34, 39, 92] 2 = 110 ∧ byteAt [116, 98, 110, 114, 102, 34, 39, 92] 3 = 114 ∧
    byteAt [116, 98, 110, 114, 102, 34, 39, 92] 4 = 102 ∧ byteAt [116, 98, 110, 114, 102, 34, 39, 92] 5 = 34 ∧ byteAt [116, 98, 110, 114, 102, 34, 39, 92] 6 = 39 ∧ byteAt [116, 98, 110, 114, 102, 34, 39, 92] 7 = 92 := by decide +kernel
theorem letM_at : letM 116 = 9 ∧ letM 98 = 8 ∧ letM 110 = 10 ∧ letM 114 = 13 ∧ letM 102 = 12 ∧ letM 34 = 34 ∧ letM 39 = 39 ∧ letM 92 = 92 := by decide +kernel
theorem letM_no {c : Int} (h : c ≠ 116 ∧ c ≠ 98 ∧ c ≠ 110 ∧ c ≠ 114 ∧ c ≠ 102 ∧ c ≠ 34 ∧ c ≠ 39 ∧ c ≠ 92) : letM c = -1 := by
  unfold letM
  simp (disch := omega) only [↓if_neg]
/-- The place of an error lies within. -/
theorem unesc_place (way : Int) (s : List UInt8) (i : Nat) : ∀ e, unescM way s i = .inl e → e.1 < s.length := by
  induction i using unescM.induct way s with
  | case1 i h h1 h2 => intro l hl; rw [unesc_bad h h1 h2] at hl; cases hl; exact h
  | case2 i h h1 h2 ih =>
    intro l hl
    rw [unesc_esc h h1 h2] at hl
    cases hc : unescM way s (i + (escapeM way s i).2.toNat) with
    | inl e => rw [hc] at hl; simp only [pre, Sum.inl.injEq] at hl; subst hl; exact ih e hc
    | inr t => rw [hc] at hl; cases hl
  | case3 i h h1 h2 => intro l hl; rw [unesc_wrong h h1 h2] at hl; cases hl; exact h
  | case4 i h h1 h2 ih =>
    intro l hl
    rw [unesc_next h h1 h2] at hl
    cases hc : unescM way s (i + (nextAt s i).2.toNat) with
    | inl e => rw [hc] at hl; simp only [pre, Sum.inl.injEq] at hl; subst hl; exact ih e hc
    | inr t => rw [hc] at hl; cases hl
  | case5 i h => intro l hl; rw [unesc_end (by omega)] at hl; cases hl
theorem unesc_code (way : Int) (s : List UInt8) (i : Nat) : ∀ e, unescM way s i = .inl e → e.2 = 40 ∨ e.2 = 41 := by
  induction i using unescM.induct way s with
  | case1 i h h1 h2 => intro l hl; rw [unesc_bad h h1 h2] at hl; cases hl; exact .inr rfl
  | case2 i h h1 h2 ih =>
    intro l hl
    rw [unesc_esc h h1 h2] at hl
    cases hc : unescM way s (i + (escapeM way s i).2.toNat) with
    | inl e => rw [hc] at hl; simp only [pre, Sum.inl.injEq] at hl; subst hl; exact ih e hc
    | inr t => rw [hc] at hl; cases hl
  | case3 i h h1 h2 => intro l hl; rw [unesc_wrong h h1 h2] at hl; cases hl; exact .inl rfl
  | case4 i h h1 h2 ih =>
    intro l hl
    rw [unesc_next h h1 h2] at hl
    cases hc : unescM way s (i + (nextAt s i).2.toNat) with
    | inl e => rw [hc] at hl; simp only [pre, Sum.inl.injEq] at hl; subst hl; exact ih e hc
    | inr t => rw [hc] at hl; cases hl
  | case5 i h => intro l hl; rw [unesc_end (by omega)] at hl; cases hl
end Go.Our
