/- Part 2 of the texts that the last one leans on: SxDrawnT, Tab, ReadG, ReadB, GlobS, Sha, SxAuto, SxAuto2, SxAuto3, Sha1, Sha2, Sha3, Sha4, Sha5, Sha6. Conditions: as each part says. -/
import Derived.Test.YtjgjfeicenkceaaDoorProg
import Derived.Test.YtjgjfeicenkceaaDoorRows
import Derived.Lib.LaidTab
import Derived.LaidSub
import Derived.IntWalk
import Derived.Test.YtjgjfeicenkceaaDoorDg1
/- Regions whose order is drawn: the walk in one order is sound for every order. Conditions: none. -/
set_option linter.unusedVariables false
set_option linter.unusedSimpArgs false
namespace Go.Sx
open Go
/-- Until one of these has come up, what stood in that world stands. -/
def SS (ks : List Nat) (wc : World) (l : Array Bool) (w : World) : Prop := (∀ k ∈ ks, l.getD k false = false) → agree wc w
section
variable {M : Mx} {ops : Array Oper} {Q : Exit → Act → World → Prop}
theorem killsOf_quiet {i m : Nat} {rest : Plan} (h : m ≠ 0) : killsOf (.take i m rest) = killsOf rest := by
  cases m with
  | zero => exact (h rfl).elim
  | succ m => rfl
theorem killsOf_kill {i : Nat} {rest : Plan} : killsOf (.take i 0 rest) = i :: killsOf rest := rfl
theorem getD_false_of_true {l : Array Bool} {i : Nat} (h : l.getD i true = false) : l.getD i false = false := by
  rcases Nat.lt_or_ge i l.size with h' | h'
  · simp [h'] at h ⊢; exact h
  · simp [Array.getElem?_eq_none h'] at h
theorem models_put {η : Env} {fr : Fr} {O : Hps} {nx : Nat} {a : Act} {w : World} (hm : Models M η fr O nx a w) {o : Oper} (hd : dstOk M.C.N o.dst = true) {u : Value} {v : SV} (hv : Den η v u) {Kp : Fr → Prop} (hk : putK o.dst v fr Kp) :
    ∃ fr', Kp fr' ∧ Models M η fr' O nx (a.put o.dst u) w := hm.put hd List.prefix_rfl hm.heap hv hk
/-- A quiet operation, taken first. -/
theorem quiet_first (hQ : ∀ c a w, ¬ Q (.panic c) a w) (hs : Region.noSelect ops = true) {i n : Nat} {o : Oper} {l : Array Bool} {ks : List Nat} (ho : ops[i]? = some o) (hready : i ∈ Region.ready .any ops l) (hfree : Region.free .any ops l i = true) (hne : ∀ k ∈ ks, k ≠ i) (hc : Closed .any ops l)
    {N : World → Prop} {wc : World} (hN : ∀ l w, Closed .any ops l → l.getD i true = false → SS ks wc l w → N w) {a : Act} {w : World} {u : Value} (hy : YieldsN M.P ops N o u a) (hag : agree wc w)
    (h : wpH M.P .any ops Q (SS ks wc) n (l.setIfInBounds i true) (a.put o.dst u) w) : wpH M.P .any ops Q (SS ks wc) (n + 1) l a w := by
  refine wpH_first ho (Region.noSelect_spec hs) (fun c a w hq => (hQ _ _ _ hq).elim) hN (fun l' w' hc' hun hr hS hk => hS fun k hk' => ?_) n l a w hc (Region.free_spec ho hfree) hready hy (fun _ => hag) (fun _ => hag) h
  rw [getD_set_ne false (Ne.symm (hne k hk'))]; exact hk k hk'
theorem HeapOK.drawn {η : Env} {w : World} {O : Hps} {nx : Nat} (H : HeapOK M η w O nx) {n : Nat} (hn : w.drawn ≤ n) : HeapOK M η { w with drawn := n } O nx :=
  ⟨H.pre, H.len, H.own.still rfl, ⟨H.fr.os, H.fr.tape, H.fr.output, Nat.le_trans H.fr.drawn hn, H.fr.size, H.fr.block⟩, H.sok⟩
theorem modeOK_of {m : Nat} (h : modeOK m = true) : m = 0 ∨ m = 3 := by
  unfold modeOK at h
  simpa using h
theorem killIf_mem {i m : Nat} {l : List Nat} {x : Nat} (h : x ∈ l) : x ∈ killIf i m l := by
  cases m with
  | zero => exact List.mem_cons_of_mem _ h
  | succ m => exact h
theorem killIf_self {i : Nat} {l : List Nat} : i ∈ killIf i 0 l := List.mem_cons_self ..
/-- One operation, in a mode that may write or in one that adds: whatever comes of it. -/
theorem oneD_op (hT : TabOK M.P M.C.T) {i m : Nat} (hmode : m = 0 ∨ m = 3) {fr : Fr} {O : Hps} {nx : Nat} {Kn : Fr → Hps → Nat → Prop} (h : oneD M ops.toList i m fr O nx Kn) {η : Env} {a : Act} {w : World} (hm : Models M η fr O nx a w) {R : Act → World → Prop}
    (hR : ∀ {fr : Fr} {O : Hps} {nx : Nat} {η : Env} {a : Act} {w' : World}, Kn fr O nx → Models M η fr O nx a w' → (m = 3 → agree w w') → R a w') : wpOp M.P ops Q i R a w := by
  unfold oneD at h
  split at h
  · exact h.out.elim
  rename_i o ho
  have ho : ops[i]? = some o := by rw [nth_get] at ho; simpa using ho
  have skip : ∀ {fr' : Fr}, Models M η fr' O nx a w → Region.wanted o (yielded ops a.tmps) ≠ true → (match dstOk M.C.N o.dst with | true => putK o.dst undefS fr' fun fr => Kn fr O nx | false => STOP "slot") → wpOp M.P ops Q i R a w := by
    intro fr' hm' hw h
    split at h
    case h_2 => exact h.out.elim
    rename_i hd
    obtain ⟨fr2, h1, h2⟩ := models_put hm' hd (denNone η) h
    unfold wpOp
    simp only [ho]
    rw [if_neg hw]; exact hR h1 h2 fun _ => agree.refl w
  have go : ∀ {fr' : Fr}, Models M η fr' O nx a w → Region.wanted o (yielded ops a.tmps) = true → (carry M m o fr' O nx fun v O nx => putK o.dst v fr' fun fr => Kn fr O nx) → wpOp M.P ops Q i R a w := by
    intro fr' hm' hw h
    unfold wpOp
    simp only [ho]
    rw [if_pos hw]
    rcases hmode with rfl | rfl
    · have h : stepO M o (lookF fr') O nx fun v O nx => putK o.dst v fr' fun fr => Kn fr O nx := h
      refine .inl (stepO_wp hT hm' (fun x sv hx => lookF_den hm'.frame hx) h fun u v O' nx' η' w' hd hp hH hv hk => ?_)
      obtain ⟨fr2, h1, h2⟩ := hm'.put hd hp hH hv hk
      exact hR h1 h2 fun h => by cases h
    · have h : ADD M o fr' O nx fun v O nx => putK o.dst v fr' fun fr => Kn fr O nx := h
      have hm2 : Models (shMx M O η w) η fr' [] nx a w := ⟨hm'.heap.read (agree.refl w), hm'.size, hm'.defers, hm'.frame⟩
      refine .inl (stepO_wp (M := shMx M O η w) hT hm2 (fun x sv hx => lookF_den hm'.frame hx) (h.out η w) fun u v O2 nx2 η' w' hd hp hH hv hk => ?_)
      obtain ⟨hJ, hag2⟩ := hm'.heap.join hH
      obtain ⟨fr2, h1, h2⟩ := hm'.put hd hp hJ hv hk
      exact hR h1 h2 fun _ => hag2
  split at h
  · rename_i hg
    exact go hm (wanted_none hg) h
  · rename_i j want hg
    split at h
    · exact h.out.elim
    rename_i s hsl
    split at h
    · rename_i b hb
      have hbv := denBool (hm.frame s _ hb)
      have hy := yielded_of hsl hbv
      cases b with
      | true =>
        have h := h.t rfl
        have hm' : Models M η ((s, .bool true) :: fr) O nx a w := ⟨hm.heap, hm.size, hm.defers, hm.frame.know hbv⟩
        cases want with
        | true => exact go hm' ((wanted_some hg).2 hy) h
        | false => exact skip hm' (fun hw => by rw [wanted_some hg, hy] at hw; cases hw) h
      | false =>
        have h := h.f rfl
        have hm' : Models M η ((s, .bool false) :: fr) O nx a w := ⟨hm.heap, hm.size, hm.defers, hm.frame.know hbv⟩
        cases want with
        | false => exact go hm' ((wanted_some hg).2 hy) h
        | true => exact skip hm' (fun hw => by rw [wanted_some hg, hy] at hw; cases hw) h
    · rename_i hb
      have hbv := hm.frame s _ hb
      simp only [Den, DenL] at hbv
      obtain ⟨vs, hbv, rfl⟩ := hbv
      exact skip hm (fun hw => by rw [wanted_some hg] at hw; exact yielded_not hsl (by rw [hbv]; simp) hw) h
    · exact h.out.elim
/-- One arm of a fork. -/
theorem arm (hT : TabOK M.P M.C.T) {fk t : Plan} {d : Nat} {fr : Fr} {O : Hps} {nx : Nat} {K : Fr → Hps → Nat → Prop} {η : Env} {a : Act} {w wc : World} {l : Array Bool} (hm : Models M η fr O nx a w) (hag : agree wc w) (hc : Closed .any ops l)
    {x m : Nat} (hmo : modeOK m = true) (hx : x ∈ Region.ready .any ops l) (hxk : m = 0 → x ∈ killsOf fk) (hsub : ∀ k ∈ killsOf t, k ∈ killsOf fk) (hd : t.depth = d)
    (ih : ∀ {fr : Fr} {O : Hps} {nx : Nat} {η : Env} {a : Act} {w wc : World}, runD M ops.toList t fr O nx K → Models M η fr O nx a w → agree wc w → wpH M.P .any ops Q (SS (killsOf t) wc) t.depth (l.setIfInBounds x true) a w)
    (hrun : oneD M ops.toList x m fr O nx fun fr O nx => runD M ops.toList t fr O nx K) :
    wpOp M.P ops Q x (fun a' w' => SS (killsOf fk) wc (l.setIfInBounds x true) w' ∧ wpH M.P .any ops Q (SS (killsOf fk) wc) d (l.setIfInBounds x true) a' w') a w := by
  have hin : x < l.size := by
    obtain ⟨h1, o, ho, _⟩ := mem_ready.1 hx
    rw [hc.1]; exact (Array.getElem?_eq_some_iff.1 ho).1
  have hset : (l.setIfInBounds x true).getD x false = true := by simp [hin]
  refine oneD_op hT (modeOK_of hmo) hrun hm fun {fr O nx η a w'} hk hm' hag' => ?_
  rcases modeOK_of hmo with h0 | h3
  · have hno : ∀ l' w', Grows (l.setIfInBounds x true) l' → SS (killsOf fk) wc l' w' := by
      intro l' w' hg hk
      have h1 := hk x (hxk h0)
      rw [hg x hset] at h1; cases h1
    refine ⟨hno _ _ (fun _ h => h), ?_⟩
    have := ih hk hm' (agree.refl _)
    rw [hd] at this
    exact wpH_mono (l0 := l.setIfInBounds x true) (fun l' w' hg _ => hno l' w' hg) _ _ _ _ (fun _ h => h) this
  · have hag2 : agree wc w' := hag.trans (hag' h3)
    refine ⟨fun _ => hag2, ?_⟩
    have := ih hk hm' hag2
    rw [hd] at this
    exact wpH_mono (l0 := l.setIfInBounds x true) (fun l' w'' hg hS hk => hS fun k hkt => hk k (hsub k hkt)) _ _ _ _ (fun _ h => h) this
theorem runD_sound (hT : TabOK M.P M.C.T) (hQ : ∀ c a w, ¬ Q (.panic c) a w) (hs : Region.noSelect ops = true) : ∀ (steps : Plan) {fr : Fr} {O : Hps} {nx : Nat} {K : Fr → Hps → Nat → Prop}, runD M ops.toList steps fr O nx K →
    ∀ {l : Array Bool}, stepsOK ops (masks ops.toList []) steps l = true → Closed .any ops l → ∀ {η : Env} {a : Act} {w : World}, Models M η fr O nx a w → (∀ η fr O nx a w, Models M η fr O nx a w → K fr O nx → Q .normal a w) →
    ∀ {wc : World}, agree wc w → wpH M.P .any ops Q (SS (killsOf steps) wc) steps.depth l a w
  | .nil, fr, O, nx, K, h, l, hl, hc, η, a, w, hm, hq, wc, hag => by
    simp only [stepsOK, List.isEmpty_iff] at hl
    exact ⟨hl, hq η fr O nx a w hm h⟩
  | .take i m rest, fr, O, nx, K, h, l, hl, hc, η, a, w, hm, hq, wc, hag => by
    have IH := @runD_sound hT hQ hs rest
    unfold runD oneD at h
    split at h
    · exact h.out.elim
    rename_i o ho
    have ho : ops[i]? = some o := by rw [nth_get] at ho; simpa using ho
    simp only [stepsOK, Bool.and_eq_true] at hl
    obtain ⟨hl1, hl2⟩ := hl
    have hready : i ∈ Region.ready .any ops l := by
      revert hl1
      split <;> intro hl1
      · rw [beq_iff_eq.1 hl1]; exact List.mem_singleton.2 rfl
      · simp only [Bool.and_eq_true] at hl1; simpa using hl1.1.1
      · simp only [Bool.and_eq_true] at hl1; simpa using hl1.1.1
      · rw [beq_iff_eq.1 hl1]; exact List.mem_singleton.2 rfl
    have hc' := hc.set hready
    have hin : i < l.size := by rw [hc.1]; exact (Array.getElem?_eq_some_iff.1 ho).1
    have hset : (l.setIfInBounds i true).getD i false = true := by simp [hin]
    have modes : ∀ {p : Prop}, (m = 0 → p) → (m = 1 → p) → (m = 2 → p) → (3 ≤ m → p) → p := by
      intro p h0 h1 h2 h3
      match m, h0, h1, h2, h3 with
      | 0, h0, _, _, _ => exact h0 rfl
      | 1, _, h1, _, _ => exact h1 rfl
      | 2, _, _, h2, _ => exact h2 rfl
      | m + 3, _, _, _, h3 => exact h3 (by omega)
    -- an operation that waits for nobody's leave: but this one may come up
    have alone : Region.ready .any ops l = [i] → ∀ {a : Act} {w : World}, agree wc w → wpOp M.P ops Q i (fun a' w' => SS (killsOf (.take i m rest)) wc (l.setIfInBounds i true) w' ∧ wpH M.P .any ops Q (SS (killsOf (.take i m rest)) wc) rest.depth (l.setIfInBounds i true) a' w') a w →
        wpH M.P .any ops Q (SS (killsOf (.take i m rest)) wc) (Plan.take i m rest).depth l a w := fun hr a w hag h => wpH_one hr h
    -- what follows an operation that writes
    have afterKill : m = 0 → ∀ {fr : Fr} {O : Hps} {nx : Nat} {η : Env} {a : Act} {w : World}, runD M ops.toList rest fr O nx K → Models M η fr O nx a w →
        SS (killsOf (.take i m rest)) wc (l.setIfInBounds i true) w ∧ wpH M.P .any ops Q (SS (killsOf (.take i m rest)) wc) rest.depth (l.setIfInBounds i true) a w := by
      intro h0 fr O nx η a w hrun hm
      subst h0
      rw [killsOf_kill]
      have hno : ∀ l' w', Grows (l.setIfInBounds i true) l' → SS (i :: killsOf rest) wc l' w' := by
        intro l' w' hg hk
        have h1 := hk i (List.mem_cons_self ..)
        rw [hg i hset] at h1; cases h1
      exact ⟨hno _ _ (fun _ h => h), wpH_mono (l0 := l.setIfInBounds i true) (fun l' w' hg _ => hno l' w' hg) _ _ _ _ (fun _ h => h) (IH hrun hl2 hc' hm hq (agree.refl w))⟩
    -- what follows one that does not
    have afterElse : m ≠ 0 → ∀ {fr : Fr} {O : Hps} {nx : Nat} {η : Env} {a : Act} {w : World}, runD M ops.toList rest fr O nx K → Models M η fr O nx a w → agree wc w →
        SS (killsOf (.take i m rest)) wc (l.setIfInBounds i true) w ∧ wpH M.P .any ops Q (SS (killsOf (.take i m rest)) wc) rest.depth (l.setIfInBounds i true) a w := by
      intro h0 fr O nx η a w hrun hm hag
      rw [killsOf_quiet h0]
      exact ⟨fun _ => hag, IH hrun hl2 hc' hm hq hag⟩
    have quiet1 : m = 1 → Region.free .any ops l i = true ∧ ∀ k ∈ killsOf rest, k ≠ i := by
      intro h1; subst h1
      simp only [Bool.and_eq_true, List.all_eq_true, bne_iff_ne] at hl1
      exact ⟨hl1.1.2, hl1.2⟩
    have quiet2 : m = 2 → Region.free .any ops l i = true ∧ ∀ k ∈ killsOf rest, k ≠ i ∧ ((masks ops.toList []).getD k 0).testBit i = true := by
      intro h1; subst h1
      simp only [Bool.and_eq_true, List.all_eq_true, bne_iff_ne] at hl1
      exact ⟨hl1.1.2, hl1.2⟩
    have alone0 : m = 0 → Region.ready .any ops l = [i] := by intro h1; subst h1; exact beq_iff_eq.1 hl1
    have alone3 : 3 ≤ m → Region.ready .any ops l = [i] := by
      intro h1
      match m, h1, hl1 with
      | m + 3, _, hl1 => exact beq_iff_eq.1 hl1
    -- it is passed over
    have skip : ∀ {fr' : Fr}, Models M η fr' O nx a w → Region.wanted o (yielded ops a.tmps) ≠ true → (match dstOk M.C.N o.dst with | true => putK o.dst undefS fr' fun fr => runD M ops.toList rest fr O nx K | false => STOP "slot") →
        wpH M.P .any ops Q (SS (killsOf (.take i m rest)) wc) (Plan.take i m rest).depth l a w := by
      intro fr' hm' hw h
      split at h
      case h_2 => exact h.out.elim
      rename_i hd
      obtain ⟨fr2, h1, h2⟩ := models_put hm' hd (denNone η) h
      have hwf : Region.wanted o (yielded ops a.tmps) = false := by simpa using hw
      have op : ∀ {K' : Act → World → Prop}, K' (a.put o.dst undef) w → wpOp M.P ops Q i K' a w := by
        intro K' hk
        unfold wpOp
        simp only [ho]
        rw [if_neg hw]; exact hk
      refine modes (fun h0 => alone (alone0 h0) hag (op (afterKill h0 h1 h2))) (fun h0 => ?_) (fun h0 => ?_) (fun h0 => alone (alone3 h0) hag (op (afterElse (by omega) h1 h2 hag)))
      · have hn : m ≠ 0 := by omega
        have := (afterElse hn h1 h2 hag).2
        rw [killsOf_quiet hn] at this ⊢
        exact quiet_first hQ hs ho hready (quiet1 h0).1 (quiet1 h0).2 hc (N := fun _ => True) (fun _ _ _ _ _ => trivial) (.inr ⟨hwf, rfl⟩) hag this
      · have hn : m ≠ 0 := by omega
        have := (afterElse hn h1 h2 hag).2
        rw [killsOf_quiet hn] at this ⊢
        exact quiet_first hQ hs ho hready (quiet2 h0).1 (fun k hk => ((quiet2 h0).2 k hk).1) hc (N := fun _ => True) (fun _ _ _ _ _ => trivial) (.inr ⟨hwf, rfl⟩) hag this
    -- it is carried out
    have go : ∀ {fr' : Fr}, Models M η fr' O nx a w → Region.wanted o (yielded ops a.tmps) = true → (carry M m o fr' O nx fun v O nx => putK o.dst v fr' fun fr => runD M ops.toList rest fr O nx K) →
        wpH M.P .any ops Q (SS (killsOf (.take i m rest)) wc) (Plan.take i m rest).depth l a w := by
      intro fr' hm' hw h
      have op : ∀ {K' : Act → World → Prop}, o.wp M.P a w K' Q → wpOp M.P ops Q i K' a w := by
        intro K' hk
        unfold wpOp
        simp only [ho]
        rw [if_pos hw]; exact .inl hk
      refine modes (fun h0 => ?_) (fun h0 => ?_) (fun h0 => ?_) (fun h0 => ?_)
      · have h : stepO M o (lookF fr') O nx fun v O nx => putK o.dst v fr' fun fr => runD M ops.toList rest fr O nx K := by subst h0; exact h
        refine alone (alone0 h0) hag (op (stepO_wp hT hm' (fun x sv hx => lookF_den hm'.frame hx) h fun u v O' nx' η' w' hd hp hH hv hk => ?_))
        obtain ⟨fr2, h1, h2⟩ := hm'.put hd hp hH hv hk
        exact afterKill h0 h1 h2
      · have h : stepQ M.C.N (cxBlind M.C) o fr' nx fun v => putK o.dst v fr' fun fr => runD M ops.toList rest fr O nx K := by subst h0; exact h
        obtain ⟨hd, u, v, hy, hv, hk⟩ := stepQ_yields (P := M.P) (C' := cxBlind M.C) ⟨hT.und, hT.info, hT.zero, hT.zsh, hT.flat, hT.key⟩ (N := fun _ => True) (w := w) hm'.frame (fun w' _ => HeapOK.blind (M := M) hm'.heap.len w') trivial h
        obtain ⟨fr2, h1, h2⟩ := models_put hm' hd hv hk
        have hn : m ≠ 0 := by omega
        have := (afterElse hn h1 h2 hag).2
        rw [killsOf_quiet hn] at this ⊢
        exact quiet_first hQ hs ho hready (quiet1 h0).1 (quiet1 h0).2 hc (N := fun _ => True) (fun _ _ _ _ _ => trivial) (.inl ⟨hw, fun w' h => hy w' h⟩) hag this
      · have h : stepQ M.C.N (cxRead M.C O) o fr' nx fun v => putK o.dst v fr' fun fr => runD M ops.toList rest fr O nx K := by subst h0; exact h
        obtain ⟨hd, u, v, hy, hv, hk⟩ := stepQ_yields (P := M.P) (C' := cxRead M.C O) hT (N := agree w) hm'.frame (fun w' h => hm'.heap.read h) (agree.refl w) h
        obtain ⟨fr2, h1, h2⟩ := models_put hm' hd hv hk
        have hn : m ≠ 0 := by omega
        have := IH h1 hl2 hc' h2 hq (agree.refl w)
        rw [killsOf_quiet hn]
        refine wpH_mono (S' := SS (killsOf rest) w) (l0 := l) (fun l' w' _ hS hk => hag.trans (hS hk)) _ _ _ _ (fun _ h => h) ?_
        refine quiet_first hQ hs ho hready (quiet2 h0).1 (fun k hk => ((quiet2 h0).2 k hk).1) hc (N := agree w) (fun l' w' hcl hun hS => hS fun k hk => ?_) (.inl ⟨hw, fun w' h => hy w' h⟩) (agree.refl w) this
        cases hlk : l'.getD k false with
        | false => rfl
        | true =>
          have := waits_closed hcl k ((quiet2 h0).2 k hk).2 hlk
          rw [getD_false_of_true hun] at this; cases this
      · have h : ADD M o fr' O nx fun v O nx => putK o.dst v fr' fun fr => runD M ops.toList rest fr O nx K := by
          match m, h0, h with
          | m + 3, _, h => exact h
        have hm2 : Models (shMx M O η w) η fr' [] nx a w := ⟨hm'.heap.read (agree.refl w), hm'.size, hm'.defers, hm'.frame⟩
        refine alone (alone3 h0) hag (op (stepO_wp (M := shMx M O η w) hT hm2 (fun x sv hx => lookF_den hm'.frame hx) (h.out η w) fun u v O2 nx2 η' w' hd hp hH hv hk => ?_))
        obtain ⟨hJ, hag2⟩ := hm'.heap.join hH
        obtain ⟨fr2, h1, h2⟩ := hm'.put hd hp hJ hv hk
        exact afterElse (by omega) h1 h2 (hag.trans hag2)
    split at h
    · rename_i hg
      exact go hm (wanted_none hg) h
    · rename_i j want hg
      split at h
      · exact h.out.elim
      rename_i s hsl
      split at h
      · rename_i b hb
        have hbv := denBool (hm.frame s _ hb)
        have hy := yielded_of hsl hbv
        cases b with
        | true =>
          have h := h.t rfl
          have hm' : Models M η ((s, .bool true) :: fr) O nx a w := ⟨hm.heap, hm.size, hm.defers, hm.frame.know hbv⟩
          cases want with
          | true => exact go hm' ((wanted_some hg).2 hy) h
          | false => exact skip hm' (fun hw => by rw [wanted_some hg, hy] at hw; cases hw) h
        | false =>
          have h := h.f rfl
          have hm' : Models M η ((s, .bool false) :: fr) O nx a w := ⟨hm.heap, hm.size, hm.defers, hm.frame.know hbv⟩
          cases want with
          | false => exact go hm' ((wanted_some hg).2 hy) h
          | true => exact skip hm' (fun hw => by rw [wanted_some hg, hy] at hw; cases hw) h
      · rename_i hb
        have hbv := hm.frame s _ hb
        simp only [Den, DenL] at hbv
        obtain ⟨vs, hbv, rfl⟩ := hbv
        exact skip hm (fun hw => by rw [wanted_some hg] at hw; exact yielded_not hsl (by rw [hbv]; simp) hw) h
      · exact h.out.elim
  | .fork i mi j mj p q, fr, O, nx, K, h, l, hl, hc, η, a, w, hm, hq, wc, hag => by
    simp only [stepsOK, Bool.and_eq_true, beq_iff_eq] at hl
    obtain ⟨⟨⟨⟨⟨hr, hmi⟩, hmj⟩, hdep⟩, hlp⟩, hlq⟩ := hl
    unfold runD at h
    have hi : i ∈ Region.ready .any ops l := by rw [hr]; simp
    have hj : j ∈ Region.ready .any ops l := by rw [hr]; simp
    refine ⟨fun h0 => (by rw [hr] at h0; cases h0), fun x hx => ?_⟩
    rw [hr] at hx
    rcases List.mem_cons.1 hx with rfl | hx
    · exact arm hT hm hag hc hmi hi (fun h0 => by subst h0; exact killIf_self) (fun k hk => killIf_mem (killIf_mem (List.mem_append_left _ hk))) rfl (fun hk hm' hag => runD_sound hT hQ hs p hk hlp (hc.set hi) hm' hq hag) h.a
    · have hx := List.mem_singleton.1 hx
      subst hx
      exact arm hT hm hag hc hmj hj (fun h0 => by subst h0; exact killIf_mem killIf_self) (fun k hk => killIf_mem (killIf_mem (List.mem_append_right _ hk))) hdep.symm (fun hk hm' hag => runD_sound hT hQ hs q hk hlq (hc.set hj) hm' hq hag) h.b
  | .fork3 i mi j mj k mk p q r, fr, O, nx, K, h, l, hl, hc, η, a, w, hm, hq, wc, hag => by
    simp only [stepsOK, Bool.and_eq_true, beq_iff_eq] at hl
    obtain ⟨⟨⟨⟨⟨⟨⟨⟨hr, hmi⟩, hmj⟩, hmk⟩, hdep⟩, hdep2⟩, hlp⟩, hlq⟩, hlr⟩ := hl
    unfold runD at h
    have hi : i ∈ Region.ready .any ops l := by rw [hr]; simp
    have hj : j ∈ Region.ready .any ops l := by rw [hr]; simp
    have hk' : k ∈ Region.ready .any ops l := by rw [hr]; simp
    refine ⟨fun h0 => (by rw [hr] at h0; cases h0), fun x hx => ?_⟩
    rw [hr] at hx
    rcases List.mem_cons.1 hx with rfl | hx
    · exact arm hT hm hag hc hmi hi (fun h0 => by subst h0; exact killIf_self) (fun k hk => killIf_mem (killIf_mem (killIf_mem (List.mem_append_left _ hk)))) rfl (fun hk hm' hag => runD_sound hT hQ hs p hk hlp (hc.set hi) hm' hq hag) h.a
    · rcases List.mem_cons.1 hx with rfl | hx
      · exact arm hT hm hag hc hmj hj (fun h0 => by subst h0; exact killIf_mem killIf_self) (fun k hk => killIf_mem (killIf_mem (killIf_mem (List.mem_append_right _ (List.mem_append_left _ hk))))) hdep.symm (fun hk hm' hag => runD_sound hT hQ hs q hk hlq (hc.set hj) hm' hq hag) h.b.a
      · have hx := List.mem_singleton.1 hx
        subst hx
        exact arm hT hm hag hc hmk hk' (fun h0 => by subst h0; exact killIf_mem (killIf_mem killIf_self)) (fun k hk => killIf_mem (killIf_mem (killIf_mem (List.mem_append_right _ (List.mem_append_right _ hk))))) hdep2.symm (fun hk hm' hag => runD_sound hT hQ hs r hk hlr (hc.set hk') hm' hq hag) h.b.b
/-- A region whose order is drawn: it is walked in one order. -/
theorem DRAWN.of {M : Mx} (hT : TabOK M.P M.C.T) (hP : M.P.follows .mixedOrders = true) {id : Nat} {ops : Array Oper} {fr : Fr} {O : Hps} {nx : Nat} {Q : Post} (steps : Plan) (hord : orderOK ops steps = true)
    (h : runD M ops.toList steps fr O nx fun fr O nx => Q .normal fr O nx) : DRAWN M id ops fr O nx Q := by
  simp only [orderOK, Bool.and_eq_true, beq_iff_eq] at hord
  obtain ⟨⟨hs, hlen⟩, hord⟩ := hord
  refine ⟨fun η a w hm => wp_region_any hP (wpAny_of_wpH (S := SS (killsOf steps) { w with drawn := w.drawn + 1 }) _ _ _ _ ?_)⟩
  have hm' : Models M η fr O nx a { w with drawn := w.drawn + 1 } := ⟨hm.heap.drawn (Nat.le_succ _), hm.size, hm.defers, hm.frame⟩
  have hc0 : Closed .any ops (Array.replicate ops.size false) := by
    refine ⟨by simp, fun j o hj hl => ?_⟩
    rcases Nat.lt_or_ge j ops.size with h' | h'
    · simp [h'] at hl
    · simp [h'] at hl
  have key := runD_sound (Q := liftQ M Q) hT (fun c a w hq => hq) hs steps h hord hc0 hm' (fun η fr O nx a w hm hq => ⟨η, fr, O, nx, hm, hq⟩) (agree.refl _)
  rw [hlen] at key
  exact key
end
end Go.Sx
/- What the engine knows of the types of this program. Made by gen_tab.py. Conditions: none. -/
set_option maxRecDepth 100000
namespace Go.Proofs.YtjgjfeicenkceaaDoor
open Go.Sx
def tabSh (t : TypeId) : Sh := match Nat.ble t 79 with | true => (match Nat.ble t 39 with | true => (match Nat.ble t 19 with | true => (match Nat.ble t 9 with | true => (match Nat.ble t 4 with | true => (match Nat.ble t 1 with | true => (match Nat.ble t 0 with | true => .plain | false => .func) | false => (match Nat.ble t 2 with | true => .int .i64 | false => (match Nat.ble t 3 with | true => .int .i64 | false => .bool))) | false => (match Nat.ble t 6 with | true => (match Nat.ble t 5 with | true => .int .u8 | false => .int .u8) | false => (match Nat.ble t 7 with | true => .struct [(0, 2), (1, 3), (2, 4), (3, 6)] | false => (match Nat.ble t 8 with | true => .struct [(0, 2), (1, 3), (2, 4), (3, 6)] | false => .str)))) | false => (match Nat.ble t 14 with | true => (match Nat.ble t 11 with | true => (match Nat.ble t 10 with | true => .str | false => .str) | false => (match Nat.ble t 12 with | true => .int .u64 | false => (match Nat.ble t 13 with | true => .struct [(0, 9), (1, 12)] | false => .struct [(0, 9), (1, 12)]))) | false => (match Nat.ble t 16 with | true => (match Nat.ble t 15 with | true => .ptr 67 | false => .ptr 70) | false => (match Nat.ble t 17 with | true => .ptr 78 | false => (match Nat.ble t 18 with | true => .struct [(0, 17)] | false => .struct [(0, 17)]))))) | false => (match Nat.ble t 29 with | true => (match Nat.ble t 24 with | true => (match Nat.ble t 21 with | true => (match Nat.ble t 20 with | true => .iface | false => .int .i32) | false => (match Nat.ble t 22 with | true => .slice 5 | false => (match Nat.ble t 23 with | true => .int .u32 | false => .func))) | false => (match Nat.ble t 26 with | true => (match Nat.ble t 25 with | true => .func | false => .func) | false => (match Nat.ble t 27 with | true => .func | false => (match Nat.ble t 28 with | true => .func | false => .int .u64)))) | false => (match Nat.ble t 34 with | true => (match Nat.ble t 31 with | true => (match Nat.ble t 30 with | true => .func | false => .func) | false => (match Nat.ble t 32 with | true => .func | false => (match Nat.ble t 33 with | true => .func | false => .array 32 5))) | false => (match Nat.ble t 36 with | true => (match Nat.ble t 35 with | true => .func | false => .func) | false => (match Nat.ble t 37 with | true => .slice 43 | false => (match Nat.ble t 38 with | true => .ptr 58 | false => .array 3 38)))))) | false => (match Nat.ble t 59 with | true => (match Nat.ble t 49 with | true => (match Nat.ble t 44 with | true => (match Nat.ble t 41 with | true => (match Nat.ble t 40 with | true => .array 3 22 | false => .func) | false => (match Nat.ble t 42 with | true => .struct [(0, 3), (1, 3), (2, 3), (3, 22)] | false => (match Nat.ble t 43 with | true => .struct [(0, 3), (1, 3), (2, 3), (3, 22)] | false => .func))) | false => (match Nat.ble t 46 with | true => (match Nat.ble t 45 with | true => .func | false => .func) | false => (match Nat.ble t 47 with | true => .func | false => (match Nat.ble t 48 with | true => .func | false => .array 32 23)))) | false => (match Nat.ble t 54 with | true => (match Nat.ble t 51 with | true => (match Nat.ble t 50 with | true => .array 32 23 | false => .int .u64) | false => (match Nat.ble t 52 with | true => .func | false => (match Nat.ble t 53 with | true => .func | false => .array 8 23))) | false => (match Nat.ble t 56 with | true => (match Nat.ble t 55 with | true => .func | false => .func) | false => (match Nat.ble t 57 with | true => .struct [(0, 54), (8, 22), (9, 3)] | false => (match Nat.ble t 58 with | true => .struct [(0, 54), (8, 22), (9, 3)] | false => .array 16 23))))) | false => (match Nat.ble t 69 with | true => (match Nat.ble t 64 with | true => (match Nat.ble t 61 with | true => (match Nat.ble t 60 with | true => .ptr 50 | false => .array 64 23) | false => (match Nat.ble t 62 with | true => .func | false => (match Nat.ble t 63 with | true => .func | false => .func))) | false => (match Nat.ble t 66 with | true => (match Nat.ble t 65 with | true => .func | false => .struct [(0, 17), (1, 17), (2, 17), (3, 9)]) | false => (match Nat.ble t 67 with | true => .struct [(0, 17), (1, 17), (2, 17), (3, 9)] | false => (match Nat.ble t 68 with | true => .array 0 16 | false => .struct [(0, 68)])))) | false => (match Nat.ble t 74 with | true => (match Nat.ble t 71 with | true => (match Nat.ble t 70 with | true => .struct [(0, 68)] | false => .int .u8) | false => (match Nat.ble t 72 with | true => .int .u8 | false => (match Nat.ble t 73 with | true => .func | false => .ptr 5))) | false => (match Nat.ble t 76 with | true => (match Nat.ble t 75 with | true => .int .i32 | false => .int .i32) | false => (match Nat.ble t 77 with | true => .struct [(0, 12), (1, 12), (2, 23), (3, 71), (4, 5), (5, 5), (6, 72), (7, 73), (8, 74), (9, 75), (10, 76)] | false => (match Nat.ble t 78 with | true => .struct [(0, 12), (1, 12), (2, 23), (3, 71), (4, 5), (5, 5), (6, 72), (7, 73), (8, 74), (9, 75), (10, 76)] | false => .plain))))))) | false => .other
def tabSize (t : TypeId) : Nat := match Nat.ble t 79 with | true => (match Nat.ble t 39 with | true => (match Nat.ble t 19 with | true => (match Nat.ble t 9 with | true => (match Nat.ble t 4 with | true => (match Nat.ble t 1 with | true => (match Nat.ble t 0 with | true => 1 | false => 1) | false => (match Nat.ble t 2 with | true => 1 | false => (match Nat.ble t 3 with | true => 1 | false => 1))) | false => (match Nat.ble t 6 with | true => (match Nat.ble t 5 with | true => 1 | false => 1) | false => (match Nat.ble t 7 with | true => 4 | false => (match Nat.ble t 8 with | true => 4 | false => 1)))) | false => (match Nat.ble t 14 with | true => (match Nat.ble t 11 with | true => (match Nat.ble t 10 with | true => 1 | false => 1) | false => (match Nat.ble t 12 with | true => 1 | false => (match Nat.ble t 13 with | true => 2 | false => 2))) | false => (match Nat.ble t 16 with | true => (match Nat.ble t 15 with | true => 1 | false => 1) | false => (match Nat.ble t 17 with | true => 1 | false => (match Nat.ble t 18 with | true => 1 | false => 1))))) | false => (match Nat.ble t 29 with | true => (match Nat.ble t 24 with | true => (match Nat.ble t 21 with | true => (match Nat.ble t 20 with | true => 1 | false => 1) | false => (match Nat.ble t 22 with | true => 1 | false => (match Nat.ble t 23 with | true => 1 | false => 1))) | false => (match Nat.ble t 26 with | true => (match Nat.ble t 25 with | true => 1 | false => 1) | false => (match Nat.ble t 27 with | true => 1 | false => (match Nat.ble t 28 with | true => 1 | false => 1)))) | false => (match Nat.ble t 34 with | true => (match Nat.ble t 31 with | true => (match Nat.ble t 30 with | true => 1 | false => 1) | false => (match Nat.ble t 32 with | true => 1 | false => (match Nat.ble t 33 with | true => 1 | false => 32))) | false => (match Nat.ble t 36 with | true => (match Nat.ble t 35 with | true => 1 | false => 1) | false => (match Nat.ble t 37 with | true => 1 | false => (match Nat.ble t 38 with | true => 1 | false => 3)))))) | false => (match Nat.ble t 59 with | true => (match Nat.ble t 49 with | true => (match Nat.ble t 44 with | true => (match Nat.ble t 41 with | true => (match Nat.ble t 40 with | true => 3 | false => 1) | false => (match Nat.ble t 42 with | true => 4 | false => (match Nat.ble t 43 with | true => 4 | false => 1))) | false => (match Nat.ble t 46 with | true => (match Nat.ble t 45 with | true => 1 | false => 1) | false => (match Nat.ble t 47 with | true => 1 | false => (match Nat.ble t 48 with | true => 1 | false => 32)))) | false => (match Nat.ble t 54 with | true => (match Nat.ble t 51 with | true => (match Nat.ble t 50 with | true => 32 | false => 1) | false => (match Nat.ble t 52 with | true => 1 | false => (match Nat.ble t 53 with | true => 1 | false => 8))) | false => (match Nat.ble t 56 with | true => (match Nat.ble t 55 with | true => 1 | false => 1) | false => (match Nat.ble t 57 with | true => 10 | false => (match Nat.ble t 58 with | true => 10 | false => 16))))) | false => (match Nat.ble t 69 with | true => (match Nat.ble t 64 with | true => (match Nat.ble t 61 with | true => (match Nat.ble t 60 with | true => 1 | false => 64) | false => (match Nat.ble t 62 with | true => 1 | false => (match Nat.ble t 63 with | true => 1 | false => 1))) | false => (match Nat.ble t 66 with | true => (match Nat.ble t 65 with | true => 1 | false => 4) | false => (match Nat.ble t 67 with | true => 4 | false => (match Nat.ble t 68 with | true => 0 | false => 0)))) | false => (match Nat.ble t 74 with | true => (match Nat.ble t 71 with | true => (match Nat.ble t 70 with | true => 0 | false => 1) | false => (match Nat.ble t 72 with | true => 1 | false => (match Nat.ble t 73 with | true => 1 | false => 1))) | false => (match Nat.ble t 76 with | true => (match Nat.ble t 75 with | true => 1 | false => 1) | false => (match Nat.ble t 77 with | true => 11 | false => (match Nat.ble t 78 with | true => 11 | false => 1))))))) | false => 0
def tabZero (t : TypeId) : List SV := match Nat.ble t 79 with | true => (match Nat.ble t 39 with | true => (match Nat.ble t 19 with | true => (match Nat.ble t 9 with | true => (match Nat.ble t 4 with | true => (match Nat.ble t 1 with | true => (match Nat.ble t 0 with | true => [] | false => [.val .nilFunc]) | false => (match Nat.ble t 2 with | true => [.int .i64 (0)] | false => (match Nat.ble t 3 with | true => [.int .i64 (0)] | false => [.bool false]))) | false => (match Nat.ble t 6 with | true => (match Nat.ble t 5 with | true => [.int .u8 (0)] | false => [.int .u8 (0)]) | false => (match Nat.ble t 7 with | true => [.int .i64 (0), .int .i64 (0), .bool false, .int .u8 (0)] | false => (match Nat.ble t 8 with | true => [.int .i64 (0), .int .i64 (0), .bool false, .int .u8 (0)] | false => [.str []])))) | false => (match Nat.ble t 14 with | true => (match Nat.ble t 11 with | true => (match Nat.ble t 10 with | true => [.str []] | false => [.str []]) | false => (match Nat.ble t 12 with | true => [.int .u64 (0)] | false => (match Nat.ble t 13 with | true => [.str [], .int .u64 (0)] | false => [.str [], .int .u64 (0)]))) | false => (match Nat.ble t 16 with | true => (match Nat.ble t 15 with | true => [.val (.pointer none)] | false => [.val (.pointer none)]) | false => (match Nat.ble t 17 with | true => [.val (.pointer none)] | false => (match Nat.ble t 18 with | true => [.val (.pointer none)] | false => [.val (.pointer none)]))))) | false => (match Nat.ble t 29 with | true => (match Nat.ble t 24 with | true => (match Nat.ble t 21 with | true => (match Nat.ble t 20 with | true => [.val .nilIface] | false => [.int .i32 (0)]) | false => (match Nat.ble t 22 with | true => [.val (.slice none 0 0)] | false => (match Nat.ble t 23 with | true => [.int .u32 (0)] | false => [.val .nilFunc]))) | false => (match Nat.ble t 26 with | true => (match Nat.ble t 25 with | true => [.val .nilFunc] | false => [.val .nilFunc]) | false => (match Nat.ble t 27 with | true => [.val .nilFunc] | false => (match Nat.ble t 28 with | true => [.val .nilFunc] | false => [.int .u64 (0)])))) | false => (match Nat.ble t 34 with | true => (match Nat.ble t 31 with | true => (match Nat.ble t 30 with | true => [.val .nilFunc] | false => [.val .nilFunc]) | false => (match Nat.ble t 32 with | true => [.val .nilFunc] | false => (match Nat.ble t 33 with | true => [.val .nilFunc] | false => [.int .u8 (0), .int .u8 (0), .int .u8 (0), .int .u8 (0), .int .u8 (0), .int .u8 (0), .int .u8 (0), .int .u8 (0), .int .u8 (0), .int .u8 (0), .int .u8 (0), .int .u8 (0), .int .u8 (0), .int .u8 (0), .int .u8 (0), .int .u8 (0), .int .u8 (0), .int .u8 (0), .int .u8 (0), .int .u8 (0), .int .u8 (0), .int .u8 (0), .int .u8 (0), .int .u8 (0), .int .u8 (0), .int .u8 (0), .int .u8 (0), .int .u8 (0), .int .u8 (0), .int .u8 (0), .int .u8 (0), .int .u8 (0)]))) | false => (match Nat.ble t 36 with | true => (match Nat.ble t 35 with | true => [.val .nilFunc] | false => [.val .nilFunc]) | false => (match Nat.ble t 37 with | true => [.val (.slice none 0 0)] | false => (match Nat.ble t 38 with | true => [.val (.pointer none)] | false => [.val (.pointer none), .val (.pointer none), .val (.pointer none)])))))) | false => (match Nat.ble t 59 with | true => (match Nat.ble t 49 with | true => (match Nat.ble t 44 with | true => (match Nat.ble t 41 with | true => (match Nat.ble t 40 with | true => [.val (.slice none 0 0), .val (.slice none 0 0), .val (.slice none 0 0)] | false => [.val .nilFunc]) | false => (match Nat.ble t 42 with | true => [.int .i64 (0), .int .i64 (0), .int .i64 (0), .val (.slice none 0 0)] | false => (match Nat.ble t 43 with | true => [.int .i64 (0), .int .i64 (0), .int .i64 (0), .val (.slice none 0 0)] | false => [.val .nilFunc]))) | false => (match Nat.ble t 46 with | true => (match Nat.ble t 45 with | true => [.val .nilFunc] | false => [.val .nilFunc]) | false => (match Nat.ble t 47 with | true => [.val .nilFunc] | false => (match Nat.ble t 48 with | true => [.val .nilFunc] | false => [.int .u32 (0), .int .u32 (0), .int .u32 (0), .int .u32 (0), .int .u32 (0), .int .u32 (0), .int .u32 (0), .int .u32 (0), .int .u32 (0), .int .u32 (0), .int .u32 (0), .int .u32 (0), .int .u32 (0), .int .u32 (0), .int .u32 (0), .int .u32 (0), .int .u32 (0), .int .u32 (0), .int .u32 (0), .int .u32 (0), .int .u32 (0), .int .u32 (0), .int .u32 (0), .int .u32 (0), .int .u32 (0), .int .u32 (0), .int .u32 (0), .int .u32 (0), .int .u32 (0), .int .u32 (0), .int .u32 (0), .int .u32 (0)])))) | false => (match Nat.ble t 54 with | true => (match Nat.ble t 51 with | true => (match Nat.ble t 50 with | true => [.int .u32 (0), .int .u32 (0), .int .u32 (0), .int .u32 (0), .int .u32 (0), .int .u32 (0), .int .u32 (0), .int .u32 (0), .int .u32 (0), .int .u32 (0), .int .u32 (0), .int .u32 (0), .int .u32 (0), .int .u32 (0), .int .u32 (0), .int .u32 (0), .int .u32 (0), .int .u32 (0), .int .u32 (0), .int .u32 (0), .int .u32 (0), .int .u32 (0), .int .u32 (0), .int .u32 (0), .int .u32 (0), .int .u32 (0), .int .u32 (0), .int .u32 (0), .int .u32 (0), .int .u32 (0), .int .u32 (0), .int .u32 (0)] | false => [.int .u64 (0)]) | false => (match Nat.ble t 52 with | true => [.val .nilFunc] | false => (match Nat.ble t 53 with | true => [.val .nilFunc] | false => [.int .u32 (0), .int .u32 (0), .int .u32 (0), .int .u32 (0), .int .u32 (0), .int .u32 (0), .int .u32 (0), .int .u32 (0)]))) | false => (match Nat.ble t 56 with | true => (match Nat.ble t 55 with | true => [.val .nilFunc] | false => [.val .nilFunc]) | false => (match Nat.ble t 57 with | true => [.int .u32 (0), .int .u32 (0), .int .u32 (0), .int .u32 (0), .int .u32 (0), .int .u32 (0), .int .u32 (0), .int .u32 (0), .val (.slice none 0 0), .int .i64 (0)] | false => (match Nat.ble t 58 with | true => [.int .u32 (0), .int .u32 (0), .int .u32 (0), .int .u32 (0), .int .u32 (0), .int .u32 (0), .int .u32 (0), .int .u32 (0), .val (.slice none 0 0), .int .i64 (0)] | false => [.int .u32 (0), .int .u32 (0), .int .u32 (0), .int .u32 (0), .int .u32 (0), .int .u32 (0), .int .u32 (0), .int .u32 (0), .int .u32 (0), .int .u32 (0), .int .u32 (0), .int .u32 (0), .int .u32 (0), .int .u32 (0), .int .u32 (0), .int .u32 (0)]))))) | false => (match Nat.ble t 69 with | true => (match Nat.ble t 64 with | true => (match Nat.ble t 61 with | true => (match Nat.ble t 60 with | true => [.val (.pointer none)] | false => [.int .u32 (0), .int .u32 (0), .int .u32 (0), .int .u32 (0), .int .u32 (0), .int .u32 (0), .int .u32 (0), .int .u32 (0), .int .u32 (0), .int .u32 (0), .int .u32 (0), .int .u32 (0), .int .u32 (0), .int .u32 (0), .int .u32 (0), .int .u32 (0), .int .u32 (0), .int .u32 (0), .int .u32 (0), .int .u32 (0), .int .u32 (0), .int .u32 (0), .int .u32 (0), .int .u32 (0), .int .u32 (0), .int .u32 (0), .int .u32 (0), .int .u32 (0), .int .u32 (0), .int .u32 (0), .int .u32 (0), .int .u32 (0), .int .u32 (0), .int .u32 (0), .int .u32 (0), .int .u32 (0), .int .u32 (0), .int .u32 (0), .int .u32 (0), .int .u32 (0), .int .u32 (0), .int .u32 (0), .int .u32 (0), .int .u32 (0), .int .u32 (0), .int .u32 (0), .int .u32 (0), .int .u32 (0), .int .u32 (0), .int .u32 (0), .int .u32 (0), .int .u32 (0), .int .u32 (0), .int .u32 (0), .int .u32 (0), .int .u32 (0), .int .u32 (0), .int .u32 (0), .int .u32 (0), .int .u32 (0), .int .u32 (0), .int .u32 (0), .int .u32 (0), .int .u32 (0)]) | false => (match Nat.ble t 62 with | true => [.val .nilFunc] | false => (match Nat.ble t 63 with | true => [.val .nilFunc] | false => [.val .nilFunc]))) | false => (match Nat.ble t 66 with | true => (match Nat.ble t 65 with | true => [.val .nilFunc] | false => [.val (.pointer none), .val (.pointer none), .val (.pointer none), .str []]) | false => (match Nat.ble t 67 with | true => [.val (.pointer none), .val (.pointer none), .val (.pointer none), .str []] | false => (match Nat.ble t 68 with | true => [] | false => [])))) | false => (match Nat.ble t 74 with | true => (match Nat.ble t 71 with | true => (match Nat.ble t 70 with | true => [] | false => [.int .u8 (0)]) | false => (match Nat.ble t 72 with | true => [.int .u8 (0)] | false => (match Nat.ble t 73 with | true => [.val .nilFunc] | false => [.val (.pointer none)]))) | false => (match Nat.ble t 76 with | true => (match Nat.ble t 75 with | true => [.int .i32 (0)] | false => [.int .i32 (0)]) | false => (match Nat.ble t 77 with | true => [.int .u64 (0), .int .u64 (0), .int .u32 (0), .int .u8 (0), .int .u8 (0), .int .u8 (0), .int .u8 (0), .val .nilFunc, .val (.pointer none), .int .i32 (0), .int .i32 (0)] | false => (match Nat.ble t 78 with | true => [.int .u64 (0), .int .u64 (0), .int .u32 (0), .int .u8 (0), .int .u8 (0), .int .u8 (0), .int .u8 (0), .val .nilFunc, .val (.pointer none), .int .i32 (0), .int .i32 (0)] | false => [.val (.pointer none)]))))))) | false => []
def tabBytes (t : TypeId) : Nat := match Nat.ble t 79 with | true => (match Nat.ble t 39 with | true => (match Nat.ble t 19 with | true => (match Nat.ble t 9 with | true => (match Nat.ble t 4 with | true => (match Nat.ble t 1 with | true => (match Nat.ble t 0 with | true => 0 | false => 8) | false => (match Nat.ble t 2 with | true => 8 | false => (match Nat.ble t 3 with | true => 8 | false => 1))) | false => (match Nat.ble t 6 with | true => (match Nat.ble t 5 with | true => 1 | false => 1) | false => (match Nat.ble t 7 with | true => 24 | false => (match Nat.ble t 8 with | true => 24 | false => 16)))) | false => (match Nat.ble t 14 with | true => (match Nat.ble t 11 with | true => (match Nat.ble t 10 with | true => 16 | false => 16) | false => (match Nat.ble t 12 with | true => 8 | false => (match Nat.ble t 13 with | true => 24 | false => 24))) | false => (match Nat.ble t 16 with | true => (match Nat.ble t 15 with | true => 8 | false => 8) | false => (match Nat.ble t 17 with | true => 8 | false => (match Nat.ble t 18 with | true => 8 | false => 8))))) | false => (match Nat.ble t 29 with | true => (match Nat.ble t 24 with | true => (match Nat.ble t 21 with | true => (match Nat.ble t 20 with | true => 16 | false => 4) | false => (match Nat.ble t 22 with | true => 24 | false => (match Nat.ble t 23 with | true => 4 | false => 8))) | false => (match Nat.ble t 26 with | true => (match Nat.ble t 25 with | true => 8 | false => 8) | false => (match Nat.ble t 27 with | true => 8 | false => (match Nat.ble t 28 with | true => 8 | false => 8)))) | false => (match Nat.ble t 34 with | true => (match Nat.ble t 31 with | true => (match Nat.ble t 30 with | true => 8 | false => 8) | false => (match Nat.ble t 32 with | true => 8 | false => (match Nat.ble t 33 with | true => 8 | false => 32))) | false => (match Nat.ble t 36 with | true => (match Nat.ble t 35 with | true => 8 | false => 8) | false => (match Nat.ble t 37 with | true => 24 | false => (match Nat.ble t 38 with | true => 8 | false => 24)))))) | false => (match Nat.ble t 59 with | true => (match Nat.ble t 49 with | true => (match Nat.ble t 44 with | true => (match Nat.ble t 41 with | true => (match Nat.ble t 40 with | true => 72 | false => 8) | false => (match Nat.ble t 42 with | true => 48 | false => (match Nat.ble t 43 with | true => 48 | false => 8))) | false => (match Nat.ble t 46 with | true => (match Nat.ble t 45 with | true => 8 | false => 8) | false => (match Nat.ble t 47 with | true => 8 | false => (match Nat.ble t 48 with | true => 8 | false => 128)))) | false => (match Nat.ble t 54 with | true => (match Nat.ble t 51 with | true => (match Nat.ble t 50 with | true => 128 | false => 8) | false => (match Nat.ble t 52 with | true => 8 | false => (match Nat.ble t 53 with | true => 8 | false => 32))) | false => (match Nat.ble t 56 with | true => (match Nat.ble t 55 with | true => 8 | false => 8) | false => (match Nat.ble t 57 with | true => 64 | false => (match Nat.ble t 58 with | true => 64 | false => 64))))) | false => (match Nat.ble t 69 with | true => (match Nat.ble t 64 with | true => (match Nat.ble t 61 with | true => (match Nat.ble t 60 with | true => 8 | false => 256) | false => (match Nat.ble t 62 with | true => 8 | false => (match Nat.ble t 63 with | true => 8 | false => 8))) | false => (match Nat.ble t 66 with | true => (match Nat.ble t 65 with | true => 8 | false => 40) | false => (match Nat.ble t 67 with | true => 40 | false => (match Nat.ble t 68 with | true => 0 | false => 0)))) | false => (match Nat.ble t 74 with | true => (match Nat.ble t 71 with | true => (match Nat.ble t 70 with | true => 0 | false => 1) | false => (match Nat.ble t 72 with | true => 1 | false => (match Nat.ble t 73 with | true => 8 | false => 8))) | false => (match Nat.ble t 76 with | true => (match Nat.ble t 75 with | true => 4 | false => 4) | false => (match Nat.ble t 77 with | true => 48 | false => (match Nat.ble t 78 with | true => 48 | false => 8))))))) | false => 0
def tabFlat (t : TypeId) : Option (List CK) := match Nat.ble t 79 with | true => (match Nat.ble t 39 with | true => (match Nat.ble t 19 with | true => (match Nat.ble t 9 with | true => (match Nat.ble t 4 with | true => (match Nat.ble t 1 with | true => (match Nat.ble t 0 with | true => none | false => none) | false => (match Nat.ble t 2 with | true => none | false => (match Nat.ble t 3 with | true => none | false => none))) | false => (match Nat.ble t 6 with | true => (match Nat.ble t 5 with | true => none | false => none) | false => (match Nat.ble t 7 with | true => none | false => (match Nat.ble t 8 with | true => none | false => none)))) | false => (match Nat.ble t 14 with | true => (match Nat.ble t 11 with | true => (match Nat.ble t 10 with | true => none | false => none) | false => (match Nat.ble t 12 with | true => none | false => (match Nat.ble t 13 with | true => none | false => none))) | false => (match Nat.ble t 16 with | true => (match Nat.ble t 15 with | true => none | false => none) | false => (match Nat.ble t 17 with | true => none | false => (match Nat.ble t 18 with | true => none | false => none))))) | false => (match Nat.ble t 29 with | true => (match Nat.ble t 24 with | true => (match Nat.ble t 21 with | true => (match Nat.ble t 20 with | true => none | false => none) | false => (match Nat.ble t 22 with | true => none | false => (match Nat.ble t 23 with | true => none | false => none))) | false => (match Nat.ble t 26 with | true => (match Nat.ble t 25 with | true => none | false => none) | false => (match Nat.ble t 27 with | true => none | false => (match Nat.ble t 28 with | true => none | false => none)))) | false => (match Nat.ble t 34 with | true => (match Nat.ble t 31 with | true => (match Nat.ble t 30 with | true => none | false => none) | false => (match Nat.ble t 32 with | true => none | false => (match Nat.ble t 33 with | true => none | false => some [.int .u8, .int .u8, .int .u8, .int .u8, .int .u8, .int .u8, .int .u8, .int .u8, .int .u8, .int .u8, .int .u8, .int .u8, .int .u8, .int .u8, .int .u8, .int .u8, .int .u8, .int .u8, .int .u8, .int .u8, .int .u8, .int .u8, .int .u8, .int .u8, .int .u8, .int .u8, .int .u8, .int .u8, .int .u8, .int .u8, .int .u8, .int .u8]))) | false => (match Nat.ble t 36 with | true => (match Nat.ble t 35 with | true => none | false => none) | false => (match Nat.ble t 37 with | true => none | false => (match Nat.ble t 38 with | true => none | false => none)))))) | false => (match Nat.ble t 59 with | true => (match Nat.ble t 49 with | true => (match Nat.ble t 44 with | true => (match Nat.ble t 41 with | true => (match Nat.ble t 40 with | true => none | false => none) | false => (match Nat.ble t 42 with | true => none | false => (match Nat.ble t 43 with | true => none | false => none))) | false => (match Nat.ble t 46 with | true => (match Nat.ble t 45 with | true => none | false => none) | false => (match Nat.ble t 47 with | true => none | false => (match Nat.ble t 48 with | true => none | false => some [.int .u32, .int .u32, .int .u32, .int .u32, .int .u32, .int .u32, .int .u32, .int .u32, .int .u32, .int .u32, .int .u32, .int .u32, .int .u32, .int .u32, .int .u32, .int .u32, .int .u32, .int .u32, .int .u32, .int .u32, .int .u32, .int .u32, .int .u32, .int .u32, .int .u32, .int .u32, .int .u32, .int .u32, .int .u32, .int .u32, .int .u32, .int .u32])))) | false => (match Nat.ble t 54 with | true => (match Nat.ble t 51 with | true => (match Nat.ble t 50 with | true => some [.int .u32, .int .u32, .int .u32, .int .u32, .int .u32, .int .u32, .int .u32, .int .u32, .int .u32, .int .u32, .int .u32, .int .u32, .int .u32, .int .u32, .int .u32, .int .u32, .int .u32, .int .u32, .int .u32, .int .u32, .int .u32, .int .u32, .int .u32, .int .u32, .int .u32, .int .u32, .int .u32, .int .u32, .int .u32, .int .u32, .int .u32, .int .u32] | false => none) | false => (match Nat.ble t 52 with | true => none | false => (match Nat.ble t 53 with | true => none | false => some [.int .u32, .int .u32, .int .u32, .int .u32, .int .u32, .int .u32, .int .u32, .int .u32]))) | false => (match Nat.ble t 56 with | true => (match Nat.ble t 55 with | true => none | false => none) | false => (match Nat.ble t 57 with | true => none | false => (match Nat.ble t 58 with | true => none | false => some [.int .u32, .int .u32, .int .u32, .int .u32, .int .u32, .int .u32, .int .u32, .int .u32, .int .u32, .int .u32, .int .u32, .int .u32, .int .u32, .int .u32, .int .u32, .int .u32]))))) | false => (match Nat.ble t 69 with | true => (match Nat.ble t 64 with | true => (match Nat.ble t 61 with | true => (match Nat.ble t 60 with | true => none | false => some [.int .u32, .int .u32, .int .u32, .int .u32, .int .u32, .int .u32, .int .u32, .int .u32, .int .u32, .int .u32, .int .u32, .int .u32, .int .u32, .int .u32, .int .u32, .int .u32, .int .u32, .int .u32, .int .u32, .int .u32, .int .u32, .int .u32, .int .u32, .int .u32, .int .u32, .int .u32, .int .u32, .int .u32, .int .u32, .int .u32, .int .u32, .int .u32, .int .u32, .int .u32, .int .u32, .int .u32, .int .u32, .int .u32, .int .u32, .int .u32, .int .u32, .int .u32, .int .u32, .int .u32, .int .u32, .int .u32, .int .u32, .int .u32, .int .u32, .int .u32, .int .u32, .int .u32, .int .u32, .int .u32, .int .u32, .int .u32, .int .u32, .int .u32, .int .u32, .int .u32, .int .u32, .int .u32, .int .u32, .int .u32]) | false => (match Nat.ble t 62 with | true => none | false => (match Nat.ble t 63 with | true => none | false => none))) | false => (match Nat.ble t 66 with | true => (match Nat.ble t 65 with | true => none | false => none) | false => (match Nat.ble t 67 with | true => none | false => (match Nat.ble t 68 with | true => none | false => none)))) | false => (match Nat.ble t 74 with | true => (match Nat.ble t 71 with | true => (match Nat.ble t 70 with | true => none | false => none) | false => (match Nat.ble t 72 with | true => none | false => (match Nat.ble t 73 with | true => none | false => none))) | false => (match Nat.ble t 76 with | true => (match Nat.ble t 75 with | true => none | false => none) | false => (match Nat.ble t 77 with | true => none | false => (match Nat.ble t 78 with | true => none | false => none))))))) | false => none
def tabKey (t : TypeId) : Option (Bool × List CK) := match Nat.ble t 79 with | true => (match Nat.ble t 39 with | true => (match Nat.ble t 19 with | true => (match Nat.ble t 9 with | true => (match Nat.ble t 4 with | true => (match Nat.ble t 1 with | true => (match Nat.ble t 0 with | true => none | false => none) | false => (match Nat.ble t 2 with | true => none | false => (match Nat.ble t 3 with | true => none | false => none))) | false => (match Nat.ble t 6 with | true => (match Nat.ble t 5 with | true => none | false => none) | false => (match Nat.ble t 7 with | true => none | false => (match Nat.ble t 8 with | true => none | false => none)))) | false => (match Nat.ble t 14 with | true => (match Nat.ble t 11 with | true => (match Nat.ble t 10 with | true => none | false => none) | false => (match Nat.ble t 12 with | true => none | false => (match Nat.ble t 13 with | true => none | false => none))) | false => (match Nat.ble t 16 with | true => (match Nat.ble t 15 with | true => none | false => none) | false => (match Nat.ble t 17 with | true => none | false => (match Nat.ble t 18 with | true => none | false => none))))) | false => (match Nat.ble t 29 with | true => (match Nat.ble t 24 with | true => (match Nat.ble t 21 with | true => (match Nat.ble t 20 with | true => none | false => none) | false => (match Nat.ble t 22 with | true => none | false => (match Nat.ble t 23 with | true => none | false => none))) | false => (match Nat.ble t 26 with | true => (match Nat.ble t 25 with | true => none | false => none) | false => (match Nat.ble t 27 with | true => none | false => (match Nat.ble t 28 with | true => none | false => none)))) | false => (match Nat.ble t 34 with | true => (match Nat.ble t 31 with | true => (match Nat.ble t 30 with | true => none | false => none) | false => (match Nat.ble t 32 with | true => none | false => (match Nat.ble t 33 with | true => none | false => none))) | false => (match Nat.ble t 36 with | true => (match Nat.ble t 35 with | true => none | false => none) | false => (match Nat.ble t 37 with | true => none | false => (match Nat.ble t 38 with | true => none | false => none)))))) | false => (match Nat.ble t 59 with | true => (match Nat.ble t 49 with | true => (match Nat.ble t 44 with | true => (match Nat.ble t 41 with | true => (match Nat.ble t 40 with | true => none | false => none) | false => (match Nat.ble t 42 with | true => none | false => (match Nat.ble t 43 with | true => none | false => none))) | false => (match Nat.ble t 46 with | true => (match Nat.ble t 45 with | true => none | false => none) | false => (match Nat.ble t 47 with | true => none | false => (match Nat.ble t 48 with | true => none | false => none)))) | false => (match Nat.ble t 54 with | true => (match Nat.ble t 51 with | true => (match Nat.ble t 50 with | true => none | false => none) | false => (match Nat.ble t 52 with | true => none | false => (match Nat.ble t 53 with | true => none | false => none))) | false => (match Nat.ble t 56 with | true => (match Nat.ble t 55 with | true => none | false => none) | false => (match Nat.ble t 57 with | true => none | false => (match Nat.ble t 58 with | true => none | false => none))))) | false => (match Nat.ble t 69 with | true => (match Nat.ble t 64 with | true => (match Nat.ble t 61 with | true => (match Nat.ble t 60 with | true => none | false => none) | false => (match Nat.ble t 62 with | true => none | false => (match Nat.ble t 63 with | true => none | false => none))) | false => (match Nat.ble t 66 with | true => (match Nat.ble t 65 with | true => none | false => none) | false => (match Nat.ble t 67 with | true => none | false => (match Nat.ble t 68 with | true => none | false => none)))) | false => (match Nat.ble t 74 with | true => (match Nat.ble t 71 with | true => (match Nat.ble t 70 with | true => none | false => none) | false => (match Nat.ble t 72 with | true => none | false => (match Nat.ble t 73 with | true => none | false => none))) | false => (match Nat.ble t 76 with | true => (match Nat.ble t 75 with | true => none | false => none) | false => (match Nat.ble t 77 with | true => none | false => (match Nat.ble t 78 with | true => none | false => none))))))) | false => none
def startInts : List Int := [1779033703, 3144134277, 1013904242, 2773480762, 1359893119, 2600822924, 528734635, 1541459225]
def startCells : List SV := [.int .u32 1779033703, .int .u32 3144134277, .int .u32 1013904242, .int .u32 2773480762, .int .u32 1359893119, .int .u32 2600822924, .int .u32 528734635, .int .u32 1541459225]
def roundsInts : List Int := [1116352408, 1899447441, 3049323471, 3921009573, 961987163, 1508970993, 2453635748, 2870763221, 3624381080, 310598401, 607225278, 1426881987, 1925078388, 2162078206, 2614888103, 3248222580, 3835390401, 4022224774, 264347078, 604807628, 770255983, 1249150122, 1555081692, 1996064986, 2554220882, 2821834349, 2952996808, 3210313671, 3336571891, 3584528711, 113926993, 338241895, 666307205, 773529912, 1294757372, 1396182291, 1695183700, 1986661051, 2177026350, 2456956037, 2730485921, 2820302411, 3259730800, 3345764771, 3516065817, 3600352804, 4094571909, 275423344, 430227734, 506948616, 659060556, 883997877, 958139571, 1322822218, 1537002063, 1747873779, 1955562222, 2024104815, 2227730452, 2361852424, 2428436474, 2756734187, 3204031479, 3329325298]
def roundsRows : List (List SV) := roundsInts.map fun x => [.int .u32 x]
def tab : Tab := { sh := tabSh, size := tabSize, zero := tabZero, bytes := tabBytes, flat := tabFlat, key := tabKey, globs := [(0, .box startCells), (2, .rows 1 roundsRows)] }
theorem tabOK : TabOK Tryd.prog tab := by
  refine tabOK_of 80 (by kernel_rfl) (fun t ht => ?_)
  have h : Nat.ble t 79 = false := by
    cases e : Nat.ble t 79
    · rfl
    · have := Nat.le_of_ble_eq_true e; omega
  exact ⟨by simp only [tab, tabSh, h], by simp only [tab, tabZero, h], by simp only [tab, tabFlat, h], by simp only [tab, tabKey, h]⟩
theorem mixed : Tryd.prog.follows .mixedOrders = true := by kernel_rfl
end Go.Proofs.YtjgjfeicenkceaaDoor
/- What comes in, told to the engine; package variables; from a contract to a row's walk. Conditions: none. -/
set_option linter.unusedVariables false
set_option linter.unusedSimpArgs false
namespace Go.Sx
open Go
/-- A contract about what came in to be looked at, as a call. -/
theorem Does.callsS {P : Program} {T : Tab} {g : FuncId} {args : List SV} {r : SV} {vs : List Value} {w : World} {η0 : Env} {S : Hps} {k : Nat} (hk : η0.length = k) (sp : Does P T g k args [] S (ValK k r)) (eg : ∀ args w, (callFunc g args).run P w = .ok (.enter g args) w) (hd : DenL η0 args vs)
    (hs : ∀ p ∈ S, HpSat η0 w false (.loc p.1) p.2) (he : ∀ (i : Nat) (e : Ent), η0[i]? = some (some e) → e.g < w.heap.size)
    (hg : ∀ g h, lkp g T.globs = some h → HpSat [] w false (.glob g) h ∧ g < w.heap.size) :
    Calls P g ⟨vs⟩ w fun e w' => ∃ v η', e = .returned v ∧ Den η' r v ∧ FrW w w' fun _ => False := by
  have hmem : ∀ {S : Hps} {i : Nat} {h : Hp}, lkpB (.loc i) (shB S) = some h → (i, h) ∈ S := by
    intro S
    induction S with
    | nil => intro i h hh; simp [shB, lkpB] at hh
    | cons p S ih =>
      intro i h hh
      obtain ⟨j, h'⟩ := p
      simp only [shB, List.map_cons, lkpB, blkEq] at hh
      cases hb : Nat.beq i j with
      | true =>
        rw [hb] at hh
        have := beq_eq hb
        subst this
        injection hh with hh
        subst hh
        exact List.mem_cons_self ..
      | false =>
        rw [hb] at hh
        exact List.mem_cons_of_mem _ (ih hh)
  have hpl : ∀ g h, lkp g T.globs = some h → plainH h = true := by
    intro g h hh
    have := lkp_mem hh
    exact List.all_eq_true.1 T.gplain _ this
  have H : HeapOK ⟨P, ⟨T, 0, shB S⟩, w, fun _ => False, η0⟩ η0 w [] k := ⟨List.prefix_rfl, hk, ⟨fun i h hi => by simp [lkp] at hi, fun i j h h' n hi => by simp [lkp] at hi⟩, FrW.refl _ _, fun b h hb => by
    cases b with
    | loc i =>
      exact ⟨hs _ (hmem hb), fun n f => ⟨(hs _ (hmem hb)).feet_lt f, fun h => h⟩⟩
    | glob g =>
      obtain ⟨h1, h2⟩ := hg g h hb
      exact ⟨h1.plain (hpl g h hb), fun n f => ⟨(h1.plain (η' := η0) (hpl g h hb)).feet_lt f, fun h => h⟩⟩⟩
  have hF : (fun _ => False : Nat → Prop) = blocksOf η0 w [] := by
    funext n; simp [blocksOf, lkp]
  rcases sp.out ⟨P, ⟨T, 0, shB S⟩, w, fun _ => False, η0⟩ vs rfl rfl hF rfl H hd with ⟨g', h1, h2⟩ | ⟨v, w', h1, _⟩
  · rw [eg] at h1
    injection h1 with h1 _
    injection h1 with h1 _
    subst h1
    refine h2.mono fun e w' hee => ?_
    obtain ⟨v, rfl, r', O', nx', η', ⟨rfl, rfl, rfl⟩, _, h4, h5⟩ := hee
    exact ⟨v, η', rfl, h5, h4.fr⟩
  · rw [eg] at h1; cases h1
end Go.Sx
namespace Go.Our
open Go.RowKit Go.ChangeShapes Go.WideShapes Go.ChangeAt Go.Sx
section
variable {H : Type} {enc : TypeId × Value → H} {P : Program} {w : World}
/-- A slice that came in: what the engine may say of it. -/
def SliceIn (w : World) (v : Value) (es : Nat) (rs : List (List SV)) (en : Option Ent) : Prop :=
  (∀ x, en = some x → x.g < w.heap.size) ∧ ∀ (η : Env) (i : Nat), η[i]? = some en → Den η (.sl (.loc i) 0 es rs.length none) v ∧ HpSat η w false (.loc i) (.rows es rs)
theorem cell_of_cells {base : Nat} {a : Addr} {n : Nat} {cs : List Value} (h : w.cells? base a n = some cs) : cs.length = n ∧ ∀ j, j < n → w.cell? (a.add j) = cs[j]? := ⟨(World.cells?_some h).2.1, (World.cells?_some h).2.2⟩
theorem slice_in {α : Type} {t e : TypeId} {es : Nat} {v : Value} {d : DataW H} {p : List MemPlace} {r : Reach} {b0 : Nat} (cellsL : α → List Value) (dat : α → DataW H) (row : α → List SV) (hes : 0 < es)
    (hlen : ∀ a, (cellsL a).length = es ∧ (row a).length = es) (hrow : ∀ (η : Env) (a : α) (j : Nat) (sv : SV), (row a)[j]? = some sv → ∃ u, (cellsL a)[j]? = some u ∧ u.oneCell' = true ∧ Den η sv u)
    (ht : P.underlying t = some (.slice e)) (hc : P.cellsOf e = es) (el : ∀ fuel cs (x : DataW H × List MemPlace), DataW.trod enc P w 0 (fun _ => true) true fuel e cs = some x → ∃ a : α, cs = cellsL a ∧ x = (dat a, []))
    (ho : Value.okWide P w r b0 t v) (h : DataW.Trod enc P w 0 (fun _ => true) true t v d p) :
    ∃ (l : List α) (en : Option Ent), SliceIn w v es (l.map row) en ∧ ((l = [] ∧ d = .nil) ∨ ∃ z : List α, d = .slice (l.map dat) (z.map dat)) := by
  obtain ⟨fuel, hf⟩ := h
  obtain ⟨a0, l0, c0, rfl⟩ := okWide_slice ht ho
  have hcells : (Value.slice a0 l0 c0).cells.toList = [Value.slice a0 l0 c0] := rfl
  rw [hcells] at hf
  rcases DataW.trod_slice ht hf with ⟨hcs, hx⟩ | ⟨a, len, cap, elems, rest, n, _, hcs, hx, hb, hl, hm, hlen2, hel, hsp, hns⟩
  · injection hcs with hcs _
    injection hx with hx _
    injection hcs with h1 h2 h3
    subst h1 h2 h3 hx
    refine ⟨[], none, ⟨fun x hx => (by cases hx), fun η i hi => ?_⟩, .inl ⟨rfl, rfl⟩⟩
    refine ⟨?_, ?_⟩
    · unfold Den; exact .inl ⟨hi, rfl, rfl⟩
    · unfold HpSat; exact .inl ⟨hi, rfl⟩
  · injection hcs with hcs _
    injection hx with hx _
    injection hcs with h1 h2 h3
    subst h1 h2 h3
    simp only [Value.okWide, ht, Cell.okWide, Cell.ok] at ho
    obtain ⟨_, _, _, hspot, rw', cl, hsh, _⟩ := ho
    obtain ⟨ab, ao, asp⟩ := a
    simp only at hspot hsh
    subst hspot
    obtain ⟨arr, T, fz, hheap⟩ : ∃ arr T fz, w.heap[ab]? = some (.cells arr T fz) := by
      unfold World.shape? at hsh
      split at hsh
      · rename_i c e' f' hh; exact ⟨_, _, _, hh⟩
      · cases hsh
    -- each element
    have each : ∀ (i : Nat) y, (elems ++ rest)[i]? = some y → ∃ x : α, y = (dat x, []) ∧ ∀ j, j < es → w.cell? ⟨ab, ao + i * es + j, none⟩ = (cellsL x)[j]? := by
      intro i y hy
      have hb' : (w.cells? 0 ((⟨ab, ao, none⟩ : Addr).add (i * P.cellsOf e)) (P.cellsOf e)).bind (DataW.trod enc P w 0 (fun _ => true) true n e) = some y := by
        by_cases hi : i < l0
        · rw [hel i hi, ← hy, List.getElem?_append_left (by omega)]
        · obtain ⟨hrl, hr⟩ := hsp rfl
          have hlt := (List.getElem?_eq_some_iff.1 hy).1
          simp only [List.length_append] at hlt
          have := hr (i - l0) (by omega)
          rw [show l0 + (i - l0) = i by omega] at this
          rw [this, ← hy, List.getElem?_append_right (by omega), hlen2]
      obtain ⟨cs', hcs', hy'⟩ := Option.bind_eq_some_iff.1 hb'
      obtain ⟨x, rfl, rfl⟩ := el _ _ _ hy'
      refine ⟨x, rfl, fun j hj => ?_⟩
      rw [hc] at hcs'
      rw [← (cell_of_cells hcs').2 j hj]
      congr 1
      unfold Addr.add
      split <;> split <;> simp_all <;> omega
    have list : ∀ (ys : List (DataW H × List MemPlace)) (k : Nat), (∀ i y, ys[i]? = some y → (elems ++ rest)[k + i]? = some y) → ∃ xs : List α, ys.map (·.1) = xs.map dat ∧ xs.length = ys.length ∧ ∀ (i : Nat) x, xs[i]? = some x → ∀ j, j < es → w.cell? ⟨ab, ao + (k + i) * es + j, none⟩ = (cellsL x)[j]? := by
      intro ys
      induction ys with
      | nil => intro k _; exact ⟨[], rfl, rfl, fun i x hx => by simp at hx⟩
      | cons y ys ih =>
        intro k hk
        obtain ⟨x, hx1, hx2⟩ := each (k + 0) y (hk 0 y rfl)
        obtain ⟨xs, h1, h2, h3⟩ := ih (k + 1) fun i y' hy' => by rw [show k + 1 + i = k + (i + 1) by omega]; exact hk (i + 1) y' (by simpa using hy')
        refine ⟨x :: xs, by simp [h1, hx1], by simp [h2], fun i z hz j hj => ?_⟩
        cases i with
        | zero => simp at hz; subst hz; exact hx2 j hj
        | succ i => simp at hz; rw [show k + (i + 1) = k + 1 + i by omega]; exact h3 i z hz j hj
    obtain ⟨xs, h1, h2, h3⟩ := list elems 0 fun i y hy => by rw [Nat.zero_add, List.getElem?_append_left (List.getElem?_eq_some_iff.1 hy).1]; exact hy
    obtain ⟨zs, h4, _, _⟩ := list rest elems.length fun i y hy => by rw [List.getElem?_append_right (by omega)]; simpa using hy
    refine ⟨xs, some ⟨ab, ao, c0⟩, ⟨fun x hx => ?_, fun η i hi => ⟨?_, ?_⟩⟩, .inr ⟨zs, by rw [hx, h1, h4]⟩⟩
    · injection hx with hx; subst hx; exact (Array.getElem?_eq_some_iff.1 hheap).1
    · simp only [Den, Env.get]
      refine .inr ⟨⟨ab, ao, c0⟩, ao, hi, ?_, ?_, Nat.le_refl _, fun _ => by simp⟩
      · simp only [Option.getD_none, Nat.sub_zero, List.length_map, h2, hlen2]
      · simp only [Option.getD_none, List.length_map, h2, hlen2]; omega
    · simp only [HpSat, Env.get]
      refine .inr ⟨⟨ab, ao, c0⟩, arr, T, fz, hi, hheap, fun h => (by cases h), fun k rw1 hk => ?_⟩
      rw [List.getElem?_map] at hk
      obtain ⟨x, hx, rfl⟩ := Option.map_eq_some_iff.1 hk
      refine ⟨(hlen x).2, fun j sv hj => ?_⟩
      obtain ⟨u, hu1, hu2, hu3⟩ := hrow η x j sv hj
      have hj2 : j < es := by rw [← (hlen x).2]; exact (List.getElem?_eq_some_iff.1 hj).1
      have := h3 k x hx j hj2
      rw [Nat.zero_add, hu1] at this
      unfold World.cell? at this
      simp only [hheap] at this
      exact ⟨u, by simpa using this, hu2, hu3⟩
end
theorem SliceIn.den {α : Type} {W : World} {v : Value} {es : Nat} {l : List α} {row : α → List SV} {en : Option Ent} (h : SliceIn W v es (l.map row) en) {η : Env} {i : Nat} (hi : η[i]? = some en) : Den η (.sl (.loc i) 0 es l.length none) v := by
  have := (h.2 η i hi).1; rwa [List.length_map] at this
theorem SliceIn.sat {W : World} {v : Value} {es : Nat} {rs : List (List SV)} {en : Option Ent} (h : SliceIn W v es rs en) {η : Env} {i : Nat} (hi : η[i]? = some en) : HpSat η W false (.loc i) (.rows es rs) := (h.2 η i hi).2
end Go.Our
namespace Go.Proofs.YtjgjfeicenkceaaDoor
open Go.RowKit Go.Our Go.ChangeShapes Go.WideShapes Go.ChangeAt Go.Sx
/-- What the walk takes for granted of the package variables. -/
abbrev GlobOK (W : World) : Prop := ∀ g h, lkp g tab.globs = some h → HpSat [] W false (.glob g) h ∧ g < W.heap.size
/-- A law that answers true, whatever plain values come in. -/
theorem law_calls {g : FuncId} {args : List SV} {vs : List Value} {W : World} (sp : Does Tryd.prog tab g 0 args [] [] (Val (.bool true))) (eg : ∀ args w, (callFunc g args).run Tryd.prog w = .ok (.enter g args) w) (hd : DenL [] args vs) (hg : GlobOK W) :
    Calls Tryd.prog g ⟨vs⟩ W fun e W' => e = .returned (.bool true) ∧ Below W.heap.size W W' := by
  refine (sp.calls eg hd hg).mono fun e W' ⟨v, he, hv, hf⟩ => ?_
  simp only [Den] at hv
  subst hv
  exact ⟨he, hf.os, hf.tape, hf.output, hf.size, fun k hk => hf.block k hk fun h => h⟩
/-- A law that answers true, whatever came in. -/
theorem law_callsS {g : FuncId} {args : List SV} {vs : List Value} {W : World} {η0 : Env} {S : Hps} {k : Nat} (hk : η0.length = k) (sp : Does Tryd.prog tab g k args [] S (ValK k (.bool true))) (eg : ∀ args w, (callFunc g args).run Tryd.prog w = .ok (.enter g args) w) (hd : DenL η0 args vs)
    (hs : ∀ p ∈ S, HpSat η0 W false (.loc p.1) p.2) (he : ∀ (i : Nat) (e : Ent), η0[i]? = some (some e) → e.g < W.heap.size) (hg : GlobOK W) :
    Calls Tryd.prog g ⟨vs⟩ W fun e W' => e = .returned (.bool true) ∧ Below W.heap.size W W' := by
  refine (sp.callsS hk eg hd hs he hg).mono fun e W' ⟨v, η', he, hv, hf⟩ => ?_
  simp only [Den] at hv
  subst hv
  exact ⟨he, hf.os, hf.tape, hf.output, hf.size, fun k hk => hf.block k hk fun h => h⟩
theorem law_calls1 {g : FuncId} {args : List SV} {vs : List Value} {W : World} {v : Value} {es : Nat} {rs : List (List SV)} {en : Option Ent} (h : SliceIn W v es rs en) (sp : Does Tryd.prog tab g 1 args [] [(0, .rows es rs)] (ValK 1 (.bool true))) (eg : ∀ args w, (callFunc g args).run Tryd.prog w = .ok (.enter g args) w) (hd : DenL [en] args vs) (hg : GlobOK W) :
    Calls Tryd.prog g ⟨vs⟩ W fun e W' => e = .returned (.bool true) ∧ Below W.heap.size W W' := by
  refine law_callsS (η0 := [en]) rfl sp eg hd (fun p hp => ?_) (fun i e hi => ?_) hg
  · have hp := List.mem_singleton.1 hp
    subst hp; exact h.sat rfl
  · match i, hi with
    | 0, hi => injection hi with hi; exact h.1 e hi
theorem law_calls2 {g : FuncId} {args : List SV} {vs : List Value} {W : World} {v v' : Value} {es es' : Nat} {rs rs' : List (List SV)} {en en' : Option Ent} (h : SliceIn W v es rs en) (h' : SliceIn W v' es' rs' en') (sp : Does Tryd.prog tab g 2 args [] [(0, .rows es rs), (1, .rows es' rs')] (ValK 2 (.bool true))) (eg : ∀ args w, (callFunc g args).run Tryd.prog w = .ok (.enter g args) w) (hd : DenL [en, en'] args vs) (hg : GlobOK W) :
    Calls Tryd.prog g ⟨vs⟩ W fun e W' => e = .returned (.bool true) ∧ Below W.heap.size W W' := by
  refine law_callsS (η0 := [en, en']) rfl sp eg hd (fun p hp => ?_) (fun i e hi => ?_) hg
  · rcases List.mem_cons.1 hp with rfl | hp
    · exact h.sat rfl
    · have hp := List.mem_singleton.1 hp
      subst hp; exact h'.sat rfl
  · match i, hi with
    | 0, hi => injection hi with hi; exact h.1 e hi
    | 1, hi => injection hi with hi; exact h'.1 e hi
end Go.Proofs.YtjgjfeicenkceaaDoor
/- Slices of bytes that come in, told to the engine. Conditions: none. -/
set_option linter.unusedVariables false
set_option linter.unusedSimpArgs false
namespace Go.Our
open Go.RowKit Go.ChangeShapes Go.WideShapes Go.ChangeAt Go.Sx
section
variable {H : Type} {enc : TypeId × Value → H} {P : Program} {w : World}
def byteD (c : UInt8) : DataW H := .lit (.int .u8 (c.toNat : Int))
theorem byteRow_den (η : Env) (c : UInt8) (j : Nat) (sv : SV) (h : (Go.Sx.bytesRow c)[j]? = some sv) : ∃ u, ([Value.int .u8 (c.toNat : Int)] : List Value)[j]? = some u ∧ u.oneCell' = true ∧ Den η sv u := by
  cases j with
  | zero => injection h with h; subst h; exact ⟨_, rfl, rfl, by simp only [Den]⟩
  | succ j => simp [Go.Sx.bytesRow] at h
theorem read_byt {t e : TypeId} {v : Value} {d : DataW H} {p : List MemPlace} {r : Reach} {b0 : Nat} (ht : P.underlying t = some (.slice e)) (he : P.underlying e = some (.int .u8)) (hc : P.cellsOf e = 1) (ho : Value.okWide P w r b0 t v) (h : DataW.Trod enc P w 0 (fun _ => true) true t v d p) :
    ∃ (l : List UInt8) (en : Option Ent), SliceIn w v 1 (l.map Go.Sx.bytesRow) en ∧ ((l = [] ∧ d = .nil) ∨ ∃ z : List UInt8, d = .slice (l.map byteD) (z.map byteD)) :=
  slice_in (fun c => [Value.int .u8 (c.toNat : Int)]) byteD Go.Sx.bytesRow (by omega) (fun a => ⟨rfl, rfl⟩) byteRow_den ht hc (fun fuel cs x hx => by
    cases fuel with
    | zero => simp [DataW.trod] at hx
    | succ fuel =>
      obtain ⟨k, hk, hx, wk⟩ := DataW.trod_int he hx
      have hr : 0 ≤ k ∧ k < 256 := by
        simp only [Lit.wf, Bool.and_eq_true, decide_eq_true_eq] at wk
        have h1 : IntKind.u8.min = 0 := rfl
        have h2 : IntKind.u8.max = 255 := rfl
        rw [h1, h2] at wk
        omega
      refine ⟨UInt8.ofNat k.toNat, ?_, ?_⟩
      · rw [hk]; simp; omega
      · rw [hx]; simp [byteD]; omega) ho h
theorem byt_small {t e : TypeId} {l : List UInt8} {d : DataW H} (ht : P.underlying t = some (.slice e)) (hb : P.bytesOf e = 1) (hd : (l = [] ∧ d = .nil) ∨ ∃ z : List UInt8, d = .slice (l.map byteD) (z.map byteD)) (h : (d.weights P t).all (fun n => decide (n ≤ reachBytes)) = true) : l.length ≤ 140737488351232 := by
  rcases hd with ⟨rfl, rfl⟩ | ⟨z, rfl⟩
  · simp
  · simp only [DataW.weights, ht, hb, List.length_map, List.all_cons, List.all_append, Bool.and_eq_true, decide_eq_true_eq] at h
    obtain ⟨h1, _⟩ := h
    unfold reachBytes at h1
    omega
end
end Go.Our
/- What the package variables of the hash hold, by the row's own words. Conditions: none. -/
set_option linter.unusedVariables false
set_option linter.unusedSimpArgs false
namespace Go.Proofs.YtjgjfeicenkceaaDoor
open Go.RowKit Go.Our Go.ChangeShapes Go.WideShapes Go.ChangeAt Go.Sx
theorem cells_of_tab {W : World} {g n : Nat} {xs : List Int} (hn : 0 < n) (hc : ∀ i, i < n → W.cell? ⟨g, i, none⟩ = some (.int .u32 (xs.getD i 0))) : ∃ c T fz, W.heap[g]? = some (.cells c T fz) ∧ ∀ i, i < n → c[i]? = some (.int .u32 (xs.getD i 0)) := by
  have h0 := hc 0 hn
  unfold World.cell? at h0
  split at h0
  case h_2 => cases h0
  rename_i c T fz hh
  refine ⟨c, T, fz, hh, fun i hi => ?_⟩
  have := hc i hi
  unfold World.cell? at this
  simp only at this hh
  rw [hh] at this
  simpa using this
theorem globOf {W : World} {l : List (String × DataW Unit)} (hl1 : (l.filter fun x => x.2.handleName?.isNone).filter (fun x => x.1 == "tessera/sums.start") = [("tessera/sums.start", Lib.tabData .u32 startInts)])
    (hl2 : (l.filter fun x => x.2.handleName?.isNone).filter (fun x => x.1 == "tessera/sums.rounds") = [("tessera/sums.rounds", Lib.tabData .u32 roundsInts)]) (h : laidMetH Tryd.prog l W) : GlobOK W := by
  have h1 := laidMet.filter (fun x => x.1 == "tessera/sums.start") (laidMetH_iff.1 h).1
  have h2 := laidMet.filter (fun x => x.1 == "tessera/sums.rounds") (laidMetH_iff.1 h).1
  rw [hl1] at h1
  rw [hl2] at h2
  have hT1 : Lib.TabIs Tryd.prog W "tessera/sums.start" .u32 startInts :=
    Lib.tabIs_of_head (rest := []) (g := 0) (by kernel_rfl) (by kernel_rfl) Tryd.underlying54 Tryd.underlying23 (by kernel_rfl) (by kernel_rfl) h1
  have hT2 : Lib.TabIs Tryd.prog W "tessera/sums.rounds" .u32 roundsInts :=
    Lib.tabIs_of_head (rest := []) (g := 2) (by kernel_rfl) (by kernel_rfl) Tryd.underlying61 Tryd.underlying23 (by kernel_rfl) (by kernel_rfl) h2
  obtain ⟨c1, T1, f1, hh1, hc1⟩ := cells_of_tab (n := 8) (by omega) (fun i hi => hT1.cell (by kernel_rfl) i hi)
  obtain ⟨c2, T2, f2, hh2, hc2⟩ := cells_of_tab (n := 64) (by omega) (fun i hi => hT2.cell (by kernel_rfl) i hi)
  intro g h hg
  simp only [tab] at hg
  rw [lkp_cons] at hg
  split at hg
  · rename_i eg
    subst eg
    injection hg with hg
    subst hg
    refine ⟨?_, (Array.getElem?_eq_some_iff.1 hh1).1⟩
    simp only [HpSat]
    refine ⟨⟨0, 0, 0⟩, c1, T1, f1, rfl, hh1, fun h => (by cases h), fun j sv hj => ?_⟩
    have hj8 : j < 8 := (List.getElem?_eq_some_iff.1 hj).1
    refine ⟨_, by rw [Nat.zero_add]; exact hc1 j hj8, rfl, ?_⟩
    match j, hj8 with
    | 0, _ | 1, _ | 2, _ | 3, _ | 4, _ | 5, _ | 6, _ | 7, _ => injection hj with hj; subst hj; simp only [Den]; rfl
  · rw [lkp_cons] at hg
    split at hg
    case isFalse => simp [lkp] at hg
    rename_i eg
    subst eg
    injection hg with hg
    subst hg
    refine ⟨?_, (Array.getElem?_eq_some_iff.1 hh2).1⟩
    simp only [HpSat]
    refine .inr ⟨⟨2, 0, 0⟩, c2, T2, f2, rfl, hh2, fun h => (by cases h), fun i row hr => ?_⟩
    unfold roundsRows at hr
    rw [List.getElem?_map] at hr
    obtain ⟨x, hx, rfl⟩ := Option.map_eq_some_iff.1 hr
    have hi : i < 64 := (List.getElem?_eq_some_iff.1 hx).1
    refine ⟨rfl, fun j sv hj => ?_⟩
    cases j with
    | succ j => simp at hj
    | zero =>
      simp only [List.getElem?_cons_zero, Option.some.injEq] at hj
      subst hj
      refine ⟨_, by simp only [Nat.zero_add, Nat.mul_one, Nat.add_zero]; exact hc2 i hi, rfl, ?_⟩
      simp only [Den, List.getD, hx, Option.getD_some]
end Go.Proofs.YtjgjfeicenkceaaDoor
/- The document's hash in plain words: rounds, blocks, padding; pieces hang together. Conditions: none. -/
set_option linter.unusedVariables false
set_option linter.unusedSimpArgs false
namespace Go.Our
/-- A word as the walk has it. -/
def Uw (a : BitVec 32) : Int := (a.toNat : Int)
/-- A state of eight words. -/
structure S8 where
  a : BitVec 32
  b : BitVec 32
  c : BitVec 32
  d : BitVec 32
  e : BitVec 32
  f : BitVec 32
  g : BitVec 32
  h : BitVec 32
def rotr (x : BitVec 32) (n : Nat) : BitVec 32 := x >>> n ||| x <<< (32 - n)
/-- One round. -/
def rnd (k w : BitVec 32) (s : S8) : S8 :=
  let one := s.h + (rotr s.e 6 ^^^ rotr s.e 11 ^^^ rotr s.e 25) + ((s.e &&& s.f) ^^^ (~~~s.e &&& s.g)) + k + w
  let two := (rotr s.a 2 ^^^ rotr s.a 13 ^^^ rotr s.a 22) + ((s.a &&& s.b) ^^^ (s.a &&& s.c) ^^^ (s.b &&& s.c))
  ⟨one + two, s.a, s.b, s.c, s.d + one, s.e, s.f, s.g⟩
def keyL : List (BitVec 32) := [
  0x428a2f98#32, 0x71374491#32, 0xb5c0fbcf#32, 0xe9b5dba5#32, 0x3956c25b#32, 0x59f111f1#32, 0x923f82a4#32, 0xab1c5ed5#32,
  0xd807aa98#32, 0x12835b01#32, 0x243185be#32, 0x550c7dc3#32, 0x72be5d74#32, 0x80deb1fe#32, 0x9bdc06a7#32, 0xc19bf174#32,
  0xe49b69c1#32, 0xefbe4786#32, 0x0fc19dc6#32, 0x240ca1cc#32, 0x2de92c6f#32, 0x4a7484aa#32, 0x5cb0a9dc#32, 0x76f988da#32,
  0x983e5152#32, 0xa831c66d#32, 0xb00327c8#32, 0xbf597fc7#32, 0xc6e00bf3#32, 0xd5a79147#32, 0x06ca6351#32, 0x14292967#32,
  0x27b70a85#32, 0x2e1b2138#32, 0x4d2c6dfc#32, 0x53380d13#32, 0x650a7354#32, 0x766a0abb#32, 0x81c2c92e#32, 0x92722c85#32,
  0xa2bfe8a1#32, 0xa81a664b#32, 0xc24b8b70#32, 0xc76c51a3#32, 0xd192e819#32, 0xd6990624#32, 0xf40e3585#32, 0x106aa070#32,
  0x19a4c116#32, 0x1e376c08#32, 0x2748774c#32, 0x34b0bcb5#32, 0x391c0cb3#32, 0x4ed8aa4a#32, 0x5b9cca4f#32, 0x682e6ff3#32,
  0x748f82ee#32, 0x78a5636f#32, 0x84c87814#32, 0x8cc70208#32, 0x90befffa#32, 0xa4506ceb#32, 0xbef9a3f7#32, 0xc67178f2#32]
def start8 : S8 := ⟨0x6a09e667#32, 0xbb67ae85#32, 0x3c6ef372#32, 0xa54ff53a#32, 0x510e527f#32, 0x9b05688c#32, 0x1f83d9ab#32, 0x5be0cd19#32⟩
/-- A byte as a word. -/
def bw (b : List UInt8) (i : Nat) : BitVec 32 := BitVec.ofNat 32 (b.getD i 0).toNat
/-- The t-th word of a block: its first j bytes. -/
def pw (b : List UInt8) (t : Nat) : Nat → BitVec 32
  | 0 => 0
  | j + 1 => pw b t j <<< 8 ||| bw b (4 * t + j)
def W4 (b : List UInt8) (t : Nat) : BitVec 32 := bw b (4 * t) <<< 24 ||| bw b (4 * t + 1) <<< 16 ||| bw b (4 * t + 2) <<< 8 ||| bw b (4 * t + 3)
theorem pw4 (b : List UInt8) (t : Nat) : pw b t 4 = W4 b t := by
  simp only [pw, W4, BitVec.shiftLeft_or_distrib, ← BitVec.shiftLeft_add, Nat.add_zero]
  simp
def wordAt (b : List UInt8) (l : List (BitVec 32)) (t : Nat) : BitVec 32 :=
  if t < 16 then W4 b t else
    (rotr (l.getD (t - 2) 0) 17 ^^^ rotr (l.getD (t - 2) 0) 19 ^^^ l.getD (t - 2) 0 >>> 10) + l.getD (t - 7) 0 + (rotr (l.getD (t - 15) 0) 7 ^^^ rotr (l.getD (t - 15) 0) 18 ^^^ l.getD (t - 15) 0 >>> 3) + l.getD (t - 16) 0
/-- The first t words. -/
def sched (b : List UInt8) : Nat → List (BitVec 32)
  | 0 => []
  | t + 1 => sched b t ++ [wordAt b (sched b t) t]
theorem sched_len (b : List UInt8) (t : Nat) : (sched b t).length = t := by
  induction t with
  | zero => rfl
  | succ t ih => simp [sched, ih]
/-- As they stand in an array of 64. -/
def warr (b : List UInt8) (t : Nat) : List (BitVec 32) := sched b t ++ List.replicate (64 - t) 0
theorem warr_len (b : List UInt8) {t : Nat} (ht : t ≤ 64) : (warr b t).length = 64 := by simp [warr, sched_len]; omega
theorem warr_set (b : List UInt8) {t : Nat} (ht : t < 64) (x : BitVec 32) (hx : x = wordAt b (sched b t) t) : (warr b t).set t x = warr b (t + 1) := by
  subst hx
  unfold warr
  rw [List.set_append_right _ _ (by rw [sched_len]; exact Nat.le_refl _), sched_len, Nat.sub_self, show 64 - t = (64 - (t + 1)) + 1 by omega, List.replicate_succ, List.set_cons_zero]
  simp [sched]
theorem warr_get (b : List UInt8) {t i : Nat} (h : i < t) (ht : t ≤ 64) : (warr b t)[i]? = some ((sched b t).getD i 0) := by
  unfold warr
  rw [List.getElem?_append_left (by rw [sched_len]; exact h), List.getD_eq_getElem?_getD, List.getElem?_eq_getElem (by rw [sched_len]; exact h)]
  rfl
theorem warr_zero (b : List UInt8) : warr b 0 = List.replicate 64 0 := rfl
/-- The first t rounds. -/
def rnds (ks ws : List (BitVec 32)) (s : S8) : Nat → S8
  | 0 => s
  | t + 1 => rnd (ks.getD t 0) (ws.getD t 0) (rnds ks ws s t)
def add8 (s v : S8) : S8 := ⟨s.a + v.a, s.b + v.b, s.c + v.c, s.d + v.d, s.e + v.e, s.f + v.f, s.g + v.g, s.h + v.h⟩
/-- One block goes in. -/
def blockM (s : S8) (b : List UInt8) : S8 := add8 s (rnds keyL (sched b 64) s 64)
theorem bw_take {b : List UInt8} {i n : Nat} (h : i < n) : bw (b.take n) i = bw b i := by
  unfold bw
  rw [List.getD_eq_getElem?_getD, List.getD_eq_getElem?_getD, List.getElem?_take, if_pos h]
theorem wordAt_take (b : List UInt8) (l : List (BitVec 32)) (t : Nat) : wordAt (b.take 64) l t = wordAt b l t := by
  unfold wordAt
  split
  · unfold W4
    rw [bw_take (by omega), bw_take (by omega), bw_take (by omega), bw_take (by omega)]
  · rfl
theorem sched_take (b : List UInt8) (t : Nat) : sched (b.take 64) t = sched b t := by
  induction t with
  | zero => rfl
  | succ t ih => rw [sched, sched, ih, wordAt_take]
theorem blockM_take (s : S8) (b : List UInt8) : blockM s (b.take 64) = blockM s b := by unfold blockM; rw [sched_take]
/-- All whole blocks go in. -/
def foldN (s : S8) (b : List UInt8) : Nat → S8
  | 0 => s
  | k + 1 => blockM (foldN s b k) (b.drop (64 * k))
def foldB (s : S8) (b : List UInt8) : S8 := foldN s b (b.length / 64)
theorem foldN_head (s : S8) (b : List UInt8) (k : Nat) : foldN s b (k + 1) = foldN (blockM s b) (b.drop 64) k := by
  induction k with
  | zero => simp [foldN]
  | succ k ih => rw [foldN, ih, foldN, List.drop_drop]; congr 2; omega
theorem foldN_add (s : S8) (b : List UInt8) (i k : Nat) : foldN s b (i + k) = foldN (foldN s b i) (b.drop (64 * i)) k := by
  induction k with
  | zero => rfl
  | succ k ih => rw [← Nat.add_assoc, foldN, ih, foldN, List.drop_drop]; congr 2; omega
theorem foldN_append (s : S8) (a b : List UInt8) (k : Nat) (h : 64 * k ≤ a.length) : foldN s (a ++ b) k = foldN s a k := by
  induction k with
  | zero => rfl
  | succ k ih =>
    rw [foldN, ih (by omega), foldN, ← blockM_take _ ((a ++ b).drop _), ← blockM_take _ (a.drop _), List.drop_append_of_le_length (by omega), List.take_append_of_le_length (by simp; omega)]
/-- What is left behind the whole blocks. -/
def tailB (b : List UInt8) : List UInt8 := b.drop (64 * (b.length / 64))
theorem tailB_len (b : List UInt8) : (tailB b).length = b.length % 64 := by simp [tailB]; omega
/-- Pieces hang together. -/
theorem foldB_append (s : S8) (a b : List UInt8) : foldB (foldB s a) (tailB a ++ b) = foldB s (a ++ b) := by
  have h1 : a ++ b = a.take (64 * (a.length / 64)) ++ (tailB a ++ b) := by unfold tailB; rw [← List.append_assoc, List.take_append_drop]
  have hl : (a.take (64 * (a.length / 64))).length = 64 * (a.length / 64) := by simp; omega
  have h2 : (a ++ b).length / 64 = a.length / 64 + (tailB a ++ b).length / 64 := by simp [tailB_len]; omega
  have h3 : (a ++ b).drop (64 * (a.length / 64)) = tailB a ++ b := by
    rw [List.drop_append_of_le_length (by omega)]; rfl
  unfold foldB
  rw [h2, foldN_add, h3, foldN_append s a b _ (by omega)]
theorem tailB_append (a b : List UInt8) : tailB (tailB a ++ b) = tailB (a ++ b) := by
  have h1 : (a ++ b).drop (64 * (a.length / 64)) = tailB a ++ b := by
    rw [List.drop_append_of_le_length (by omega)]; rfl
  have h2 : (a ++ b).length / 64 = a.length / 64 + (tailB a ++ b).length / 64 := by simp [tailB_len]; omega
  show (tailB a ++ b).drop _ = (a ++ b).drop _
  rw [h2, ← h1, List.drop_drop, Nat.mul_add]
/-- How many noughts are put behind so many bytes and one more. -/
def noughts (n : Nat) : Nat := (119 - n % 64) % 64
def beByte (n : Nat) (k : Nat) : UInt8 := UInt8.ofNat (n / 2 ^ (8 * k) % 256)
/-- The number of bits, in eight bytes. -/
def be8 (n : Nat) : List UInt8 := [beByte n 7, beByte n 6, beByte n 5, beByte n 4, beByte n 3, beByte n 2, beByte n 1, beByte n 0]
/-- The row with what stands behind it: n bytes were there in all. -/
def padM (b : List UInt8) (n : Nat) : List UInt8 := b ++ [128] ++ List.replicate (noughts b.length) 0 ++ be8 (n * 8)
theorem padM_len (b : List UInt8) (n : Nat) : (padM b n).length % 64 = 0 ∧ (padM b n).length = b.length + 9 + noughts b.length := by
  simp [padM, be8, noughts]; omega
theorem padM_tail (s : S8) (b : List UInt8) (n : Nat) : foldB (foldB s b) (padM (tailB b) n) = foldB s (padM b n) := by
  have h : padM (tailB b) n = tailB b ++ ([128] ++ List.replicate (noughts b.length) 0 ++ be8 (n * 8)) := by
    unfold padM
    rw [show noughts (tailB b).length = noughts b.length by unfold noughts; rw [tailB_len]; omega]
    simp only [List.append_assoc]
  rw [h, foldB_append]
  congr 1
  simp only [padM, List.append_assoc]
def bytesW (x : BitVec 32) : List UInt8 := [UInt8.ofNat ((x >>> 24).toNat % 256), UInt8.ofNat ((x >>> 16).toNat % 256), UInt8.ofNat ((x >>> 8).toNat % 256), UInt8.ofNat (x.toNat % 256)]
def outB (s : S8) : List UInt8 := bytesW s.a ++ bytesW s.b ++ bytesW s.c ++ bytesW s.d ++ bytesW s.e ++ bytesW s.f ++ bytesW s.g ++ bytesW s.h
theorem outB_len (s : S8) : (outB s).length = 32 := rfl
/-- The digest. -/
def digM (b : List UInt8) : List UInt8 := outB (foldB start8 (padM b b.length))
end Go.Our
/- From one state of a walk to another that says less; numbers within bounds; words for scripts. Conditions: none. -/
set_option linter.unusedVariables false
set_option linter.unusedSimpArgs false
namespace Go.Sx
open Go

/-! ### The same names -/
section
variable {σ : Nat → Nat}
theorem renB_id (h : ∀ j, σ j = j) : ∀ b, renB σ b = b
  | .glob g => rfl
  | .loc i => by simp only [renB, h]
mutual
theorem ren_id (h : ∀ j, σ j = j) : ∀ v, ren σ v = v
  | .bool _ => rfl
  | .int _ _ => rfl
  | .str _ => rfl
  | .val _ => rfl
  | .any => rfl
  | .nb _ => rfl
  | .mp b => by simp only [ren, renB_id h]
  | .ptr b _ _ _ => by simp only [ren, renB_id h]
  | .sl b _ _ _ _ => by simp only [ren, renB_id h]
  | .agg cs => by simp only [ren, renL_id h cs]
  | .arr _ rs => by simp only [ren, renLL_id h rs]
  | .tup vs => by simp only [ren, renL_id h vs]
  | .ifc _ v => by simp only [ren, ren_id h v]
  | .fn _ a b => by simp only [ren, renL_id h a, renL_id h b]
theorem renL_id (h : ∀ j, σ j = j) : ∀ vs, renL σ vs = vs
  | [] => rfl
  | c :: cs => by simp only [renL, ren_id h c, renL_id h cs]
theorem renLL_id (h : ∀ j, σ j = j) : ∀ vs, renLL σ vs = vs
  | [] => rfl
  | c :: cs => by simp only [renLL, renL_id h c, renLL_id h cs]
end
theorem renH_id (h : ∀ j, σ j = j) : ∀ hp, renH σ hp = hp
  | .box _ => by simp only [renH, renL_id h]
  | .rows _ _ => by simp only [renH, renLL_id h]
  | .siter _ _ => rfl
  | .bld _ _ _ => rfl
  | .mp _ => by simp only [renH, renLL_id h]
end

/-! ### A state cut down -/
def CutFr (m : Nat) (fr : Fr) : Fr → Prop
  | [] => True
  | (t, v) :: r => (lkp t fr = some v ∧ below m v = true) ∧ CutFr m fr r
def CutO (m : Nat) (O : Hps) : Hps → Prop
  | [] => True
  | (i, h) :: r => (lkp i O = some h ∧ Nat.blt i m = true ∧ belowH m h = true) ∧ CutO m O r
theorem CutFr.at {m : Nat} {fr : Fr} : ∀ {fr' : Fr}, CutFr m fr fr' → ∀ t v, lkp t fr' = some v → lkp t fr = some v ∧ below m v = true
  | [], _, t, v, h => by simp [lkp] at h
  | (d, u) :: r, hs, t, v, h => by
    rw [lkp_cons] at h
    split at h
    · rename_i e; subst e; injection h with h; subst h; exact hs.1
    · exact CutFr.at hs.2 t v h
theorem CutO.at {m : Nat} {O : Hps} : ∀ {O' : Hps}, CutO m O O' → ∀ i h, lkp i O' = some h → lkp i O = some h ∧ i < m ∧ belowH m h = true
  | [], _, t, v, h => by simp [lkp] at h
  | (d, u) :: r, hs, t, v, h => by
    rw [lkp_cons] at h
    split at h
    · rename_i e; subst e; injection h with h; subst h
      exact ⟨hs.1.1, by simpa [Nat.blt_eq] using hs.1.2.1, hs.1.2.2⟩
    · exact CutO.at hs.2 t v h
variable {M : Mx} {fr fr' : Fr} {O O' : Hps} {nx : Nat}
theorem GOES.cut {k : Nat} (m : Nat) (hk : M.η0.length = k) (hkm : Nat.ble k m = true) (hmn : Nat.ble m nx = true) (hf : CutFr m fr fr') (hO : CutO m O O') : GOES M fr O nx fr' O' m := by
  have hkm := Nat.le_of_ble_eq_true hkm
  have hmn := Nat.le_of_ble_eq_true hmn
  refine ⟨fun η a w hm => ?_⟩
  have hid : ∀ j : Nat, id j = j := fun _ => rfl
  have hbwd : Bwd η (η.take m) id m := fun i x hi hx => by
    simp only [id] at hx
    rw [List.getElem?_take, if_pos hi]; exact hx
  have hlen : (η.take m).length = m := by rw [List.length_take, hm.heap.len]; omega
  refine ⟨η.take m, ⟨?_, hlen, ⟨fun i h hi => ?_, fun i j h h' n hi hj hij f f' => ?_⟩, hm.heap.fr, hm.heap.sok⟩, hm.size, hm.defers, fun t v ht => ?_⟩
  · obtain ⟨t, ht⟩ := hm.heap.pre
    refine ⟨t.take (m - k), ?_⟩
    rw [← ht, List.take_append, hk, List.take_of_length_le (l := M.η0) (by omega)]
  · obtain ⟨h1, h2, h3⟩ := hO.at i h hi
    refine ⟨HpSat.unren hbwd h2 h3 ?_, fun n f => (hm.heap.own.1 i h h1).2 n (f.mono (List.take_prefix m η))⟩
    rw [renH_id hid]; exact (hm.heap.own.1 i h h1).1
  · obtain ⟨h1, h2, h3⟩ := hO.at i h hi
    obtain ⟨h4, h5, h6⟩ := hO.at j h' hj
    exact hm.heap.own.2 i j h h' n h1 h4 hij (f.mono (List.take_prefix m η)) (f'.mono (List.take_prefix m η))
  · obtain ⟨h1, h2⟩ := hf.at t v ht
    exact Den.unren hbwd h2 (by rw [ren_id hid]; exact hm.frame t v h1)
/-- The same, as a reduction lays it out. -/
def cutK (fr : Fr) : Fr → Prop
  | [] => True
  | (t, v) :: r => match lkp t fr with
    | some u => u = v ∧ cutK fr r
    | none => False
def cutOK (O : Hps) : Hps → Prop
  | [] => True
  | (i, h) :: r => match lkp i O with
    | some g => g = h ∧ cutOK O r
    | none => False
def belowFr (m : Nat) : Fr → Bool
  | [] => true
  | (_, v) :: r => below m v && belowFr m r
def belowO (m : Nat) : Hps → Bool
  | [] => true
  | (i, h) :: r => Nat.blt i m && (belowH m h && belowO m r)
theorem cutK_fr {m : Nat} {fr : Fr} : ∀ {fr' : Fr}, cutK fr fr' → belowFr m fr' = true → CutFr m fr fr'
  | [], _, _ => trivial
  | (t, v) :: r, h, b => by
    simp only [cutK] at h
    simp only [belowFr, Bool.and_eq_true] at b
    split at h
    · rename_i u hu
      obtain ⟨rfl, h⟩ := h
      exact ⟨⟨hu, b.1⟩, cutK_fr h b.2⟩
    · exact h.elim
theorem cutOK_o {m : Nat} {O : Hps} : ∀ {O' : Hps}, cutOK O O' → belowO m O' = true → CutO m O O'
  | [], _, _ => trivial
  | (t, v) :: r, h, b => by
    simp only [cutOK] at h
    simp only [belowO, Bool.and_eq_true] at b
    split at h
    · rename_i u hu
      obtain ⟨rfl, h⟩ := h
      exact ⟨⟨hu, b.1, b.2.1⟩, cutOK_o h b.2.2⟩
    · exact h.elim
theorem GOES.cutting {k m : Nat} (hk : M.η0.length = k) (hkm : Nat.ble k m = true) (hmn : Nat.ble m nx = true) (hbf : belowFr m fr' = true) (hbo : belowO m O' = true) (hf : cutK fr fr') (hO : cutOK O O') : GOES M fr O nx fr' O' m :=
  GOES.cut m hk hkm hmn (cutK_fr hf hbf) (cutOK_o hO hbo)
theorem GOES.trans {fr2 : Fr} {O2 : Hps} {n1 n2 : Nat} (h : GOES M fr O nx fr' O' n1) (k : GOES M fr' O' n1 fr2 O2 n2) : GOES M fr O nx fr2 O2 n2 :=
  ⟨fun η a w hm => let ⟨η1, h1⟩ := h.out η a w hm; k.out η1 a w h1⟩
/-- The empty slice, by a name of its own. -/
theorem GOES.nil (t es : Nat) (h0 : lkp t fr = some (.val (.slice none 0 0))) : GOES M fr O nx ((t, .sl (.loc nx) 0 es 0 none) :: fr) ((nx, .rows es []) :: O) (nx + 1) := by
  refine ⟨fun η a w hm => ?_⟩
  have hpre : η <+: η ++ [none] := List.prefix_append _ _
  have hnew : (η ++ [none])[nx]? = some none := by rw [List.getElem?_append_right (by rw [hm.heap.len]; omega), hm.heap.len]; simp
  refine ⟨η ++ [none], hm.heap.push none (fun _ _ => rfl) (Nat.le_refl _) rfl rfl rfl (Nat.le_refl _) (.inl ⟨hnew, rfl⟩) (fun k f => (feet.none (b := .loc nx) hnew f).elim) (fun k f => (feet.none (b := .loc nx) hnew f).elim), hm.size, hm.defers, fun u v hu => ?_⟩
  · rw [lkp_cons] at hu
    split at hu
    · rename_i e; subst e; injection hu with hu; subst hu
      have := hm.frame u _ h0
      simp only [Den] at this ⊢
      exact .inl ⟨hnew, this.1, trivial⟩
    · exact Den.mono hpre (hm.frame u v hu)
theorem LOOP.goes {body : Code} {Q : Post} {n1 : Nat} (h : GOES M fr O nx fr' O' n1) (k : LOOP M body fr' O' n1 Q) : LOOP M body fr O nx Q :=
  ⟨fun η a w hm => let ⟨η1, h1⟩ := h.out η a w hm; k.out η1 a w h1⟩
theorem LOOP.nil {body : Code} {Q : Post} (t es : Nat) (h0 : lkp t fr = some (.val (.slice none 0 0))) (k : LOOP M body ((t, .sl (.loc nx) 0 es 0 none) :: fr) ((nx, .rows es []) :: O) (nx + 1) Q) : LOOP M body fr O nx Q := LOOP.goes (GOES.nil t es h0) k

/-! ### Ends with a new slice -/
theorem FIN.rows {k : Nat} {r : SV} {Q : SV → Hps → Nat → Prop} (hk : M.η0.length = k) (i es len : Nat) {rs : List (List SV)} (hr : r = .sl (.loc i) 0 es len none) (hO : lkp i O = some (.rows es rs)) (hi : Nat.blt i nx = true) (hp : plainLL rs = true)
    (hQ : Q (.sl (.loc k) 0 es len none) [(k, .rows es rs)] (k + 1)) : FIN M O nx r Q := by
  have hi : i < nx := by simpa [Nat.blt_eq] using hi
  have hf : fname k [i] k = i := by simp [fname]
  refine FIN.keep hk [i] (rc := .sl (.loc k) 0 es len none) (Oc := [(k, .rows es rs)]) (fun j hj => by simp at hj; omega) (by rw [hr]; simp only [ren, renB, hf]) (by simp [below, belowB, Nat.blt_eq]) ?_ ?_ hQ
  · intro p hp'
    simp only [List.mem_singleton] at hp'
    subst hp'
    refine ⟨by simp, ?_, by simp only [belowH, plainLL_below _ hp]⟩
    simp only [renH, hf, renLL_plain _ hp, hO]
  · intro j hj j' hj' _
    simp [namesOf] at hj hj'
    omega

/-- A new slice of bytes, and nothing else. -/
def NewBytes (k : Nat) (l : List UInt8) : SV → Hps → Nat → Prop := fun r O nx => r = .sl (.loc k) 0 1 l.length none ∧ O = [(k, .rows 1 (l.map bytesRow))] ∧ nx = k + 1
theorem plainBytes (l : List UInt8) : plainLL (l.map bytesRow) = true := plainLL_map _ (fun _ => rfl) l
theorem cname_ge {L : List Nat} {nx k : Nat} (hL : L.length = k) : cname L nx k = nx := by simp [cname, hL]
theorem CALL.bytes {f : FuncId} {args : List SV} {K : SV → Hps → Nat → Prop} {l : List UInt8} (sp : Does M.P M.C.T f 0 args [] [] (NewBytes 0 l)) (hp : plainL args = true)
    (hK : K (.sl (.loc nx) 0 1 l.length none) ((nx, .rows 1 (l.map bytesRow)) :: O) (nx + 1)) : CALL M f args O nx K := by
  refine CALL.of [] sp rfl (fun i hi => by cases hi) (renL_plain _ hp).symm (plainL_below 0 hp) (fun p hp => by cases hp) (fun j hj => by cases hj) (fun p hp => by cases hp) ?_
  rintro r' O' nx' ⟨rfl, rfl, rfl⟩
  simp only [ren, renB, renO, renH, renLL_plain _ (plainBytes l), cname_ge (L := []) (nx := nx) (k := 0) rfl, namesOf, List.map_nil, outside_nil, List.cons_append, List.nil_append]
  exact hK
theorem rowsBytes (xs : List UInt8) (r n : Nat) : ((xs.map bytesRow).drop r).take n = ((xs.drop r).take n).map bytesRow := by rw [List.map_take, List.map_drop]
theorem unrow (xs : List UInt8) : (xs.map bytesRow).map rowByte = xs := rowByte_bytes xs
/-- The condition at a text made of bytes. -/
theorem needText {xs : List UInt8} {r n : Nat} (h : r + n ≤ xs.length) : (((xs.map bytesRow).drop r).take n).length = n ∧ ∃ l : List UInt8, ((xs.map bytesRow).drop r).take n = l.map bytesRow :=
  ⟨by simp; omega, _, rowsBytes xs r n⟩
/-- The text made of all the bytes. -/
theorem textAll (xs : List UInt8) : (((xs.map bytesRow).drop 0).take xs.length).map rowByte = xs := by rw [rowsBytes, unrow]; simp

/-- A call of a function that looks at one slice. -/
theorem CALL.look1 {f : FuncId} {args argsc : List SV} {K : SV → Hps → Nat → Prop} {es : Nat} {rs : List (List SV)} {r : SV} (i : Nat) (sp : Does M.P M.C.T f 1 argsc [] [(0, .rows es rs)] (ValK 1 r))
    (ha : args = renL (cname [i] nx) argsc) (hi : Nat.blt i nx = true) (hb : belowL 1 argsc = true) (hO : hLook M.C O (.loc i) = some (.rows es rs)) (hp : plainLL rs = true) (hr : plain r = true) (hK : K r O nx) : CALL M f args O nx K := by
  refine CALL.looks [i] sp rfl (by simp [hi]) ha hb ⟨⟨rfl, ?_, plainH_below _ hp⟩, trivial⟩ ?_
  · rw [show renH (cname [i] nx) (.rows es rs) = .rows es rs from renH_plain _ hp]
    exact hO
  · rw [ren_plain _ hr]; exact hK

/-! ### Loops, told by what changes -/
/-- What stays of a frame. -/
def keepK : List Nat → Fr → (Fr → Prop) → Prop
  | [], _, K => K []
  | t :: ts, fr, K => match lkp t fr with
    | some v => keepK ts fr fun r => K ((t, v) :: r)
    | none => STOP "kept"
def appK : Fr → Fr → (Fr → Prop) → Prop
  | [], r, K => K r
  | (t, v) :: l, r, K => appK l r fun r => K ((t, v) :: r)
def appO : Hps → (Hps → Prop) → Prop
  | [], K => K []
  | (t, v) :: l, K => appO l fun r => K ((t, v) :: r)
theorem keepK_iff : ∀ {ts : List Nat} {fr : Fr} {K : Fr → Prop}, keepK ts fr K → ∃ r, K r
  | [], _, _, h => ⟨_, h⟩
  | t :: ts, fr, K, h => by
    simp only [keepK] at h
    split at h
    · obtain ⟨r, hr⟩ := keepK_iff h; exact ⟨_, hr⟩
    · exact h.out.elim
theorem appK_iff : ∀ {l r : Fr} {K : Fr → Prop}, appK l r K ↔ K (l ++ r)
  | [], r, K => Iff.rfl
  | (t, v) :: l, r, K => by simp only [appK, List.cons_append, appK_iff]
theorem appO_iff : ∀ {l : Hps} {K : Hps → Prop}, appO l K ↔ K l
  | [], K => Iff.rfl
  | (t, v) :: l, K => by simp only [appO, appO_iff]
/-- A loop: of the frame stay the slots ks, and there is what chg tells of a tale x; the heap is Ox of it, by n0 names. -/
theorem LOOP.go {body : Code} {Q : Post} (hT : TabOK M.P M.C.T) (ks : List Nat) {X : Type} (P : X → Prop) (chg : X → Fr) (Ox : X → Hps) (n0 : Nat) (μ : X → Nat) (x0 : X) (hP : P x0)
    (h : keepK ks fr fun fr0 => (appK (chg x0) fr0 fun fr' => appO (Ox x0) fun O' => GOES M fr O nx fr' O' n0) ∧
      ∀ x, P x → appK (chg x) fr0 fun fr1 => appO (Ox x) fun O1 => run M body fr1 O1 n0 fun e fr O nx => match e with
        | .normal => ∃ x', P x' ∧ μ x' < μ x ∧ appK (chg x') fr0 fun fr' => appO (Ox x') fun O' => GOES M fr O nx fr' O' n0
        | e => Q e fr O nx) : LOOP M body fr O nx Q := by
  obtain ⟨fr0, h1, h2⟩ := keepK_iff h
  simp only [appK_iff, appO_iff] at h1 h2
  exact LOOP.inv hT P (fun x => (chg x ++ fr0, Ox x, n0)) μ x0 hP h1 h2

theorem GETG.at {rs : List (List SV)} {i : Nat} {g : Prop} {K : List SV → Prop} {row : List SV} (h : rs[i]? = some row) (k : K row) : GETG g rs i K := ⟨row, fun _ => h, k⟩

/-! ### Numbers within bounds -/
theorem wrap64 {a : Int} (h1 : -9223372036854775808 ≤ a) (h2 : a ≤ 9223372036854775807) : IntKind.i64.wrap a = a := IntWalk.i64_in _ ⟨by omega, by omega⟩
theorem some_int {k : IntKind} {a b : Int} (h : a = b) : some (SV.int k a) = some (SV.int k b) := by rw [h]
/-! ### What the walk's tests say in plain words: a row of rules under one name -/
theorem hsB : (∀ (p : Prop) [Decidable p], (decide p = true) = p) ∧ (∀ (p : Prop) [Decidable p], (decide p = false) ↔ ¬ p) ∧ (∀ b : Bool, (¬ b = true) = (b = false)) ∧ (∀ b : Bool, (¬ b = false) = (b = true)) ∧ (∀ a b : Bool, ((!a) = b) ↔ (a = !b)) ∧
    ((!true) = false) ∧ ((!false) = true) ∧ (∀ a b : Bool, ((a && b) = true) = (a = true ∧ b = true)) ∧ (∀ a b : Bool, ((a || b) = true) = (a = true ∨ b = true)) ∧ (∀ a b : Bool, ((a && b) = false) = (a = true → b = false)) ∧ (∀ a b : Bool, ((a || b) = false) = (a = false ∧ b = false)) ∧
    (∀ {α : Type} [BEq α] [LawfulBEq α] (a b : α), ((a != b) = true) ↔ a ≠ b) ∧ (∀ {α : Type} [BEq α] [LawfulBEq α] (a b : α), ((a != b) = false) ↔ a = b) ∧ (∀ {α : Type} [BEq α] [LawfulBEq α] (a b : α), ((a == b) = true) ↔ a = b) ∧ (∀ {α : Type} [BEq α] [LawfulBEq α] (a b : α), ((a == b) = false) ↔ a ≠ b) ∧
    (∀ {α : Type} (a b : α), (a ≠ b) = ¬ (a = b)) ∧ (∀ c : Bool, (bif c then c else false) = c) ∧ (∀ a b : Bool, (bif a then b else false) = (a && b)) ∧ (∀ a b : Bool, (bif a then true else b) = (a || b)) ∧ (∀ a b : Bool, (bif a then b else true) = (!a || b)) ∧ (∀ a b : Bool, (bif a then false else b) = (!a && b)) :=
  ⟨fun p _ => by simp, fun p _ => by simp, fun b => by simp, fun b => by simp, fun a b => by cases a <;> cases b <;> simp, rfl, rfl, fun a b => by simp, fun a b => by simp, fun a b => by simp, fun a b => by simp, fun a b => by simp, fun a b => by simp, fun a b => by simp, fun a b => by simp,
    fun a b => rfl, fun c => by cases c <;> rfl, fun a b => by cases a <;> rfl, fun a b => by cases a <;> rfl, fun a b => by cases a <;> rfl, fun a b => by cases a <;> rfl⟩
theorem hsC : (∀ a b : Int, (¬ a < b) ↔ b ≤ a) ∧ (∀ a b : Int, (¬ a ≤ b) ↔ b < a) ∧ (decide True = true) ∧ (decide False = false) ∧ (∀ {α : Type} (a b : α), (bif true then a else b) = a) ∧ (∀ {α : Type} (a b : α), (bif false then a else b) = b) ∧
    (∀ b : Bool, (true || b) = true) ∧ (∀ b : Bool, (b || true) = true) ∧ (∀ b : Bool, (false || b) = b) ∧ (∀ b : Bool, (b || false) = b) ∧ (∀ b : Bool, (true && b) = b) ∧ (∀ b : Bool, (b && true) = b) ∧ (∀ b : Bool, (false && b) = false) ∧ (∀ b : Bool, (b && false) = false) ∧
    (∀ p : Prop, (True ∨ p) = True) ∧ (∀ p : Prop, (p ∨ True) = True) ∧ (∀ p : Prop, (False ∨ p) = p) ∧ (∀ p : Prop, (p ∨ False) = p) ∧ (∀ p : Prop, (True ∧ p) = p) ∧ (∀ p : Prop, (p ∧ True) = p) ∧ (∀ p : Prop, (False ∧ p) = False) ∧ (∀ p : Prop, (p ∧ False) = False) ∧
    ((¬ True) = False) ∧ ((¬ False) = True) ∧ ((false = true) = False) ∧ ((true = false) = False) ∧ (∀ p q : Prop, (¬ (p ∨ q)) ↔ (¬ p ∧ ¬ q)) ∧ (∀ p q : Prop, (¬ (p ∧ q)) ↔ (p → ¬ q)) ∧ (∀ p : Prop, (¬ ¬ p) ↔ p) :=
  ⟨fun a b => Int.not_lt, fun a b => Int.not_le, by simp, by simp, fun a b => rfl, fun a b => rfl, fun b => by simp, fun b => by simp, fun b => by simp, fun b => by simp, fun b => by simp, fun b => by simp, fun b => by simp, fun b => by simp, fun p => by simp, fun p => by simp, fun p => by simp, fun p => by simp, fun p => by simp, fun p => by simp, fun p => by simp, fun p => by simp,
    by simp, by simp, by simp, by simp, fun p q => by simp, fun p q => by simp, fun p => Classical.not_not⟩
theorem lnB : (∀ {α : Type} (a : α) (l : List α), (a :: l).length = l.length + 1) ∧ (∀ {α : Type}, ([] : List α).length = 0) ∧ (∀ {α : Type} (a b : List α), (a ++ b).length = a.length + b.length) ∧ (∀ p : Prop, (True ∧ p) = p) ∧ (∀ p : Prop, (p ∧ True) = p) :=
  ⟨fun a l => rfl, rfl, fun a b => List.length_append, fun p => by simp, fun p => by simp⟩
end Go.Sx
/- States with other names at a loop's end; lists that grow. Conditions: none. -/
set_option linter.unusedVariables false
set_option linter.unusedSimpArgs false
namespace Go.Sx
open Go
def subK (σ : Nat → Nat) (fr : Fr) : Fr → Prop
  | [] => True
  | (t, v) :: r => match lkp t fr with
    | some u => u = ren σ v ∧ subK σ fr r
    | none => False
def subOK (σ : Nat → Nat) (O : Hps) : Hps → Prop
  | [] => True
  | (i, h) :: r => match lkp (σ i) O with
    | some g => g = renH σ h ∧ subOK σ O r
    | none => False
theorem subK_fr {σ : Nat → Nat} {m : Nat} {fr : Fr} : ∀ {fr' : Fr}, subK σ fr fr' → belowFr m fr' = true → SubFr σ m fr fr'
  | [], _, _ => trivial
  | (t, v) :: r, h, b => by
    simp only [subK] at h
    simp only [belowFr, Bool.and_eq_true] at b
    split at h
    · rename_i u hu
      obtain ⟨rfl, h⟩ := h
      exact ⟨⟨hu, b.1⟩, subK_fr h b.2⟩
    · exact h.elim
theorem subOK_o {σ : Nat → Nat} {m : Nat} {O : Hps} : ∀ {O' : Hps}, subOK σ O O' → belowO m O' = true → SubO σ m O O'
  | [], _, _ => trivial
  | (t, v) :: r, h, b => by
    simp only [subOK] at h
    simp only [belowO, Bool.and_eq_true] at b
    split at h
    · rename_i u hu
      obtain ⟨rfl, h⟩ := h
      exact ⟨⟨b.1, hu, b.2.1⟩, subOK_o h b.2.2⟩
    · exact h.elim
theorem GOES.keeping {M : Mx} {fr : Fr} {O : Hps} {nx k : Nat} {fr' : Fr} {O' : Hps} (hk : M.η0.length = k) (τ : List Nat) (hτ : τ.all (fun i => Nat.blt i nx) = true)
    (hn : (namesOf O').all (fun j => (namesOf O').all fun j' => !(Nat.beq (fname k τ j) (fname k τ j')) || Nat.beq j j') = true)
    (hbf : belowFr (k + τ.length) fr' = true) (hbo : belowO (k + τ.length) O' = true) (hf : subK (fname k τ) fr fr') (hO : subOK (fname k τ) O O') : GOES M fr O nx fr' O' (k + τ.length) :=
  GOES.keep hk τ hτ (subK_fr hf hbf) (subOK_o hO hbo) hn
theorem sl_eq {b b' : Blk} {r es n n' : Nat} {lim : Option Nat} (hb : b = b') (hn : n = n') : SV.sl b r es n lim = SV.sl b' r es n' lim := by rw [hb, hn]
theorem rows_eq {es : Nat} {rs rs' : List (List SV)} {σ : Nat → Nat} (hp : plainLL rs' = true) (h : rs = rs') : Hp.rows es rs = renH σ (.rows es rs') := by rw [renH_plain σ (h := .rows es rs') hp, h]
/-- Room for what is appended: B is no less than an element's bytes. -/
theorem needApp {xs : List (List SV)} {m n k b : Nat} (B : Nat) (hb : Nat.ble b B = true) (hB : Nat.ble 1 B = true) (h1 : xs.length = m) (h2 : n ≤ k) (h3 : (n + m) * B ≤ 140737488355328) : xs.length = m ∧ n ≤ k ∧ n + m ≤ 9223372036854775807 ∧ (n + m) * b ≤ 140737488355328 := by
  have hb := Nat.le_of_ble_eq_true hb
  have hB := Nat.le_of_ble_eq_true hB
  refine ⟨h1, h2, ?_, Nat.le_trans (Nat.mul_le_mul_left _ hb) h3⟩
  have : n + m ≤ (n + m) * B := Nat.le_mul_of_pos_right _ hB
  omega
/-- An end with a tuple of a new slice and plain values. -/
theorem FIN.rowsT {M : Mx} {O : Hps} {nx k : Nat} {r : SV} {Q : SV → Hps → Nat → Prop} (hk : M.η0.length = k) (i es len : Nat) {rs : List (List SV)} {vs : List SV} (hr : r = .tup (.sl (.loc i) 0 es len none :: vs)) (hO : lkp i O = some (.rows es rs)) (hi : Nat.blt i nx = true) (hp : plainLL rs = true) (hv : plainL vs = true)
    (hQ : Q (.tup (.sl (.loc k) 0 es len none :: vs)) [(k, .rows es rs)] (k + 1)) : FIN M O nx r Q := by
  have hi : i < nx := by simpa [Nat.blt_eq] using hi
  have hf : fname k [i] k = i := by simp [fname]
  refine FIN.keep hk [i] (rc := .tup (.sl (.loc k) 0 es len none :: vs)) (Oc := [(k, .rows es rs)]) (fun j hj => by simp at hj; omega) (by rw [hr]; simp only [ren, renL, renB, hf, renL_plain _ hv]) (by simp [below, belowL, belowB, Nat.blt_eq, plainL_below _ hv]) ?_ ?_ hQ
  · intro p hp'
    simp only [List.mem_singleton] at hp'
    subst hp'
    refine ⟨by simp, ?_, by simp only [belowH, plainLL_below _ hp]⟩
    simp only [renH, hf, renLL_plain _ hp, hO]
  · intro j hj j' hj' _
    simp [namesOf] at hj hj'
    omega
theorem Does.mono {P : Program} {T : Tab} {f : FuncId} {k : Nat} {args : List SV} {O S : Hps} {Q Q' : SV → Hps → Nat → Prop} (h : Does P T f k args O S Q) (hq : ∀ r O nx, Q r O nx → Q' r O nx) : Does P T f k args O S Q' :=
  ⟨fun M vs h1 h2 h3 h4 h5 h6 => (h.out M vs h1 h2 h3 h4 h5 h6).mono fun v w' ⟨r, O', nx', η', a, b⟩ => ⟨r, O', nx', η', hq _ _ _ a, b⟩⟩
/-- A result with a new slice at its head. -/
def NewT (es : Nat) (rs : List (List SV)) (vs : List SV) : SV → Hps → Nat → Prop := fun r O nx => r = .tup (.sl (.loc 0) 0 es rs.length none :: vs) ∧ O = [(0, .rows es rs)] ∧ nx = 1
theorem CALL.newT {M : Mx} {O : Hps} {nx : Nat} {f : FuncId} {args : List SV} {K : SV → Hps → Nat → Prop} {es : Nat} {rs : List (List SV)} {vs : List SV} (sp : Does M.P M.C.T f 0 args [] [] (NewT es rs vs)) (hp : plainL args = true) (hrs : plainLL rs = true) (hvs : plainL vs = true)
    (hK : K (.tup (.sl (.loc nx) 0 es rs.length none :: vs)) ((nx, .rows es rs) :: O) (nx + 1)) : CALL M f args O nx K := by
  refine CALL.of [] sp rfl (fun i hi => by cases hi) (renL_plain _ hp).symm (plainL_below 0 hp) (fun p hp => by cases hp) (fun j hj => by cases hj) (fun p hp => by cases hp) ?_
  rintro r' O' nx' ⟨rfl, rfl, rfl⟩
  simp only [ren, renL, renB, renO, renH, renLL_plain _ hrs, renL_plain _ hvs, cname_ge (L := []) (nx := nx) (k := 0) rfl, namesOf, List.map_nil, outside_nil, List.cons_append, List.nil_append]
  exact hK
/-- A result that is a new slice. -/
def NewS (es : Nat) (rs : List (List SV)) : SV → Hps → Nat → Prop := fun r O nx => r = .sl (.loc 0) 0 es rs.length none ∧ O = [(0, .rows es rs)] ∧ nx = 1
theorem CALL.newS {M : Mx} {O : Hps} {nx : Nat} {f : FuncId} {args : List SV} {K : SV → Hps → Nat → Prop} {es : Nat} {rs : List (List SV)} (sp : Does M.P M.C.T f 0 args [] [] (NewS es rs)) (hp : plainL args = true) (hrs : plainLL rs = true)
    (hK : K (.sl (.loc nx) 0 es rs.length none) ((nx, .rows es rs) :: O) (nx + 1)) : CALL M f args O nx K := by
  refine CALL.of [] sp rfl (fun i hi => by cases hi) (renL_plain _ hp).symm (plainL_below 0 hp) (fun p hp => by cases hp) (fun j hj => by cases hj) (fun p hp => by cases hp) ?_
  rintro r' O' nx' ⟨rfl, rfl, rfl⟩
  simp only [ren, renB, renO, renH, renLL_plain _ hrs, cname_ge (L := []) (nx := nx) (k := 0) rfl, namesOf, List.map_nil, outside_nil, List.cons_append, List.nil_append]
  exact hK
end Go.Sx
/- Calls among functions that share their names for blocks; empty slices in boxes by names. Conditions: none. -/
set_option linter.unusedVariables false
set_option linter.unusedSimpArgs false
namespace Go.Sx
open Go

/-! ### Names that stay -/
section
variable {σ : Nat → Nat} {k : Nat}
theorem renB_below (h : ∀ j, j < k → σ j = j) : ∀ {b : Blk}, belowB k b = true → renB σ b = b
  | .glob g, _ => rfl
  | .loc i, hb => by simp only [belowB, Nat.blt_eq] at hb; simp only [renB, h i hb]
mutual
theorem ren_below (h : ∀ j, j < k → σ j = j) : ∀ {v : SV}, below k v = true → ren σ v = v
  | .bool _, _ => rfl
  | .int _ _, _ => rfl
  | .str _, _ => rfl
  | .val _, _ => rfl
  | .any, _ => rfl
  | .nb _, _ => rfl
  | .mp b, hb => by simp only [below] at hb; simp only [ren, renB_below h hb]
  | .ptr b _ _ _, hb => by simp only [below] at hb; simp only [ren, renB_below h hb]
  | .sl b _ _ _ _, hb => by simp only [below] at hb; simp only [ren, renB_below h hb]
  | .agg cs, hb => by simp only [below] at hb; simp only [ren, renL_below h hb]
  | .arr _ rs, hb => by simp only [below] at hb; simp only [ren, renLL_below h hb]
  | .tup vs, hb => by simp only [below] at hb; simp only [ren, renL_below h hb]
  | .ifc _ v, hb => by simp only [below] at hb; simp only [ren, ren_below h hb]
  | .fn _ a b, hb => by simp only [below, Bool.and_eq_true] at hb; simp only [ren, renL_below h hb.1, renL_below h hb.2]
theorem renL_below (h : ∀ j, j < k → σ j = j) : ∀ {vs : List SV}, belowL k vs = true → renL σ vs = vs
  | [], _ => rfl
  | c :: cs, hb => by simp only [belowL, Bool.and_eq_true] at hb; simp only [renL, ren_below h hb.1, renL_below h hb.2]
theorem renLL_below (h : ∀ j, j < k → σ j = j) : ∀ {vs : List (List SV)}, belowLL k vs = true → renLL σ vs = vs
  | [], _ => rfl
  | c :: cs, hb => by simp only [belowLL, Bool.and_eq_true] at hb; simp only [renLL, renL_below h hb.1, renLL_below h hb.2]
end
theorem renH_below (h : ∀ j, j < k → σ j = j) : ∀ {hp : Hp}, belowH k hp = true → renH σ hp = hp
  | .box _, hb => by simp only [belowH] at hb; simp only [renH, renL_below h hb]
  | .rows _ _, hb => by simp only [belowH] at hb; simp only [renH, renLL_below h hb]
  | .siter _ _, _ => rfl
  | .bld _ _ _, _ => rfl
  | .mp _, hb => by simp only [belowH] at hb; simp only [renH, renLL_below h hb]
theorem renO_below (h : ∀ j, j < k → σ j = j) : ∀ {O : Hps}, belowO k O = true → renO σ O = O
  | [], _ => rfl
  | (i, hp) :: r, hb => by
    simp only [belowO, Bool.and_eq_true, Nat.blt_eq] at hb
    simp only [renO, h i hb.1, renH_below h hb.2.1, renO_below h hb.2.2]
end
variable {M : Mx} {fr fr' : Fr} {O O' : Hps} {nx : Nat}
theorem range_get {k i : Nat} (h : i < k) : (List.range k).getD i 0 = i := by simp [List.getD, h]
theorem cname_range {k nx j : Nat} (h : j < k) : cname (List.range k) nx j = j := by
  simp only [cname, List.length_range, if_pos h, range_get h]
/-- What a contract owns and looks at stands so in the caller's heap, by the same names. -/
def hereO (O : Hps) : Hps → Prop
  | [] => True
  | (i, h) :: r => match lkp i O with
    | some g => g = h ∧ hereO O r
    | none => False
def hereS (C : Cx) (O : Hps) : Hps → Prop
  | [] => True
  | (i, h) :: r => match hLook C O (.loc i) with
    | some g => g = h ∧ hereS C O r
    | none => False
theorem hereO.at {O : Hps} : ∀ {Oc : Hps}, hereO O Oc → ∀ p ∈ Oc, lkp p.1 O = some p.2
  | [], _, p, hp => by cases hp
  | (i, h) :: r, hs, p, hp => by
    simp only [hereO] at hs
    split at hs
    · rename_i g hg
      obtain ⟨rfl, hs⟩ := hs
      rcases List.mem_cons.1 hp with rfl | hp
      · exact hg
      · exact hereO.at hs p hp
    · exact hs.elim
theorem hereS.at {C : Cx} {O : Hps} : ∀ {Sc : Hps}, hereS C O Sc → ∀ p ∈ Sc, hLook C O (.loc p.1) = some p.2
  | [], _, p, hp => by cases hp
  | (i, h) :: r, hs, p, hp => by
    simp only [hereS] at hs
    split at hs
    · rename_i g hg
      obtain ⟨rfl, hs⟩ := hs
      rcases List.mem_cons.1 hp with rfl | hp
      · exact hg
      · exact hereS.at hs p hp
    · exact hs.elim
theorem belowO_mem {k : Nat} : ∀ {O : Hps}, belowO k O = true → ∀ p ∈ O, p.1 < k ∧ belowH k p.2 = true
  | [], _, p, hp => by cases hp
  | (i, h) :: r, hb, p, hp => by
    simp only [belowO, Bool.and_eq_true, Nat.blt_eq] at hb
    rcases List.mem_cons.1 hp with rfl | hp
    · exact ⟨hb.1, hb.2.1⟩
    · exact belowO_mem hb.2.2 p hp
theorem namesOf_below {k : Nat} : ∀ {O : Hps}, belowO k O = true → ∀ j ∈ namesOf O, j < k
  | [], _, j, hj => by cases hj
  | (i, h) :: r, hb, j, hj => by
    simp only [belowO, Bool.and_eq_true, Nat.blt_eq] at hb
    rcases List.mem_cons.1 hj with rfl | hj
    · exact hb.1
    · exact namesOf_below hb.2.2 j hj
theorem map_same {f : Nat → Nat} : ∀ {l : List Nat}, (∀ j ∈ l, f j = j) → l.map f = l
  | [], _ => rfl
  | x :: l, h => by simp only [List.map_cons, h x (List.mem_cons_self ..), map_same fun j hj => h j (List.mem_cons_of_mem _ hj)]
theorem mem_names : ∀ {S : Hps} {p : Nat × Hp}, p ∈ S → p.1 ∈ namesOf S
  | [], p, hp => by cases hp
  | (i, h) :: S, p, hp => by
    rcases List.mem_cons.1 hp with rfl | hp
    · exact List.mem_cons_self ..
    · exact List.mem_cons_of_mem _ (mem_names hp)
/-- A call by the caller's own names, the first k; the callee makes no new ones. -/
theorem CALL.here {f : FuncId} {args : List SV} {K : SV → Hps → Nat → Prop} {k : Nat} {Oc Sc : Hps} {Q : SV → Hps → Nat → Prop} (sp : Does M.P M.C.T f k args Oc Sc Q)
    (hk : Nat.ble k nx = true) (hb : belowL k args = true) (hbO : belowO k Oc = true) (hbS : belowO k Sc = true) (hO : hereO O Oc) (hS : hereS M.C O Sc)
    (hd : (namesOf Sc).all (fun j => !((namesOf Oc).any (Nat.beq j))) = true)
    (hQ : ∀ r O' nx', Q r O' nx' → nx' = k ∧ below k r = true ∧ belowO k O' = true)
    (hK : ∀ r O', Q r O' k → K r (O' ++ outside (namesOf Oc) O) nx) : CALL M f args O nx K := by
  have hk := Nat.le_of_ble_eq_true hk
  have hσ : ∀ j, j < k → cname (List.range k) nx j = j := fun j hj => cname_range hj
  have hnames : (namesOf Oc).map (cname (List.range k) nx) = namesOf Oc := map_same fun j hj => hσ j (namesOf_below hbO j hj)
  refine CALL.of (List.range k) sp (by simp) (fun i hi => by have := List.mem_range.1 hi; omega) (renL_below hσ hb).symm hb ?_ ?_ ?_ ?_
  · intro p hp
    obtain ⟨h1, h2⟩ := belowO_mem hbO p hp
    exact ⟨h1, by rw [hσ _ h1, renH_below hσ h2]; exact hO.at p hp, h2⟩
  · intro j hj j' hj' he
    rwa [hσ j (namesOf_below hbO j hj), hσ j' (namesOf_below hbO j' hj')] at he
  · intro p hp
    obtain ⟨h1, h2⟩ := belowO_mem hbS p hp
    refine ⟨h1, by rw [hσ _ h1, renH_below hσ h2]; exact hS.at p hp, h2, ?_⟩
    rw [hnames, hσ _ h1]
    intro hm
    have hj : p.1 ∈ namesOf Sc := mem_names hp
    have := List.all_eq_true.1 hd _ hj
    simp only [Bool.not_eq_eq_eq_not, Bool.not_true] at this
    have h3 : (namesOf Oc).any (Nat.beq p.1) = true := List.any_eq_true.2 ⟨p.1, hm, beq_self _⟩
    rw [h3] at this; cases this
  · intro r O' nx' hq
    obtain ⟨rfl, h1, h2⟩ := hQ r O' nx' hq
    have := hK r O' hq
    rw [ren_below hσ h1, renO_below hσ h2, hnames]
    simpa using this

/-- What a contract owns and looks at stands so in the caller's heap, by the caller's names for it. -/
def thereO (σ : Nat → Nat) (O : Hps) : Hps → Prop
  | [] => True
  | (i, h) :: r => match lkp (σ i) O with
    | some g => g = renH σ h ∧ thereO σ O r
    | none => False
def thereS (C : Cx) (σ : Nat → Nat) (O : Hps) : Hps → Prop
  | [] => True
  | (i, h) :: r => match hLook C O (.loc (σ i)) with
    | some g => g = renH σ h ∧ thereS C σ O r
    | none => False
theorem thereO.at {σ : Nat → Nat} {O : Hps} : ∀ {Oc : Hps}, thereO σ O Oc → ∀ p ∈ Oc, lkp (σ p.1) O = some (renH σ p.2)
  | [], _, p, hp => by cases hp
  | (i, h) :: r, hs, p, hp => by
    simp only [thereO] at hs
    split at hs
    · rename_i g hg
      obtain ⟨rfl, hs⟩ := hs
      rcases List.mem_cons.1 hp with rfl | hp
      · exact hg
      · exact thereO.at hs p hp
    · exact hs.elim
theorem thereS.at {C : Cx} {σ : Nat → Nat} {O : Hps} : ∀ {Sc : Hps}, thereS C σ O Sc → ∀ p ∈ Sc, hLook C O (.loc (σ p.1)) = some (renH σ p.2)
  | [], _, p, hp => by cases hp
  | (i, h) :: r, hs, p, hp => by
    simp only [thereS] at hs
    split at hs
    · rename_i g hg
      obtain ⟨rfl, hs⟩ := hs
      rcases List.mem_cons.1 hp with rfl | hp
      · exact hg
      · exact thereS.at hs p hp
    · exact hs.elim
/-- A call, the callee's names being the caller's L, in this order. -/
theorem CALL.at {f : FuncId} {args argsc : List SV} {K : SV → Hps → Nat → Prop} {k : Nat} {Oc Sc : Hps} {Q : SV → Hps → Nat → Prop} (L : List Nat) (sp : Does M.P M.C.T f k argsc Oc Sc Q)
    (hL : L.length = k) (hLn : L.all (fun i => Nat.blt i nx) = true) (ha : args = renL (cname L nx) argsc) (hb : belowL k argsc = true) (hbO : belowO k Oc = true) (hbS : belowO k Sc = true) (hO : thereO (cname L nx) O Oc) (hS : thereS M.C (cname L nx) O Sc)
    (hinj : (namesOf Oc).all (fun j => (namesOf Oc).all fun j' => !(Nat.beq (cname L nx j) (cname L nx j')) || Nat.beq j j') = true)
    (hd : (namesOf Sc).all (fun j => !((namesOf Oc).any fun j' => Nat.beq (cname L nx j) (cname L nx j'))) = true)
    (hK : ∀ r O' nx', Q r O' nx' → K (ren (cname L nx) r) (renO (cname L nx) O' ++ outside ((namesOf Oc).map (cname L nx)) O) (nx + (nx' - k))) : CALL M f args O nx K := by
  refine CALL.of L sp hL (fun i hi => by have := List.all_eq_true.1 hLn i hi; simpa [Nat.blt_eq] using this) ha hb (fun p hp => ?_) (fun j hj j' hj' he => ?_) (fun p hp => ?_) hK
  · obtain ⟨h1, h2⟩ := belowO_mem hbO p hp
    exact ⟨h1, hO.at p hp, h2⟩
  · have := List.all_eq_true.1 (List.all_eq_true.1 hinj j hj) j' hj'
    simp only [he, beq_self, Bool.not_true, Bool.false_or] at this
    exact beq_eq this
  · obtain ⟨h1, h2⟩ := belowO_mem hbS p hp
    refine ⟨h1, hS.at p hp, h2, fun hm => ?_⟩
    obtain ⟨j', hj', he⟩ := List.mem_map.1 hm
    have := List.all_eq_true.1 hd _ (mem_names hp)
    simp only [Bool.not_eq_eq_eq_not, Bool.not_true] at this
    have h3 : (namesOf Oc).any (fun j' => Nat.beq (cname L nx p.1) (cname L nx j')) = true := List.any_eq_true.2 ⟨j', hj', by rw [he]; exact beq_self _⟩
    rw [h3] at this; cases this

/-- An end that tells of blocks: those that came in by their names, and those of τ. -/
theorem FIN.at {k : Nat} {r : SV} {Q : SV → Hps → Nat → Prop} (hk : M.η0.length = k) (τ : List Nat) (rc : SV) (Oc : Hps) (hτ : τ.all (fun i => Nat.blt i nx) = true) (hr : r = ren (fname k τ) rc) (hb : below (k + τ.length) rc = true) (hbO : belowO (k + τ.length) Oc = true)
    (hO : thereO (fname k τ) O Oc) (hinj : (namesOf Oc).all (fun j => (namesOf Oc).all fun j' => !(Nat.beq (fname k τ j) (fname k τ j')) || Nat.beq j j') = true) (hQ : Q rc Oc (k + τ.length)) : FIN M O nx r Q := by
  refine FIN.keep hk τ (rc := rc) (Oc := Oc) (fun i hi => by have := List.all_eq_true.1 hτ i hi; simpa [Nat.blt_eq] using this) hr hb (fun p hp => ?_) (fun j hj j' hj' he => ?_) hQ
  · obtain ⟨h1, h2⟩ := belowO_mem hbO p hp
    exact ⟨h1, hO.at p hp, h2⟩
  · have := List.all_eq_true.1 (List.all_eq_true.1 hinj j hj) j' hj'
    simp only [he, beq_self, Bool.not_true, Bool.false_or] at this
    exact beq_eq this

/-- A loop that is come to on many ways, walked once. -/
theorem loopOnce {G : Prop} {body : Code} {Q : Post} {n : Nat} {X : Type} (P : X → Prop) (frx : X → Fr) (Ox : X → Hps) (h1 : (∀ x, P x → LOOP M body (frx x) (Ox x) n Q) → G) (h2 : ∀ x, P x → LOOP M body (frx x) (Ox x) n Q) : G := h1 h2

/-! ### The heap told otherwise ahead of a call -/
theorem CALL.weak {f : FuncId} {args : List SV} {K : SV → Hps → Nat → Prop} {O1 : Hps} {n1 : Nat} (h : ∀ η w, HeapOK M η w O nx → ∃ η', η <+: η' ∧ HeapOK M η' w O1 n1) (hc : CALL M f args O1 n1 K) : CALL M f args O nx K := by
  refine ⟨fun η w vs H hd => ?_⟩
  obtain ⟨η1, hp, H1⟩ := h η w H
  refine (hc.out η1 w vs H1 (DenL.mono hp hd)).mono ?_
  rintro v w' ⟨r, O', nx', η', h1, h2⟩
  exact ⟨r, O', nx', η', hp.trans h1, h2⟩
/-- A nil slice in a box's cell, by a name of its own. -/
def nilAt (nx es : Nat) : Nat → List SV → Option (List SV)
  | 0, .val (.slice none 0 0) :: r => some (.sl (.loc nx) 0 es 0 none :: r)
  | j + 1, c :: r => match nilAt nx es j r with | some r => some (c :: r) | none => none
  | _, _ => none
theorem nilAt_get {nx es : Nat} : ∀ {j : Nat} {row row' : List SV}, nilAt nx es j row = some row' → ∀ (i : Nat) (sv : SV), row'[i]? = some sv → row[i]? = some sv ∨ (row[i]? = some (SV.val (.slice none 0 0)) ∧ sv = SV.sl (.loc nx) 0 es 0 none)
  | 0, [], _, h => by simp [nilAt] at h
  | 0, c :: r, row', h => by
    unfold nilAt at h
    split at h
    · rename_i e1 e2
      injection e2 with e2 e3
      subst e2 e3
      injection h with h; subst h
      intro i sv hi
      cases i with
      | zero => simp at hi; subst hi; exact .inr ⟨rfl, rfl⟩
      | succ i => exact .inl (by simpa using hi)
    · simp_all
    · cases h
  | j + 1, [], _, h => by simp [nilAt] at h
  | j + 1, c :: r, row', h => by
    unfold nilAt at h
    split at h
    · rename_i r1 hr
      injection h with h; subst h
      intro i sv hi
      cases i with
      | zero => left; simpa using hi
      | succ i =>
        have := nilAt_get hr i sv (by simpa using hi)
        simpa using this
    · cases h
theorem HeapOK.nilCell {η : Env} {w : World} (H : HeapOK M η w O nx) {i j es : Nat} {row row' : List SV} (hi : lkp i O = some (.box row)) (hr : nilAt nx es j row = some row') :
    ∃ η', η <+: η' ∧ HeapOK M η' w ((nx, .rows es []) :: setK i (.box row') O) (nx + 1) := by
  have hpre : η <+: η ++ [none] := List.prefix_append _ _
  have hnew : (η ++ [none])[nx]? = some none := by rw [List.getElem?_append_right (by rw [H.len]; omega), H.len]; simp
  have hold : ∀ {i h}, lkp i O = some h → (η ++ [none])[i]? = η[i]? := fun {i h} hi => by
    rw [List.getElem?_append_left (by rw [H.len]; exact H.lt hi)]
  have hin : ∀ {a h}, lkp a (setK i (.box row') O) = some h → ∃ h0, lkp a O = some h0 ∧ HpSat (η ++ [none]) w true (.loc a) h ∧ ∀ n, feet (η ++ [none]) w (.loc a) h n → feet η w (.loc a) h0 n := by
    intro a h ha
    rw [lkp_setK _ _ _ _ (by rw [hi]; rfl)] at ha
    split at ha
    · rename_i e
      subst e
      injection ha with ha
      subst ha
      refine ⟨_, hi, ?_, fun n f => H.stands hpre hi (fun _ _ => rfl) (show feet (η ++ [none]) w (.loc _) (.box row) n from f)⟩
      have := (H.own.1 _ _ hi).1.mono hpre
      simp only [HpSat] at this ⊢
      obtain ⟨e, arr, T, fz, h1, h2, h3, h4⟩ := this
      refine ⟨e, arr, T, fz, h1, h2, h3, fun c sv hc => ?_⟩
      rcases nilAt_get hr c sv hc with hc' | ⟨hc', rfl⟩
      · exact h4 c sv hc'
      · obtain ⟨v, h5, h6, h7⟩ := h4 c _ hc'
        refine ⟨v, h5, h6, ?_⟩
        simp only [Den] at h7 ⊢
        exact .inl ⟨hnew, h7.1, trivial⟩
    · exact ⟨h, ha, (H.own.1 _ _ ha).1.mono hpre, fun n f => H.stands hpre ha (fun _ _ => rfl) f⟩
  refine ⟨η ++ [none], hpre, H.pre.trans hpre, by simp [H.len], ⟨fun a h ha => ?_, fun a b h h' n ha hb hab f f' => ?_⟩, H.fr, H.sok⟩
  · rw [lkp_cons] at ha
    split at ha
    · rename_i e; subst e; injection ha with ha; subst ha
      exact ⟨.inl ⟨hnew, rfl⟩, fun n f => (feet.none (b := .loc _) hnew f).elim⟩
    · obtain ⟨h0, h1, h2, h3⟩ := hin ha
      exact ⟨h2, fun n f => (H.own.1 a h0 h1).2 n (h3 n f)⟩
  · rw [lkp_cons] at ha hb
    split at ha
    · rename_i e1; subst e1; exact (feet.none (b := .loc _) hnew f).elim
    · split at hb
      · rename_i e2; subst e2; exact (feet.none (b := .loc _) hnew f').elim
      · obtain ⟨h0, h1, _, h3⟩ := hin ha
        obtain ⟨h0', h1', _, h3'⟩ := hin hb
        exact H.own.2 a b h0 h0' n h1 h1' hab (h3 n f) (h3' n f')
theorem CALL.nilCell {f : FuncId} {args : List SV} {K : SV → Hps → Nat → Prop} (i j es : Nat) {row row' : List SV} (hi : lkp i O = some (.box row)) (hr : nilAt nx es j row = some row') (hc : CALL M f args ((nx, .rows es []) :: setK i (.box row') O) (nx + 1) K) : CALL M f args O nx K :=
  CALL.weak (fun η w H => H.nilCell hi hr) hc
/-- An end that tells of blocks by the names that came in. -/
theorem FIN.here {k : Nat} {r rc : SV} {Oc : Hps} {Q : SV → Hps → Nat → Prop} (hk : M.η0.length = k) (hr : r = rc) (hb : below k rc = true) (hbO : belowO k Oc = true) (hO : hereO O Oc) (hQ : Q rc Oc k) : FIN M O nx r Q := by
  have hσ : ∀ j, j < k → fname k [] j = j := fun j hj => by simp [fname, hj]
  refine FIN.keep hk [] (rc := rc) (Oc := Oc) (fun i hi => by cases hi) (by rw [ren_below hσ hb]; exact hr) hb ?_ ?_ hQ
  · intro p hp
    obtain ⟨h1, h2⟩ := belowO_mem hbO p hp
    exact ⟨h1, by rw [hσ _ h1, renH_below hσ h2]; exact hO.at p hp, h2⟩
  · intro j hj j' hj' he
    rwa [hσ j (namesOf_below hbO j hj), hσ j' (namesOf_below hbO j' hj')] at he
/-- A row of which less is told. -/
def Loose (k : Nat) : List SV → List SV → Prop
  | _, [] => True
  | [], _ :: _ => False
  | c :: cs, c' :: cs' => (c' = .any ∨ (c' = c ∧ below k c = true)) ∧ Loose k cs cs'
theorem Loose.get {k : Nat} : ∀ {row row' : List SV}, Loose k row row' → ∀ (j : Nat) (sv : SV), row'[j]? = some sv → ∃ c, row[j]? = some c ∧ (sv = .any ∨ (sv = c ∧ below k c = true))
  | _, [], _, j, sv, h => by simp at h
  | [], _ :: _, h, _, _, _ => h.elim
  | c :: cs, c' :: cs', h, 0, sv, hj => by simp at hj; subst hj; exact ⟨c, rfl, h.1⟩
  | c :: cs, c' :: cs', h, j + 1, sv, hj => by simp at hj; obtain ⟨d, h1, h2⟩ := Loose.get h.2 j sv hj; exact ⟨d, by simpa using h1, h2⟩
/-- An end with a plain value and one box, of which less is told. -/
theorem FIN.loose {k : Nat} {r : SV} {Q : SV → Hps → Nat → Prop} (hk : M.η0.length = k) (i : Nat) (row' : List SV) {row : List SV} (hr : plain r = true) (hO : lkp i O = some (.box row)) (hi : Nat.blt i k = true) (hl : Loose k row row') (hQ : Q r [(i, .box row')] k) : FIN M O nx r Q := by
  refine ⟨fun η w v H hd => ⟨r, [(i, .box row')], k, M.η0, hQ, List.prefix_rfl, ?_, ?_⟩⟩
  · have hi : i < k := by simpa [Nat.blt_eq] using hi
    have hget : ∀ j, j < k → η[j]? = M.η0[j]? := fun j hj => by
      obtain ⟨t, ht⟩ := H.pre
      rw [← ht, List.getElem?_append_left (by omega)]
    have hb : Bwd η M.η0 id k := fun j x hj hx => by rw [← hget j hj]; exact hx
    have hsat : HpSat M.η0 w true (.loc i) (.box row') := by
      have := (H.own.1 i _ hO).1
      simp only [HpSat] at this ⊢
      obtain ⟨e, arr, T, fz, h1, h2, h3, h4⟩ := this
      refine ⟨e, arr, T, fz, by simp only [Env.get] at h1 ⊢; rw [← hget i hi]; exact h1, h2, h3, fun j sv hj => ?_⟩
      obtain ⟨c, h5, h6⟩ := hl.get j sv hj
      obtain ⟨u, h7, h8, h9⟩ := h4 j c h5
      refine ⟨u, h7, h8, ?_⟩
      rcases h6 with rfl | ⟨rfl, h6⟩
      · simp only [Den]
      · exact Den.unren hb h6 (by rw [ren_id (σ := id) (fun _ => rfl)]; exact h9)
    refine ⟨List.prefix_rfl, hk, ⟨fun j h hj => ?_, fun a b h h' n ha hb' hab => ?_⟩, H.fr, H.sok⟩
    · rw [lkp_cons] at hj
      split at hj
      · rename_i e; subst e; injection hj with hj; subst hj
        exact ⟨hsat, fun n f => (H.own.1 _ _ hO).2 n ((show feet M.η0 w (.loc _) (.box row) n from f).mono H.pre)⟩
      · simp [lkp] at hj
    · rw [lkp_cons] at ha hb'
      split at ha
      · split at hb'
        · rename_i e1 e2; exact (hab (e1.trans e2.symm)).elim
        · simp [lkp] at hb'
      · simp [lkp] at ha
  · have hb : Bwd η M.η0 (fun i => i) 0 := fun i x hi => by omega
    exact Den.unren hb (plain_below 0 hr) (by rw [ren_plain _ hr]; exact hd)
/-- An end whose tuple's head is not told of. -/
theorem FIN.anyT {k : Nat} {r x : SV} {vs : List SV} {Q : SV → Hps → Nat → Prop} (hk : M.η0.length = k) (hr : r = .tup (x :: vs)) (hv : plainL vs = true) (hQ : Q (.tup (.any :: vs)) [] k) : FIN M O nx r Q := by
  refine ⟨fun η w v H hd => ⟨.tup (.any :: vs), [], k, M.η0, hQ, List.prefix_rfl, ⟨List.prefix_rfl, hk, ⟨fun i h hi => by simp [lkp] at hi, fun i j h h' n hi => by simp [lkp] at hi⟩, H.fr, H.sok⟩, ?_⟩⟩
  rw [hr] at hd
  simp only [Den, DenL] at hd ⊢
  obtain ⟨us, h1, u, us', h2, h3, h4⟩ := hd
  refine ⟨us, h1, u, us', h2, trivial, ?_⟩
  have hb : Bwd η M.η0 (fun i => i) 0 := fun i x hi => by omega
  exact DenL.unren hb (plainL_below 0 hv) (by rw [renL_plain _ hv]; exact h4)
def anyN : Nat → List SV
  | 0 => []
  | n + 1 => .any :: anyN n
theorem denL_any {η η' : Env} : ∀ {cs : List SV} {vs : List Value}, DenL η cs vs → DenL η' (anyN cs.length) vs
  | [], vs, h => by simpa [DenL, anyN] using h
  | c :: cs, vs, h => by
    simp only [DenL, anyN, List.length_cons] at h ⊢
    obtain ⟨u, us, rfl, _, h⟩ := h
    exact ⟨u, us, rfl, by simp only [Den], denL_any h⟩
/-- An end whose tuple's head is a struct of which nothing is told. -/
theorem FIN.anyA (n : Nat) {k : Nat} {r : SV} {cs vs : List SV} {Q : SV → Hps → Nat → Prop} (hk : M.η0.length = k) (hr : r = .tup (.agg cs :: vs)) (hn : lenIs cs n = true) (hv : plainL vs = true) (hQ : Q (.tup (.agg (anyN n) :: vs)) [] k) : FIN M O nx r Q := by
  have hn : cs.length = n := by
    clear hr hQ
    induction n generalizing cs with
    | zero => cases cs with
      | nil => rfl
      | cons a l => simp [lenIs] at hn
    | succ n ih => cases cs with
      | nil => simp [lenIs] at hn
      | cons a l => simp only [lenIs] at hn; simp [ih hn]
  refine ⟨fun η w v H hd => ⟨.tup (.agg (anyN n) :: vs), [], k, M.η0, hQ, List.prefix_rfl, ⟨List.prefix_rfl, hk, ⟨fun i h hi => by simp [lkp] at hi, fun i j h h' n hi => by simp [lkp] at hi⟩, H.fr, H.sok⟩, ?_⟩⟩
  rw [hr] at hd
  simp only [Den, DenL] at hd ⊢
  obtain ⟨us, h1, u, us', h2, ⟨xs, h5, h6, h7⟩, h4⟩ := hd
  refine ⟨us, h1, u, us', h2, ⟨xs, h5, by rw [← hn]; exact denL_any h6, h7⟩, ?_⟩
  have hb : Bwd η M.η0 (fun i => i) 0 := fun i x hi => by omega
  exact DenL.unren hb (plainL_below 0 hv) (by rw [renL_plain _ hv]; exact h4)
end Go.Sx
/- Words of 32 bits in the walk, turned; start and keys. Conditions: none. -/
set_option linter.unusedVariables false
set_option linter.unusedSimpArgs false
set_option maxRecDepth 20000
namespace Go.Proofs.YtjgjfeicenkceaaDoor
open Go.Sx Go.Our
def plSha10 : Plan := (planOf [(0, 1), (1, 1), (2, 1), (3, 1), (4, 1), (5, 1), (6, 1), (7, 1), (8, 1)])
theorem wrap32 {a : Int} (h1 : -2147483648 ≤ a) (h2 : a ≤ 2147483647) : IntKind.i32.wrap a = a := IntWalk.i32_in _ ⟨by omega, by omega⟩
theorem ofNat32 (a : BitVec 32) : BitVec.ofInt 32 (a.toNat : Int) = a := by rw [BitVec.ofInt_natCast]; simp
theorem wrapN32 (a : Nat) (h : a < 4294967296) : IntKind.u32.wrap (a : Int) = (a : Int) := by rw [IntKind.wrap_u32']; omega
theorem uwXor (a b : BitVec 32) : iXor .u32 (Uw a) (Uw b) = Uw (a ^^^ b) := by
  show IntKind.u32.wrap ((BitVec.ofInt 32 (a.toNat : Int) ^^^ BitVec.ofInt 32 (b.toNat : Int)).toNat : Int) = _
  rw [ofNat32, ofNat32]; exact wrapN32 _ (a ^^^ b).isLt
theorem uwAnd (a b : BitVec 32) : iAnd .u32 (Uw a) (Uw b) = Uw (a &&& b) := by
  show IntKind.u32.wrap ((BitVec.ofInt 32 (a.toNat : Int) &&& BitVec.ofInt 32 (b.toNat : Int)).toNat : Int) = _
  rw [ofNat32, ofNat32]; exact wrapN32 _ (a &&& b).isLt
theorem uwOr (a b : BitVec 32) : iOr .u32 (Uw a) (Uw b) = Uw (a ||| b) := by
  show IntKind.u32.wrap ((BitVec.ofInt 32 (a.toNat : Int) ||| BitVec.ofInt 32 (b.toNat : Int)).toNat : Int) = _
  rw [ofNat32, ofNat32]; exact wrapN32 _ (a ||| b).isLt
theorem uwNot (a : BitVec 32) : iXor .u32 (bif IntKind.u32.signed then -1 else IntKind.u32.max) (Uw a) = Uw (~~~a) := by
  have h : (bif IntKind.u32.signed then -1 else IntKind.u32.max) = Uw (BitVec.allOnes 32) := by decide
  rw [h, uwXor, BitVec.xor_comm, BitVec.xor_allOnes]
theorem uwAdd (a b : BitVec 32) : IntKind.u32.wrap (Uw a + Uw b) = Uw (a + b) := by
  unfold Uw
  rw [BitVec.toNat_add, IntKind.wrap_u32', ← Int.natCast_add]
  rfl
theorem uwShr (a : BitVec 32) (n : Int) (h : 0 ≤ n ∧ n ≤ 32) : iShr .u32 (Uw a) n = Uw (a >>> n.toNat) := by
  obtain ⟨m, rfl⟩ := Int.eq_ofNat_of_zero_le h.1
  unfold iShr Uw
  rw [Int.toNat_natCast, Nat.min_eq_left (by show m ≤ 32; omega), show (2 : Int) ^ m = ((2 ^ m : Nat) : Int) by norm_cast, Int.fdiv_eq_ediv_of_nonneg _ (Int.natCast_nonneg _)]
  simp only [BitVec.toNat_ushiftRight, Nat.shiftRight_eq_div_pow]
  norm_cast
theorem uwShl (a : BitVec 32) (n : Int) (h : 0 ≤ n ∧ n ≤ 32) : iShl .u32 (Uw a) n = Uw (a <<< n.toNat) := by
  obtain ⟨m, rfl⟩ := Int.eq_ofNat_of_zero_le h.1
  unfold iShl Uw
  rw [Int.toNat_natCast, Nat.min_eq_left (by show m ≤ 32; omega), show (2 : Int) ^ m = ((2 ^ m : Nat) : Int) by norm_cast, IntKind.wrap_u32']
  rw [BitVec.toNat_shiftLeft, Nat.shiftLeft_eq, ← Int.natCast_mul]
  rfl
theorem uwByte (c : UInt8) : IntKind.u32.wrap (c.toNat : Int) = Uw (BitVec.ofNat 32 c.toNat) := by
  have : c.toNat < 256 := c.toBitVec.isLt
  unfold Uw
  rw [wrapN32 _ (by omega), BitVec.toNat_ofNat, Nat.mod_eq_of_lt (by omega)]
theorem uwLit0 : (0 : Int) = Uw 0 := rfl
def w32 (x : BitVec 32) : List SV := [.int .u32 (Uw x)]
def cells8 (s : S8) : List SV := [.int .u32 (Uw s.a), .int .u32 (Uw s.b), .int .u32 (Uw s.c), .int .u32 (Uw s.d), .int .u32 (Uw s.e), .int .u32 (Uw s.f), .int .u32 (Uw s.g), .int .u32 (Uw s.h)]
def rows8 (s : S8) : List (List SV) := [[.int .u32 (Uw s.a)], [.int .u32 (Uw s.b)], [.int .u32 (Uw s.c)], [.int .u32 (Uw s.d)], [.int .u32 (Uw s.e)], [.int .u32 (Uw s.f)], [.int .u32 (Uw s.g)], [.int .u32 (Uw s.h)]]
theorem plainWs (l : List (BitVec 32)) : plainLL (l.map w32) = true := plainLL_map _ (fun _ => rfl) l
theorem and31 : ∀ n : Fin 32, 0 < n.val → iAnd .u64 (IntKind.u64.wrap (IntKind.i64.wrap (0 - (n.val : Int)))) 31 = ((32 - n.val : Nat) : Int) := by decide
theorem right_does (x : BitVec 32) (n : Int) (hn : 0 < n ∧ n < 32) : Does Tryd.prog tab 37 0 [.int .u32 (Uw x), .int .i64 n] [] [] (Val (.int .u32 (Uw (rotr x n.toNat)))) := by
  have h1 : iAnd .u64 (IntKind.u64.wrap (IntKind.i64.wrap (0 - n))) 31 = 32 - n := by
    have := and31 ⟨n.toNat, by omega⟩ (by show 0 < n.toNat; omega)
    simp only at this
    rw [show ((n.toNat : Nat) : Int) = n by omega] at this
    rw [this]; omega
  have h2 : IntKind.u64.wrap (32 - (32 - n)) = n := by rw [IntWalk.u64_in _ ⟨by omega, by omega⟩]; omega
  have hr : Does Tryd.prog tab 38 0 [.int .u32 (Uw x), .int .i64 (IntKind.i64.wrap (0 - n))] [] [] (Val (.int .u32 (Uw (rotr x n.toNat)))) := by
    refine Does.enter tabOK (g := 38) (fn := Tryd.f38) Tryd.call38 Tryd.func38 rfl 17 rfl rfl [.tmp 4] rfl ?_
    intro w0 F η0 h0
    conv => whnf
    rw [h1]
    repeat' ((first | with_reducible refine IF.tt ?_ | with_reducible refine IF.ff ?_ | (rw [h2]; conv => whnf) | ((with_reducible refine NEED.mk ?_ ?_); (first | with_reducible rfl | omega | (simp (disch := omega) only [lnB, wrap64, wrap32] <;> omega) | (intro h; (try simp (disch := omega) only [hsB, hsC, lnB, wrap64, wrap32, simprocAttr] at h); (first | omega | (simp (disch := omega) only [lnB, wrap64, wrap32] <;> omega))) | (exact needApp 256 rfl rfl (by simp) (by simp) (by omega)) | (simp <;> omega))) | ((with_reducible apply GET.at); rfl) | ((with_reducible apply GETG.at); rfl) | ((with_reducible refine UNK.mk (fun h => ?_) ?_) <;> try (exfalso; omega)) | ((with_reducible refine IF.mk (fun h => ?_) (fun h => ?_)) <;> (try simp (disch := omega) only [hsB, hsC, lnB, wrap64, wrap32, simprocAttr] at h) <;> try (exfalso; omega))) <;> conv => whnf)
    refine FIN.value h0 rfl (congrArg (SV.int _) ?_)
    rw [uwShl _ _ ⟨by omega, by omega⟩, uwShr _ _ ⟨by omega, by omega⟩, uwOr, BitVec.or_comm]
    unfold rotr
    rw [show (32 - n).toNat = 32 - n.toNat by omega]
  refine Does.enter tabOK (g := 37) (fn := Tryd.f37) Tryd.call37 Tryd.func37 rfl 9 rfl rfl [.tmp 4] rfl ?_
  intro w0 F η0 h0
  conv => whnf
  repeat' ((first | with_reducible refine IF.tt ?_ | with_reducible refine IF.ff ?_ | refine CALL.value (hr) rfl rfl ?_ | ((with_reducible refine NEED.mk ?_ ?_); (first | with_reducible rfl | omega | (simp (disch := omega) only [lnB, wrap64, wrap32] <;> omega) | (intro h; (try simp (disch := omega) only [hsB, hsC, lnB, wrap64, wrap32, simprocAttr] at h); (first | omega | (simp (disch := omega) only [lnB, wrap64, wrap32] <;> omega))) | (exact needApp 256 rfl rfl (by simp) (by simp) (by omega)) | (simp <;> omega))) | ((with_reducible apply GET.at); rfl) | ((with_reducible apply GETG.at); rfl) | ((with_reducible refine UNK.mk (fun h => ?_) ?_) <;> try (exfalso; omega)) | ((with_reducible refine IF.mk (fun h => ?_) (fun h => ?_)) <;> (try simp (disch := omega) only [hsB, hsC, lnB, wrap64, wrap32, simprocAttr] at h) <;> try (exfalso; omega))) <;> conv => whnf)
  exact FIN.value h0 rfl rfl
theorem turned_does (x : BitVec 32) (n : Int) (hn : 0 < n ∧ n < 32) : Does Tryd.prog tab 36 0 [.int .u32 (Uw x), .int .i64 n] [] [] (Val (.int .u32 (Uw (rotr x n.toNat)))) := by
  have h2 : IntKind.i64.wrap (32 - n) = 32 - n := by rw [wrap64 (by omega) (by omega)]
  refine Does.enter tabOK (g := 36) (fn := Tryd.f36) Tryd.call36 Tryd.func36 rfl 13 rfl rfl [.tmp 4] rfl ?_
  intro w0 F η0 h0
  conv => whnf
  repeat' ((first | with_reducible refine IF.tt ?_ | with_reducible refine IF.ff ?_ | refine DRAWN.of (id := 1) tabOK mixed plSha10 (by kernel_rfl) ?_ | with_reducible refine ADD.mk (fun _ _ => ?_) | with_reducible refine NEED.mk (Det.of rfl) ?_ | with_reducible refine FORK.mk ?_ ?_ | ((with_reducible refine NEED.mk ?_ ?_); (first | with_reducible rfl | omega | (simp (disch := omega) only [lnB, wrap64, wrap32] <;> omega) | (intro h; (try simp (disch := omega) only [hsB, hsC, lnB, wrap64, wrap32, simprocAttr] at h); (first | omega | (simp (disch := omega) only [lnB, wrap64, wrap32] <;> omega))) | (exact needApp 256 rfl rfl (by simp) (by simp) (by omega)) | (simp <;> omega))) | ((with_reducible apply GET.at); rfl) | ((with_reducible apply GETG.at); rfl) | ((with_reducible refine UNK.mk (fun h => ?_) ?_) <;> try (exfalso; omega)) | ((with_reducible refine IF.mk (fun h => ?_) (fun h => ?_)) <;> (try simp (disch := omega) only [hsB, hsC, lnB, wrap64, wrap32, simprocAttr] at h) <;> try (exfalso; omega))) <;> conv => whnf)
  refine FIN.value h0 rfl (congrArg (SV.int _) ?_)
  rw [h2, uwShl _ _ ⟨by omega, by omega⟩, uwShr _ _ ⟨by omega, by omega⟩, uwOr]
  unfold rotr
  rw [show (32 - n).toNat = 32 - n.toNat by omega]
end Go.Proofs.YtjgjfeicenkceaaDoor
/- One block, by the program. Conditions: none. -/
set_option linter.unusedVariables false
set_option linter.unusedSimpArgs false
set_option maxRecDepth 20000
namespace Go.Proofs.YtjgjfeicenkceaaDoor
open Go.Sx Go.Our
def plSha20 : Plan := (planOf [(0, 1), (1, 1), (2, 1), (4, 1), (5, 1), (6, 1), (3, 2), (8, 1), (7, 2), (9, 1)])
def plSha21 : Plan := (planOf [(0, 1), (1, 1), (3, 1), (6, 1), (7, 1), (9, 1), (10, 1), (11, 1), (14, 1), (16, 1), (19, 1), (20, 1), (23, 1), (24, 1), (25, 1), (12, 2), (26, 2), (2, 3), (4, 3), (5, 1), (8, 1), (13, 1), (15, 3), (17, 3), (18, 1), (21, 1), (22, 1), (27, 1), (28, 1), (29, 0)])
def plSha22 : Plan := (planOf [(0, 1), (2, 1), (1, 2), (4, 1), (3, 2), (5, 1)])
def plSha23 : Plan := (planOf [(0, 1), (2, 1), (4, 1), (7, 1), (11, 1), (12, 1), (15, 1), (16, 1), (17, 1), (22, 1), (23, 1), (26, 1), (27, 1), (1, 2), (13, 2), (14, 1), (18, 2), (19, 1), (20, 1), (24, 2), (28, 2), (3, 3), (5, 3), (6, 1), (8, 3), (9, 1), (10, 1), (21, 1), (25, 1), (29, 1), (30, 1)])
def plSha24 : Plan := (planOf [(0, 1), (2, 1), (5, 1), (8, 1), (9, 1), (12, 1), (13, 1), (17, 1), (19, 1), (10, 2), (11, 1), (14, 2), (15, 1), (16, 1), (18, 2), (20, 2), (21, 1), (22, 1), (1, 3), (3, 3), (4, 1), (6, 3), (7, 1), (23, 1), (24, 1)])
def plSha25 : Plan := (planOf [(0, 1), (1, 1), (3, 1), (4, 1), (2, 2), (5, 2), (6, 1), (7, 1), (8, 0)])
theorem uwShl8 (a : BitVec 32) : iShl .u32 (Uw a) 8 = Uw (a <<< 8) := uwShl a 8 (by decide)
theorem uwShr10 (a : BitVec 32) : iShr .u32 (Uw a) 10 = Uw (a >>> 10) := uwShr a 10 (by decide)
theorem uwShr3 (a : BitVec 32) : iShr .u32 (Uw a) 3 = Uw (a >>> 3) := uwShr a 3 (by decide)
theorem den_arrAgg {η : Env} {es : Nat} {rs : List (List SV)} {v : Value} (h : Den η (.arr es rs) v) : Den η (.agg rs.flatten) v := by
  simp only [Den] at h ⊢
  obtain ⟨vs, h1, h2, h3⟩ := h
  exact ⟨vs, h1, denLL_flat h2, h3⟩
theorem FIN.arrAgg {M : Mx} {O : Hps} {nx k es : Nat} {rs : List (List SV)} {Q : SV → Hps → Nat → Prop} (hk : M.η0.length = k) (hp : plainL rs.flatten = true) (hQ : Q (.agg rs.flatten) [] k) : FIN M O nx (.arr es rs) Q :=
  ⟨fun η w v H hd => (FIN.val (r := .agg rs.flatten) hk hp hQ).out η w v H (den_arrAgg hd)⟩
def L8 (s : S8) : List (BitVec 32) := [s.a, s.b, s.c, s.d, s.e, s.f, s.g, s.h]
def part8 (s v : S8) (i : Nat) : List (BitVec 32) := (L8 (add8 s v)).take i ++ (L8 s).drop i
theorem part8_len {s v : S8} {i : Nat} (h : i ≤ 8) : (part8 s v i).length = 8 := by simp [part8, L8]; omega
theorem part8_get (s v : S8) {i : Nat} (h : i < 8) : (part8 s v i).getD i 0 = (L8 s).getD i 0 := by
  match i, h with
  | 0, _ => rfl
  | 1, _ => rfl
  | 2, _ => rfl
  | 3, _ => rfl
  | 4, _ => rfl
  | 5, _ => rfl
  | 6, _ => rfl
  | 7, _ => rfl
theorem part8_set (s v : S8) {i : Nat} (h : i < 8) : (part8 s v i).set i ((L8 s).getD i 0 + (L8 v).getD i 0) = part8 s v (i + 1) := by
  match i, h with
  | 0, _ => rfl
  | 1, _ => rfl
  | 2, _ => rfl
  | 3, _ => rfl
  | 4, _ => rfl
  | 5, _ => rfl
  | 6, _ => rfl
  | 7, _ => rfl
def z8 : List (List SV) := [[.int .u32 0], [.int .u32 0], [.int .u32 0], [.int .u32 0], [.int .u32 0], [.int .u32 0], [.int .u32 0], [.int .u32 0]]
theorem bytes_at {b : List UInt8} {i : Nat} (h : i < b.length) : (b.map Sx.bytesRow)[i]? = some (Sx.bytesRow (b.getD i 0)) := by
  simp [List.getD_eq_getElem?_getD, List.getElem?_eq_getElem h]
theorem ws_at {ws : List (BitVec 32)} {i : Nat} (h : i < ws.length) : (ws.map w32)[i]? = some (w32 (ws.getD i 0)) := by
  simp [List.getD_eq_getElem?_getD, List.getElem?_eq_getElem h]
theorem bw_drop (b : List UInt8) (r i : Nat) : bw (b.drop r) i = BitVec.ofNat 32 (b.getD (r + i) 0).toNat := by
  unfold bw; rw [List.getD_eq_getElem?_getD, List.getElem?_drop, List.getD_eq_getElem?_getD]
theorem ws_set (ws : List (BitVec 32)) (i : Nat) (x : BitVec 32) : (ws.map w32).set i [.int .u32 (Uw x)] = (ws.set i x).map w32 := by rw [List.map_set]; rfl
theorem warr_set0 (b : List UInt8) {t : Nat} (ht : t < 64) : (warr b t).set t 0 = warr b t := by
  unfold warr
  rw [List.set_append_right _ _ (by rw [sched_len]; exact Nat.le_refl _), sched_len, Nat.sub_self, show 64 - t = (64 - (t + 1)) + 1 by omega, List.replicate_succ, List.set_cons_zero]
theorem warr_getD (b : List UInt8) {t i : Nat} (h : i < t) (ht : t ≤ 64) : (warr b t).getD i 0 = (sched b t).getD i 0 := by
  rw [List.getD_eq_getElem?_getD, warr_get b h ht]; rfl
set_option maxHeartbeats 4000000 in
theorem block_does (s : S8) (b : List UInt8) (r n : Nat) (hr : r + n ≤ b.length) (hn : 64 ≤ n) (hb : b.length ≤ 140737488355328) : Does Tryd.prog tab 32 1 [.agg (cells8 s), .sl (.loc 0) r 1 n none] [] [(0, .rows 1 (b.map Sx.bytesRow))] (ValK 1 (.agg (cells8 (blockM s (b.drop r))))) := by
  refine Does.enter tabOK (g := 32) (fn := Tryd.f32) Tryd.call32 Tryd.func32 rfl 179 rfl rfl [.cell 4 54] rfl ?_
  intro w0 F η0 h0
  conv => whnf
  repeat' ((first | with_reducible refine IF.tt ?_ | with_reducible refine IF.ff ?_ | ((with_reducible refine NEED.mk ?_ ?_); (first | with_reducible rfl | omega | (simp (disch := omega) only [lnB, wrap64, wrap32] <;> omega) | (intro h; (try simp (disch := omega) only [hsB, hsC, lnB, wrap64, wrap32, simprocAttr] at h); (first | omega | (simp (disch := omega) only [lnB, wrap64, wrap32] <;> omega))) | (exact needApp 256 rfl rfl (by simp) (by simp) (by omega)) | (simp <;> omega))) | ((with_reducible apply GET.at); rfl) | ((with_reducible apply GETG.at); rfl) | ((with_reducible refine UNK.mk (fun h => ?_) ?_) <;> try (exfalso; omega)) | ((with_reducible refine IF.mk (fun h => ?_) (fun h => ?_)) <;> (try simp (disch := omega) only [hsB, hsC, lnB, wrap64, wrap32, simprocAttr] at h) <;> try (exfalso; omega))) <;> conv => whnf)
  refine LOOP.go tabOK [1, 2, 4, 5] (X := Nat × List (BitVec 32)) (fun x => x.1 ≤ 64 ∧ x.2 = warr (b.drop r) x.1) (fun x => [(18, .int .i64 (x.1 : Int))]) (fun x => [(1, .rows 1 (rows8 s)), (2, .rows 1 z8), (3, .rows 1 (x.2.map w32))]) 4 (fun x => 64 - x.1) (0, warr (b.drop r) 0) ⟨by simp, rfl⟩ ?_
  conv => whnf
  refine ⟨by (refine GOES.cutting h0 rfl rfl rfl (by first | rfl | simp [belowO, belowH, plainLL_below, plainLL_map, plainL, plain]) ?_ ?_ <;> (repeat' (first | (exact congrArg (Hp.rows _) rfl) | (with_reducible rfl) | (exact congrArg (fun n => SV.sl _ _ _ n _) (by simp)) | (exact congrArg (Hp.rows _) (by simp)) | (exact congrArg (SV.int _) (by first | omega | (simp (disch := omega) only [lnB, wrap64, wrap32] <;> omega) | (simp; done) | (simp <;> omega))) | ((conv => whnf); refine ⟨?_, ?_⟩) | exact trivial | (simp; done) | rfl))), ?_⟩
  rintro ⟨t, ws⟩ ⟨ht, hws⟩
  dsimp only at ht hws ⊢
  have hwl : ws.length = 64 := by rw [hws, warr_len _ ht]
  conv => whnf
  refine IF.mk (fun h => ?_) (fun h => ?_)
  · have h : t < 64 := by simp at h; omega
    conv => whnf
    refine IF.mk (fun h1 => ?_) (fun h1 => ?_)
    · have h1 : t < 16 := by simp at h1; omega
      have hw4 : IntKind.i64.wrap (4 * (t : Int)) = ((4 * t : Nat) : Int) := by rw [wrap64 (by omega) (by omega)]; omega
      have hw5 : IntKind.i64.wrap (((4 * t : Nat) : Int) + 4) = ((4 * t + 4 : Nat) : Int) := by rw [wrap64 (by omega) (by omega)]; omega
      conv => whnf
      rw [hw4, hw5]
      refine NEED.mk ⟨by omega, by omega, by show _ ≤ ((n : Nat) : Int); omega⟩ ?_
      rw [show ((4 * t + 4 : Nat) : Int).toNat - ((4 * t : Nat) : Int).toNat = 4 by omega, show ((4 * t : Nat) : Int).toNat = 4 * t by omega]
      conv => whnf
      refine LOOP.go tabOK [1, 2, 4, 5, 6, 18, 29, 30] (X := Nat × List (BitVec 32)) (fun x => x.1 ≤ 4 ∧ x.2 = ws.set t (pw (b.drop r) t x.1)) (fun x => [(31, .int .i64 (x.1 : Int))]) (fun x => [(1, .rows 1 (rows8 s)), (2, .rows 1 z8), (3, .rows 1 (x.2.map w32))]) 4 (fun x => 4 - x.1) (0, ws) ⟨by simp, by rw [hws]; exact (warr_set0 _ h).symm⟩ ?_
      conv => whnf
      refine ⟨by (refine GOES.cutting h0 rfl rfl rfl (by first | rfl | (simp only [belowO, belowH, plainLL_below _ (plainWs _), Bool.and_self, Bool.and_true] <;> rfl)) ?_ ?_ <;> (repeat' (first | (with_reducible rfl) | (exact congrArg (SV.int _) (by first | omega | (simp (disch := omega) only [lnB, wrap64, wrap32] <;> omega) | (simp; done) | (simp <;> omega))) | (exact congrArg (Hp.rows _) (by rfl)) | ((conv => whnf); refine ⟨?_, ?_⟩) | exact trivial | rfl))), ?_⟩
      rintro ⟨j, vs⟩ ⟨hj, hvs⟩
      dsimp only at hj hvs ⊢
      conv => whnf
      refine IF.mk (fun h2 => ?_) (fun h2 => ?_)
      · have h2 : j < 4 := by simp at h2; omega
        have hvl : vs.length = 64 := by rw [hvs, List.length_set, hwl]
        have hvt : vs.getD t 0 = pw (b.drop r) t j := by rw [hvs, List.getD_eq_getElem?_getD, List.getElem?_set_self (by omega)]; rfl
        conv => whnf
        repeat' ((first | with_reducible refine IF.tt ?_ | with_reducible refine IF.ff ?_ | (refine GET.at (row := Sx.bytesRow (b.getD (r + (4 * t + j)) 0)) (by rw [show r + 4 * t + (j : Int).toNat = r + (4 * t + j) by omega]; exact bytes_at (by omega)) ?_; conv => whnf) | (refine GET.at (row := w32 (vs.getD t 0)) (by rw [show (t : Int).toNat = t by omega]; exact ws_at (by omega)) ?_; conv => whnf) | ((with_reducible refine NEED.mk ?_ ?_); (first | with_reducible rfl | omega | (simp (disch := omega) only [lnB, wrap64, wrap32] <;> omega) | (intro h; (try simp (disch := omega) only [hsB, hsC, lnB, wrap64, wrap32, simprocAttr] at h); (first | omega | (simp (disch := omega) only [lnB, wrap64, wrap32] <;> omega))) | (exact needApp 256 rfl rfl (by simp) (by simp) (by omega)) | (simp <;> omega))) | ((with_reducible apply GET.at); rfl) | ((with_reducible apply GETG.at); rfl) | ((with_reducible refine UNK.mk (fun h => ?_) ?_) <;> try (exfalso; omega)) | ((with_reducible refine IF.mk (fun h => ?_) (fun h => ?_)) <;> (try simp (disch := omega) only [hsB, hsC, lnB, wrap64, wrap32, simprocAttr] at h) <;> try (exfalso; omega))) <;> conv => whnf)
        refine ⟨(j + 1, vs.set t (pw (b.drop r) t (j + 1))), ⟨by simp only; omega, by simp only [hvs, List.set_set]⟩, by simp only; omega, ?_⟩
        dsimp only
        conv => whnf
        (refine GOES.cutting h0 rfl rfl rfl (by first | rfl | (simp only [belowO, belowH, plainLL_below _ (plainWs _), Bool.and_self, Bool.and_true] <;> rfl)) ?_ ?_ <;> (repeat' (first | (with_reducible rfl) | (exact congrArg (SV.int _) (by first | omega | (simp (disch := omega) only [lnB, wrap64, wrap32] <;> omega) | (simp; done) | (simp <;> omega))) | (exact congrArg (Hp.rows _) (by (rw [uwByte, uwShl8, uwOr, ws_set, hvt]; simp only [pw, bw_drop]; rfl))) | ((conv => whnf); refine ⟨?_, ?_⟩) | exact trivial | rfl)))
      · have h2 : j = 4 := by simp at h2; omega
        subst h2
        conv => whnf
        refine ⟨(t + 1, warr (b.drop r) (t + 1)), ⟨by simp only; omega, rfl⟩, by simp only; omega, ?_⟩
        dsimp only
        conv => whnf
        (refine GOES.cutting h0 rfl rfl rfl (by first | rfl | (simp only [belowO, belowH, plainLL_below _ (plainWs _), Bool.and_self, Bool.and_true] <;> rfl)) ?_ ?_ <;> (repeat' (first | (with_reducible rfl) | (exact congrArg (SV.int _) (by first | omega | (simp (disch := omega) only [lnB, wrap64, wrap32] <;> omega) | (simp; done) | (simp <;> omega))) | (exact congrArg (Hp.rows _) (by (rw [hvs, hws]; exact congrArg (List.map w32) (warr_set _ h _ (by unfold wordAt; rw [if_pos h1, pw4]))))) | ((conv => whnf); refine ⟨?_, ?_⟩) | exact trivial | rfl)))
    · have h1 : 16 ≤ t := by simp at h1; omega
      have hg : ∀ i, i < t → (ws.map w32)[i]? = some (w32 ((sched (b.drop r) t).getD i 0)) := fun i hi => by rw [ws_at (by omega), hws, warr_getD _ hi ht]
      have htn : ((t : Nat) : Int).toNat = t := by omega
      have hfin : ∀ X, X = wordAt (b.drop r) (sched (b.drop r) t) t → (ws.map w32).set t [.int .u32 (Uw X)] = (warr (b.drop r) (t + 1)).map w32 := fun X hX => by rw [ws_set, hws, warr_set _ h X hX]
      have h15 : (IntKind.i64.wrap ((t : Int) - 15)).toNat = t - 15 := by rw [wrap64 (by omega) (by omega)]; omega
      have h2 : (IntKind.i64.wrap ((t : Int) - 2)).toNat = t - 2 := by rw [wrap64 (by omega) (by omega)]; omega
      have h7 : (IntKind.i64.wrap ((t : Int) - 7)).toNat = t - 7 := by rw [wrap64 (by omega) (by omega)]; omega
      have h16 : (IntKind.i64.wrap ((t : Int) - 16)).toNat = t - 16 := by rw [wrap64 (by omega) (by omega)]; omega
      conv => whnf
      repeat' ((first | with_reducible refine IF.tt ?_ | with_reducible refine IF.ff ?_ | refine DRAWN.of (id := 11) tabOK mixed plSha20 (by kernel_rfl) ?_ | refine DRAWN.of (id := 12) tabOK mixed plSha21 (by kernel_rfl) ?_ | refine DRAWN.of (id := 18) tabOK mixed plSha22 (by kernel_rfl) ?_ | refine DRAWN.of (id := 19) tabOK mixed plSha23 (by kernel_rfl) ?_ | refine DRAWN.of (id := 20) tabOK mixed plSha24 (by kernel_rfl) ?_ | refine DRAWN.of (id := 26) tabOK mixed plSha25 (by kernel_rfl) ?_ | with_reducible refine ADD.mk (fun _ _ => ?_) | with_reducible refine NEED.mk (Det.of rfl) ?_ | with_reducible refine FORK.mk ?_ ?_ | refine CALL.value (right_does _ _ (by decide)) rfl rfl ?_ | (refine GET.at (row := w32 ((sched (b.drop r) t).getD (t - 15) 0)) (by rw [h15]; exact hg _ (by omega)) ?_; conv => whnf) | (refine GET.at (row := w32 ((sched (b.drop r) t).getD (t - 2) 0)) (by rw [h2]; exact hg _ (by omega)) ?_; conv => whnf) | (refine GET.at (row := w32 ((sched (b.drop r) t).getD (t - 7) 0)) (by rw [h7]; exact hg _ (by omega)) ?_; conv => whnf) | (refine GET.at (row := w32 ((sched (b.drop r) t).getD (t - 16) 0)) (by rw [h16]; exact hg _ (by omega)) ?_; conv => whnf) | (refine GET.at (row := w32 (ws.getD t 0)) (by rw [show (t : Int).toNat = t by omega]; exact ws_at (by omega)) ?_; conv => whnf) | ((with_reducible refine NEED.mk ?_ ?_); (first | with_reducible rfl | omega | (simp (disch := omega) only [lnB, wrap64, wrap32] <;> omega) | (intro h; (try simp (disch := omega) only [hsB, hsC, lnB, wrap64, wrap32, simprocAttr] at h); (first | omega | (simp (disch := omega) only [lnB, wrap64, wrap32] <;> omega))) | (exact needApp 256 rfl rfl (by simp) (by simp) (by omega)) | (simp <;> omega))) | ((with_reducible apply GET.at); rfl) | ((with_reducible apply GETG.at); rfl) | ((with_reducible refine UNK.mk (fun h => ?_) ?_) <;> try (exfalso; omega)) | ((with_reducible refine IF.mk (fun h => ?_) (fun h => ?_)) <;> (try simp (disch := omega) only [hsB, hsC, lnB, wrap64, wrap32, simprocAttr] at h) <;> try (exfalso; omega))) <;> conv => whnf)
      refine ⟨(t + 1, warr (b.drop r) (t + 1)), ⟨by simp only; omega, rfl⟩, by simp only; omega, ?_⟩
      dsimp only
      conv => whnf
      (refine GOES.cutting h0 rfl rfl rfl (by first | rfl | (simp only [belowO, belowH, plainLL_below _ (plainWs _), Bool.and_self, Bool.and_true] <;> rfl)) ?_ ?_ <;> (repeat' (first | (with_reducible rfl) | (exact congrArg (SV.int _) (by first | omega | (simp (disch := omega) only [lnB, wrap64, wrap32] <;> omega) | (simp; done) | (simp <;> omega))) | (exact congrArg (Hp.rows _) (by (simp only [uwShr10, uwShr3, uwXor, uwAdd, Int.reduceToNat, htn]; exact hfin _ (by unfold wordAt; rw [if_neg (by omega)])))) | ((conv => whnf); refine ⟨?_, ?_⟩) | exact trivial | rfl)))
  · have h : t = 64 := by simp at h; omega
    obtain ⟨W, hW⟩ : ∃ W, W = sched (b.drop r) 64 := ⟨_, rfl⟩
    have hwg : ∀ i, i < 64 → (ws.map w32)[i]? = some (w32 (W.getD i 0)) := fun i hi => by rw [ws_at (by omega), hws, warr_getD _ (by omega) ht, hW, h]
    have hkg : ∀ i, i < 64 → roundsRows[i]? = some (w32 (keyL.getD i 0)) := fun i hi => by
      have hk : roundsRows = keyL.map w32 := rfl
      rw [hk]; exact ws_at (by show i < 64; omega)
    unfold blockM
    rw [← hW]
    clear hws hW
    conv => whnf
    repeat' ((first | with_reducible refine IF.tt ?_ | with_reducible refine IF.ff ?_ | (refine NEED.mk (by and_intros <;> (first | rfl | omega)) ?_; conv => whnf) | ((with_reducible refine NEED.mk ?_ ?_); (first | with_reducible rfl | omega | (simp (disch := omega) only [lnB, wrap64, wrap32] <;> omega) | (intro h; (try simp (disch := omega) only [hsB, hsC, lnB, wrap64, wrap32, simprocAttr] at h); (first | omega | (simp (disch := omega) only [lnB, wrap64, wrap32] <;> omega))) | (exact needApp 256 rfl rfl (by simp) (by simp) (by omega)) | (simp <;> omega))) | ((with_reducible apply GET.at); rfl) | ((with_reducible apply GETG.at); rfl) | ((with_reducible refine UNK.mk (fun h => ?_) ?_) <;> try (exfalso; omega)) | ((with_reducible refine IF.mk (fun h => ?_) (fun h => ?_)) <;> (try simp (disch := omega) only [hsB, hsC, lnB, wrap64, wrap32, simprocAttr] at h) <;> try (exfalso; omega))) <;> conv => whnf)
    refine LOOP.go tabOK [2, 4, 5, 11] (X := Nat × S8) (fun x => x.1 ≤ 64 ∧ x.2 = rnds keyL W s x.1) (fun x => [(84, .int .i64 (x.1 : Int))]) (fun x => [(1, .rows 1 (rows8 s)), (2, .rows 1 z8), (3, .rows 1 (ws.map w32)), (4, .rows 1 (rows8 x.2))]) 5 (fun x => 64 - x.1) (0, s) ⟨by simp only; omega, rfl⟩ ?_
    conv => whnf
    refine ⟨by (refine GOES.cutting h0 rfl rfl rfl (by first | rfl | (simp only [belowO, belowH, plainLL_below _ (plainWs _), Bool.and_self, Bool.and_true] <;> rfl)) ?_ ?_ <;> (repeat' (first | (with_reducible rfl) | (exact congrArg (SV.int _) (by first | omega | (simp (disch := omega) only [lnB, wrap64, wrap32] <;> omega) | (simp; done) | (simp <;> omega))) | (exact congrArg (Hp.rows _) (by rfl)) | ((conv => whnf); refine ⟨?_, ?_⟩) | exact trivial | rfl))), ?_⟩
    rintro ⟨i, v⟩ ⟨hi, hv⟩
    dsimp only at hi hv ⊢
    conv => whnf
    refine IF.mk (fun h => ?_) (fun h => ?_)
    · have h : i < 64 := by simp at h; omega
      conv => whnf
      repeat' ((first | with_reducible refine IF.tt ?_ | with_reducible refine IF.ff ?_ | refine DRAWN.of (id := 11) tabOK mixed plSha20 (by kernel_rfl) ?_ | refine DRAWN.of (id := 12) tabOK mixed plSha21 (by kernel_rfl) ?_ | refine DRAWN.of (id := 18) tabOK mixed plSha22 (by kernel_rfl) ?_ | refine DRAWN.of (id := 19) tabOK mixed plSha23 (by kernel_rfl) ?_ | refine DRAWN.of (id := 20) tabOK mixed plSha24 (by kernel_rfl) ?_ | refine DRAWN.of (id := 26) tabOK mixed plSha25 (by kernel_rfl) ?_ | with_reducible refine ADD.mk (fun _ _ => ?_) | with_reducible refine NEED.mk (Det.of rfl) ?_ | with_reducible refine FORK.mk ?_ ?_ | refine CALL.value (right_does _ _ (by decide)) rfl rfl ?_ | (refine NEED.mk (by and_intros <;> (first | rfl | omega)) ?_; conv => whnf) | (refine GET.at (row := w32 (W.getD i 0)) (by rw [show ((i : Nat) : Int).toNat = i by omega]; exact hwg i h) ?_; conv => whnf) | (refine GET.at (row := w32 (keyL.getD i 0)) (by rw [show ((i : Nat) : Int).toNat = i by omega]; exact hkg i h) ?_; conv => whnf) | ((with_reducible refine NEED.mk ?_ ?_); (first | with_reducible rfl | omega | (simp (disch := omega) only [lnB, wrap64, wrap32] <;> omega) | (intro h; (try simp (disch := omega) only [hsB, hsC, lnB, wrap64, wrap32, simprocAttr] at h); (first | omega | (simp (disch := omega) only [lnB, wrap64, wrap32] <;> omega))) | (exact needApp 256 rfl rfl (by simp) (by simp) (by omega)) | (simp <;> omega))) | ((with_reducible apply GET.at); rfl) | ((with_reducible apply GETG.at); rfl) | ((with_reducible refine UNK.mk (fun h => ?_) ?_) <;> try (exfalso; omega)) | ((with_reducible refine IF.mk (fun h => ?_) (fun h => ?_)) <;> (try simp (disch := omega) only [hsB, hsC, lnB, wrap64, wrap32, simprocAttr] at h) <;> try (exfalso; omega))) <;> conv => whnf)
      refine ⟨(i + 1, rnd (keyL.getD i 0) (W.getD i 0) v), ⟨by simp only; omega, by simp only [hv]; rfl⟩, by simp only; omega, ?_⟩
      dsimp only
      conv => whnf
      (refine GOES.cutting h0 rfl rfl rfl (by first | rfl | (simp only [belowO, belowH, plainLL_below _ (plainWs _), Bool.and_self, Bool.and_true] <;> rfl)) ?_ ?_ <;> (repeat' (first | (with_reducible rfl) | (exact congrArg (SV.int _) (by simp (disch := omega) only [lnB, wrap64] <;> omega)) | (exact congrArg (Hp.rows _) (by simp only [uwNot, uwXor, uwAdd, uwAnd, Int.reduceToNat]; rfl)) | ((conv => whnf); refine ⟨?_, ?_⟩) | exact trivial | rfl)))
    · have h : i = 64 := by simp at h; omega
      subst h
      rw [← hv]
      clear hv
      conv => whnf
      refine LOOP.go tabOK [2, 4, 11] (X := Nat × List (BitVec 32)) (fun x => x.1 ≤ 8 ∧ x.2 = part8 s v x.1) (fun x => [(166, .int .i64 (x.1 : Int))]) (fun x => [(1, .rows 1 (x.2.map w32)), (2, .rows 1 z8), (4, .rows 1 ((L8 v).map w32))]) 5 (fun x => 8 - x.1) (0, L8 s) ⟨by simp only; omega, rfl⟩ ?_
      conv => whnf
      refine ⟨by (refine GOES.cutting h0 rfl rfl rfl (by first | rfl | (simp only [belowO, belowH, plainLL_below _ (plainWs _), Bool.and_self, Bool.and_true] <;> rfl)) ?_ ?_ <;> (repeat' (first | (with_reducible rfl) | (exact congrArg (SV.int _) (by first | omega | (simp (disch := omega) only [lnB, wrap64, wrap32] <;> omega) | (simp; done) | (simp <;> omega))) | (exact congrArg (Hp.rows _) (by rfl)) | ((conv => whnf); refine ⟨?_, ?_⟩) | exact trivial | rfl))), ?_⟩
      rintro ⟨i, l⟩ ⟨hi, hl⟩
      dsimp only at hi hl ⊢
      have hll : l.length = 8 := by rw [hl, part8_len hi]
      conv => whnf
      refine IF.mk (fun h => ?_) (fun h => ?_)
      · have h : i < 8 := by simp at h; omega
        have hls : l.getD i 0 = (L8 s).getD i 0 := by rw [hl, part8_get s v h]
        conv => whnf
        repeat' ((first | with_reducible refine IF.tt ?_ | with_reducible refine IF.ff ?_ | refine DRAWN.of (id := 11) tabOK mixed plSha20 (by kernel_rfl) ?_ | refine DRAWN.of (id := 12) tabOK mixed plSha21 (by kernel_rfl) ?_ | refine DRAWN.of (id := 18) tabOK mixed plSha22 (by kernel_rfl) ?_ | refine DRAWN.of (id := 19) tabOK mixed plSha23 (by kernel_rfl) ?_ | refine DRAWN.of (id := 20) tabOK mixed plSha24 (by kernel_rfl) ?_ | refine DRAWN.of (id := 26) tabOK mixed plSha25 (by kernel_rfl) ?_ | with_reducible refine ADD.mk (fun _ _ => ?_) | with_reducible refine NEED.mk (Det.of rfl) ?_ | with_reducible refine FORK.mk ?_ ?_ | (refine GET.at (row := w32 ((L8 v).getD i 0)) (by rw [show ((i : Nat) : Int).toNat = i by omega]; exact ws_at (by show i < 8; omega)) ?_; conv => whnf) | (refine GET.at (row := w32 (l.getD i 0)) (by rw [show ((i : Nat) : Int).toNat = i by omega]; exact ws_at (by omega)) ?_; conv => whnf) | ((with_reducible refine NEED.mk ?_ ?_); (first | with_reducible rfl | omega | (simp (disch := omega) only [lnB, wrap64, wrap32] <;> omega) | (intro h; (try simp (disch := omega) only [hsB, hsC, lnB, wrap64, wrap32, simprocAttr] at h); (first | omega | (simp (disch := omega) only [lnB, wrap64, wrap32] <;> omega))) | (exact needApp 256 rfl rfl (by simp) (by simp) (by omega)) | (simp <;> omega))) | ((with_reducible apply GET.at); rfl) | ((with_reducible apply GETG.at); rfl) | ((with_reducible refine UNK.mk (fun h => ?_) ?_) <;> try (exfalso; omega)) | ((with_reducible refine IF.mk (fun h => ?_) (fun h => ?_)) <;> (try simp (disch := omega) only [hsB, hsC, lnB, wrap64, wrap32, simprocAttr] at h) <;> try (exfalso; omega))) <;> conv => whnf)
        refine ⟨(i + 1, part8 s v (i + 1)), ⟨by simp only; omega, rfl⟩, by simp only; omega, ?_⟩
        dsimp only
        conv => whnf
        (refine GOES.cutting h0 rfl rfl rfl (by first | rfl | (simp only [belowO, belowH, plainLL_below _ (plainWs _), Bool.and_self, Bool.and_true] <;> rfl)) ?_ ?_ <;> (repeat' (first | (with_reducible rfl) | (exact congrArg (SV.int _) (by first | omega | (simp (disch := omega) only [lnB, wrap64, wrap32] <;> omega) | (simp; done) | (simp <;> omega))) | (exact congrArg (Hp.rows _) (by (rw [uwAdd, show ((i : Nat) : Int).toNat = i by omega, ws_set, hls, hl, part8_set s v h]))) | ((conv => whnf); refine ⟨?_, ?_⟩) | exact trivial | rfl)))
      · have h : i = 8 := by simp at h; omega
        subst h
        subst hl
        conv => whnf
        repeat' ((first | with_reducible refine IF.tt ?_ | with_reducible refine IF.ff ?_ | (refine NEED.mk (by and_intros <;> (first | rfl | omega)) ?_; conv => whnf) | ((with_reducible refine NEED.mk ?_ ?_); (first | with_reducible rfl | omega | (simp (disch := omega) only [lnB, wrap64, wrap32] <;> omega) | (intro h; (try simp (disch := omega) only [hsB, hsC, lnB, wrap64, wrap32, simprocAttr] at h); (first | omega | (simp (disch := omega) only [lnB, wrap64, wrap32] <;> omega))) | (exact needApp 256 rfl rfl (by simp) (by simp) (by omega)) | (simp <;> omega))) | ((with_reducible apply GET.at); rfl) | ((with_reducible apply GETG.at); rfl) | ((with_reducible refine UNK.mk (fun h => ?_) ?_) <;> try (exfalso; omega)) | ((with_reducible refine IF.mk (fun h => ?_) (fun h => ?_)) <;> (try simp (disch := omega) only [hsB, hsC, lnB, wrap64, wrap32, simprocAttr] at h) <;> try (exfalso; omega))) <;> conv => whnf)
        exact FIN.arrAgg h0 rfl ⟨rfl, rfl, rfl⟩
end Go.Proofs.YtjgjfeicenkceaaDoor
/- One block, by the document. Conditions: none. -/
set_option linter.unusedVariables false
set_option linter.unusedSimpArgs false
set_option maxRecDepth 20000
namespace Go.Proofs.YtjgjfeicenkceaaDoor
open Go.Sx Go.Our
def plSha30 : Plan := (planOf [(0, 1), (1, 1), (2, 1), (3, 1), (4, 1), (8, 1), (9, 1), (10, 1), (11, 1), (12, 1), (17, 1), (18, 1), (19, 1), (20, 1), (21, 1), (26, 1), (27, 1), (28, 1), (29, 1), (30, 1), (5, 2), (6, 1), (7, 1), (13, 2), (14, 1), (15, 1), (16, 1), (22, 2), (23, 1), (24, 1), (25, 1), (31, 2), (32, 1), (33, 1), (34, 1), (35, 0)])
def plSha31 : Plan := (planOf [(0, 1), (1, 1), (2, 1), (5, 1), (6, 1), (7, 1), (11, 1), (12, 1), (13, 1), (3, 2), (8, 2), (14, 2), (15, 1), (4, 3), (9, 3), (10, 1), (16, 1), (17, 1)])
def plSha32 : Plan := (planOf [(0, 1), (1, 1), (2, 1), (3, 1), (4, 1), (7, 1), (9, 1), (10, 1), (11, 1), (5, 2), (6, 1), (8, 1), (12, 2), (13, 1), (14, 1), (15, 0)])
theorem uwShl24 (a : BitVec 32) : iShl .u32 (Uw a) 24 = Uw (a <<< 24) := uwShl a 24 (by decide)
theorem uwShl16 (a : BitVec 32) : iShl .u32 (Uw a) 16 = Uw (a <<< 16) := uwShl a 16 (by decide)
theorem start_does : Does Tryd.prog tab 30 0 [] [] [] (Val (.agg (cells8 start8))) := by
  refine Does.enter tabOK (g := 30) (fn := Tryd.f30) Tryd.call30 Tryd.func30 rfl 2 rfl rfl [.cell 0 54] rfl ?_
  intro w0 F η0 h0
  conv => whnf
  repeat' ((first | with_reducible refine IF.tt ?_ | with_reducible refine IF.ff ?_ | (refine NEED.mk (by and_intros <;> (first | rfl | omega)) ?_; conv => whnf) | ((with_reducible refine NEED.mk ?_ ?_); (first | with_reducible rfl | omega | (simp (disch := omega) only [lnB, wrap64, wrap32] <;> omega) | (intro h; (try simp (disch := omega) only [hsB, hsC, lnB, wrap64, wrap32, simprocAttr] at h); (first | omega | (simp (disch := omega) only [lnB, wrap64, wrap32] <;> omega))) | (exact needApp 256 rfl rfl (by simp) (by simp) (by omega)) | (simp <;> omega))) | ((with_reducible apply GET.at); rfl) | ((with_reducible apply GETG.at); rfl) | ((with_reducible refine UNK.mk (fun h => ?_) ?_) <;> try (exfalso; omega)) | ((with_reducible refine IF.mk (fun h => ?_) (fun h => ?_)) <;> (try simp (disch := omega) only [hsB, hsC, lnB, wrap64, wrap32, simprocAttr] at h) <;> try (exfalso; omega))) <;> conv => whnf)
  exact FIN.arrAgg h0 rfl ⟨rfl, rfl, rfl⟩
theorem keys_does : Does Tryd.prog tab 35 0 [] [] [] (Val (.arr 1 (keyL.map w32))) := by
  refine Does.enter tabOK (g := 35) (fn := Tryd.f35) Tryd.call35 Tryd.func35 rfl 2 rfl rfl [.cell 0 61] rfl ?_
  intro w0 F η0 h0
  conv => whnf
  repeat' ((first | with_reducible refine IF.tt ?_ | with_reducible refine IF.ff ?_ | (refine NEED.mk (by and_intros <;> (first | rfl | omega)) ?_; conv => whnf) | ((with_reducible refine NEED.mk ?_ ?_); (first | with_reducible rfl | omega | (simp (disch := omega) only [lnB, wrap64, wrap32] <;> omega) | (intro h; (try simp (disch := omega) only [hsB, hsC, lnB, wrap64, wrap32, simprocAttr] at h); (first | omega | (simp (disch := omega) only [lnB, wrap64, wrap32] <;> omega))) | (exact needApp 256 rfl rfl (by simp) (by simp) (by omega)) | (simp <;> omega))) | ((with_reducible apply GET.at); rfl) | ((with_reducible apply GETG.at); rfl) | ((with_reducible refine UNK.mk (fun h => ?_) ?_) <;> try (exfalso; omega)) | ((with_reducible refine IF.mk (fun h => ?_) (fun h => ?_)) <;> (try simp (disch := omega) only [hsB, hsC, lnB, wrap64, wrap32, simprocAttr] at h) <;> try (exfalso; omega))) <;> conv => whnf)
  exact FIN.value h0 rfl rfl
def shiftL (l : List (BitVec 32)) (i : Nat) : List (BitVec 32) := l.take (i + 1) ++ (l.drop i).take (7 - i)
theorem shiftL_set (s : S8) {i : Nat} (h : i + 1 < 8) : (shiftL (L8 s) (i + 1)).set (i + 1) ((L8 s).getD i 0) = shiftL (L8 s) i := by
  match i, h with
  | 0, _ => rfl
  | 1, _ => rfl
  | 2, _ => rfl
  | 3, _ => rfl
  | 4, _ => rfl
  | 5, _ => rfl
  | 6, _ => rfl
theorem shiftL_get (s : S8) {i : Nat} (h : i + 1 < 8) : (shiftL (L8 s) (i + 1)).getD i 0 = (L8 s).getD i 0 := by
  match i, h with
  | 0, _ => rfl
  | 1, _ => rfl
  | 2, _ => rfl
  | 3, _ => rfl
  | 4, _ => rfl
  | 5, _ => rfl
  | 6, _ => rfl
theorem shiftL_len (s : S8) {i : Nat} (h : i < 8) : (shiftL (L8 s) i).length = 8 := by
  match i, h with
  | 0, _ => rfl
  | 1, _ => rfl
  | 2, _ => rfl
  | 3, _ => rfl
  | 4, _ => rfl
  | 5, _ => rfl
  | 6, _ => rfl
  | 7, _ => rfl
set_option maxHeartbeats 4000000 in
theorem words_does (b : List UInt8) (r n : Nat) (hr : r + n ≤ b.length) (hn : 64 ≤ n) (hb : b.length ≤ 140737488355328) : Does Tryd.prog tab 34 1 [.sl (.loc 0) r 1 n none] [] [(0, .rows 1 (b.map Sx.bytesRow))] (ValK 1 (.arr 1 ((warr (b.drop r) 64).map w32))) := by
  refine Does.enter tabOK (g := 34) (fn := Tryd.f34) Tryd.call34 Tryd.func34 rfl 101 rfl rfl [.cell 2 61] rfl ?_
  intro w0 F η0 h0
  conv => whnf
  repeat' ((first | with_reducible refine IF.tt ?_ | with_reducible refine IF.ff ?_ | ((with_reducible refine NEED.mk ?_ ?_); (first | with_reducible rfl | omega | (simp (disch := omega) only [lnB, wrap64, wrap32] <;> omega) | (intro h; (try simp (disch := omega) only [hsB, hsC, lnB, wrap64, wrap32, simprocAttr] at h); (first | omega | (simp (disch := omega) only [lnB, wrap64, wrap32] <;> omega))) | (exact needApp 256 rfl rfl (by simp) (by simp) (by omega)) | (simp <;> omega))) | ((with_reducible apply GET.at); rfl) | ((with_reducible apply GETG.at); rfl) | ((with_reducible refine UNK.mk (fun h => ?_) ?_) <;> try (exfalso; omega)) | ((with_reducible refine IF.mk (fun h => ?_) (fun h => ?_)) <;> (try simp (disch := omega) only [hsB, hsC, lnB, wrap64, wrap32, simprocAttr] at h) <;> try (exfalso; omega))) <;> conv => whnf)
  refine LOOP.go tabOK [0, 2, 3] (X := Nat × List (BitVec 32)) (fun x => x.1 ≤ 16 ∧ x.2 = warr (b.drop r) x.1) (fun x => [(4, .int .i64 (x.1 : Int))]) (fun x => [(1, .rows 1 ((warr [] 0).map w32)), (2, .rows 1 (x.2.map w32))]) 3 (fun x => 16 - x.1) (0, warr (b.drop r) 0) ⟨by simp, rfl⟩ ?_
  conv => whnf
  refine ⟨by (refine GOES.cutting h0 rfl rfl rfl (by first | rfl | simp [belowO, belowH, plainLL_below, plainLL_map, plainL, plain]) ?_ ?_ <;> (repeat' (first | (exact congrArg (Hp.rows _) rfl) | (with_reducible rfl) | (exact congrArg (fun n => SV.sl _ _ _ n _) (by simp)) | (exact congrArg (Hp.rows _) (by simp)) | (exact congrArg (SV.int _) (by first | omega | (simp (disch := omega) only [lnB, wrap64, wrap32] <;> omega) | (simp; done) | (simp <;> omega))) | ((conv => whnf); refine ⟨?_, ?_⟩) | exact trivial | (simp; done) | rfl))), ?_⟩
  rintro ⟨t, ws⟩ ⟨ht, hws⟩
  dsimp only at ht hws ⊢
  have hwl : ws.length = 64 := by rw [hws, warr_len _ (by omega)]
  conv => whnf
  refine IF.mk (fun h => ?_) (fun h => ?_)
  · have h : t < 16 := by simp at h; omega
    have hw4 : IntKind.i64.wrap (4 * (t : Int)) = ((4 * t : Nat) : Int) := by rw [wrap64 (by omega) (by omega)]; omega
    have hw41 : IntKind.i64.wrap (((4 * t : Nat) : Int) + 1) = ((4 * t + 1 : Nat) : Int) := by rw [wrap64 (by omega) (by omega)]; omega
    have hw42 : IntKind.i64.wrap (((4 * t : Nat) : Int) + 2) = ((4 * t + 2 : Nat) : Int) := by rw [wrap64 (by omega) (by omega)]; omega
    have hw43 : IntKind.i64.wrap (((4 * t : Nat) : Int) + 3) = ((4 * t + 3 : Nat) : Int) := by rw [wrap64 (by omega) (by omega)]; omega
    have g0 : ∀ k, k < 4 → (b.map Sx.bytesRow)[r + (((4 * t + k : Nat) : Int)).toNat]? = some (Sx.bytesRow (b.getD (r + (4 * t + k)) 0)) := fun k hk => by rw [Int.toNat_natCast]; exact bytes_at (by omega)
    conv => whnf
    repeat' ((first | with_reducible refine IF.tt ?_ | with_reducible refine IF.ff ?_ | refine DRAWN.of (id := 5) tabOK mixed plSha30 (by kernel_rfl) ?_ | refine DRAWN.of (id := 9) tabOK mixed plSha31 (by kernel_rfl) ?_ | refine DRAWN.of (id := 10) tabOK mixed plSha31 (by kernel_rfl) ?_ | refine DRAWN.of (id := 11) tabOK mixed plSha32 (by kernel_rfl) ?_ | with_reducible refine ADD.mk (fun _ _ => ?_) | with_reducible refine NEED.mk (Det.of rfl) ?_ | with_reducible refine FORK.mk ?_ ?_ | (rw [hw4]; conv => whnf) | (rw [hw41]; conv => whnf) | (rw [hw42]; conv => whnf) | (rw [hw43]; conv => whnf) | (refine GET.at (g0 0 (by omega)) ?_; conv => whnf) | (refine GET.at (g0 1 (by omega)) ?_; conv => whnf) | (refine GET.at (g0 2 (by omega)) ?_; conv => whnf) | (refine GET.at (g0 3 (by omega)) ?_; conv => whnf) | (refine GET.at (row := w32 (ws.getD t 0)) (by rw [show (t : Int).toNat = t by omega]; exact ws_at (by omega)) ?_; conv => whnf) | ((with_reducible refine NEED.mk ?_ ?_); (first | with_reducible rfl | omega | (simp (disch := omega) only [lnB, wrap64, wrap32] <;> omega) | (intro h; (try simp (disch := omega) only [hsB, hsC, lnB, wrap64, wrap32, simprocAttr] at h); (first | omega | (simp (disch := omega) only [lnB, wrap64, wrap32] <;> omega))) | (exact needApp 256 rfl rfl (by simp) (by simp) (by omega)) | (simp <;> omega))) | ((with_reducible apply GET.at); rfl) | ((with_reducible apply GETG.at); rfl) | ((with_reducible refine UNK.mk (fun h => ?_) ?_) <;> try (exfalso; omega)) | ((with_reducible refine IF.mk (fun h => ?_) (fun h => ?_)) <;> (try simp (disch := omega) only [hsB, hsC, lnB, wrap64, wrap32, simprocAttr] at h) <;> try (exfalso; omega))) <;> conv => whnf)
    refine ⟨(t + 1, warr (b.drop r) (t + 1)), ⟨by simp only; omega, rfl⟩, by simp only; omega, ?_⟩
    dsimp only
    have htn : ((t : Nat) : Int).toNat = t := by omega
    have hfin : ∀ X, X = wordAt (b.drop r) (sched (b.drop r) t) t → (ws.map w32).set t [.int .u32 (Uw X)] = (warr (b.drop r) (t + 1)).map w32 := fun X hX => by rw [ws_set, hws, warr_set _ (by omega) X hX]
    conv => whnf
    (refine GOES.cutting h0 rfl rfl rfl (by first | rfl | (simp only [belowO, belowH, plainLL_below _ (plainWs _), Bool.and_self, Bool.and_true] <;> rfl)) ?_ ?_ <;> (repeat' (first | (with_reducible rfl) | (exact congrArg (SV.int _) (by first | omega | (simp (disch := omega) only [lnB, wrap64, wrap32] <;> omega) | (simp; done) | (simp <;> omega))) | (exact congrArg (Hp.rows _) (by (simp only [uwByte, uwShl24, uwShl16, uwShl8, uwOr, htn]; exact hfin _ (by unfold wordAt W4; rw [if_pos h]; simp only [bw_drop, Nat.add_zero])))) | ((conv => whnf); refine ⟨?_, ?_⟩) | exact trivial | rfl)))
  · have h : t = 16 := by simp at h; omega
    subst h
    conv => whnf
    repeat' ((first | with_reducible refine IF.tt ?_ | with_reducible refine IF.ff ?_ | ((with_reducible refine NEED.mk ?_ ?_); (first | with_reducible rfl | omega | (simp (disch := omega) only [lnB, wrap64, wrap32] <;> omega) | (intro h; (try simp (disch := omega) only [hsB, hsC, lnB, wrap64, wrap32, simprocAttr] at h); (first | omega | (simp (disch := omega) only [lnB, wrap64, wrap32] <;> omega))) | (exact needApp 256 rfl rfl (by simp) (by simp) (by omega)) | (simp <;> omega))) | ((with_reducible apply GET.at); rfl) | ((with_reducible apply GETG.at); rfl) | ((with_reducible refine UNK.mk (fun h => ?_) ?_) <;> try (exfalso; omega)) | ((with_reducible refine IF.mk (fun h => ?_) (fun h => ?_)) <;> (try simp (disch := omega) only [hsB, hsC, lnB, wrap64, wrap32, simprocAttr] at h) <;> try (exfalso; omega))) <;> conv => whnf)
    refine LOOP.go tabOK [2, 3] (X := Nat × List (BitVec 32)) (fun x => 16 ≤ x.1 ∧ x.1 ≤ 64 ∧ x.2 = warr (b.drop r) x.1) (fun x => [(5, .int .i64 (x.1 : Int))]) (fun x => [(1, .rows 1 ((warr [] 0).map w32)), (2, .rows 1 (x.2.map w32))]) 3 (fun x => 64 - x.1) (16, ws) ⟨by simp, by simp, hws⟩ ?_
    conv => whnf
    refine ⟨by (refine GOES.cutting h0 rfl rfl rfl (by first | rfl | (simp only [belowO, belowH, plainLL_below _ (plainWs _), Bool.and_self, Bool.and_true] <;> rfl)) ?_ ?_ <;> (repeat' (first | (with_reducible rfl) | (exact congrArg (SV.int _) (by first | omega | (simp (disch := omega) only [lnB, wrap64, wrap32] <;> omega) | (simp; done) | (simp <;> omega))) | (exact congrArg (Hp.rows _) (by rfl)) | ((conv => whnf); refine ⟨?_, ?_⟩) | exact trivial | rfl))), ?_⟩
    rintro ⟨t, ws⟩ ⟨ht1, ht, hws⟩
    dsimp only at ht1 ht hws ⊢
    have hwl : ws.length = 64 := by rw [hws, warr_len _ (by omega)]
    have hg : ∀ i, i < t → (ws.map w32)[i]? = some (w32 ((sched (b.drop r) t).getD i 0)) := fun i hi => by rw [ws_at (by omega), hws, warr_getD _ hi ht]
    conv => whnf
    refine IF.mk (fun h => ?_) (fun h => ?_)
    · have h : t < 64 := by simp at h; omega
      have htn : ((t : Nat) : Int).toNat = t := by omega
      have hfin : ∀ X, X = wordAt (b.drop r) (sched (b.drop r) t) t → (ws.map w32).set t [.int .u32 (Uw X)] = (warr (b.drop r) (t + 1)).map w32 := fun X hX => by rw [ws_set, hws, warr_set _ h X hX]
      have h15 : (IntKind.i64.wrap ((t : Int) - 15)).toNat = t - 15 := by rw [wrap64 (by omega) (by omega)]; omega
      have h2 : (IntKind.i64.wrap ((t : Int) - 2)).toNat = t - 2 := by rw [wrap64 (by omega) (by omega)]; omega
      have h7 : (IntKind.i64.wrap ((t : Int) - 7)).toNat = t - 7 := by rw [wrap64 (by omega) (by omega)]; omega
      have h16 : (IntKind.i64.wrap ((t : Int) - 16)).toNat = t - 16 := by rw [wrap64 (by omega) (by omega)]; omega
      conv => whnf
      repeat' ((first | with_reducible refine IF.tt ?_ | with_reducible refine IF.ff ?_ | refine DRAWN.of (id := 5) tabOK mixed plSha30 (by kernel_rfl) ?_ | refine DRAWN.of (id := 9) tabOK mixed plSha31 (by kernel_rfl) ?_ | refine DRAWN.of (id := 10) tabOK mixed plSha31 (by kernel_rfl) ?_ | refine DRAWN.of (id := 11) tabOK mixed plSha32 (by kernel_rfl) ?_ | with_reducible refine ADD.mk (fun _ _ => ?_) | with_reducible refine NEED.mk (Det.of rfl) ?_ | with_reducible refine FORK.mk ?_ ?_ | refine CALL.value (turned_does _ _ (by decide)) rfl rfl ?_ | (refine GET.at (row := w32 ((sched (b.drop r) t).getD (t - 15) 0)) (by rw [h15]; exact hg _ (by omega)) ?_; conv => whnf) | (refine GET.at (row := w32 ((sched (b.drop r) t).getD (t - 2) 0)) (by rw [h2]; exact hg _ (by omega)) ?_; conv => whnf) | (refine GET.at (row := w32 ((sched (b.drop r) t).getD (t - 7) 0)) (by rw [h7]; exact hg _ (by omega)) ?_; conv => whnf) | (refine GET.at (row := w32 ((sched (b.drop r) t).getD (t - 16) 0)) (by rw [h16]; exact hg _ (by omega)) ?_; conv => whnf) | (refine GET.at (row := w32 (ws.getD t 0)) (by rw [htn]; exact ws_at (by omega)) ?_; conv => whnf) | ((with_reducible refine NEED.mk ?_ ?_); (first | with_reducible rfl | omega | (simp (disch := omega) only [lnB, wrap64, wrap32] <;> omega) | (intro h; (try simp (disch := omega) only [hsB, hsC, lnB, wrap64, wrap32, simprocAttr] at h); (first | omega | (simp (disch := omega) only [lnB, wrap64, wrap32] <;> omega))) | (exact needApp 256 rfl rfl (by simp) (by simp) (by omega)) | (simp <;> omega))) | ((with_reducible apply GET.at); rfl) | ((with_reducible apply GETG.at); rfl) | ((with_reducible refine UNK.mk (fun h => ?_) ?_) <;> try (exfalso; omega)) | ((with_reducible refine IF.mk (fun h => ?_) (fun h => ?_)) <;> (try simp (disch := omega) only [hsB, hsC, lnB, wrap64, wrap32, simprocAttr] at h) <;> try (exfalso; omega))) <;> conv => whnf)
      refine ⟨(t + 1, warr (b.drop r) (t + 1)), ⟨by simp only; omega, by simp only; omega, rfl⟩, by simp only; omega, ?_⟩
      dsimp only
      conv => whnf
      (refine GOES.cutting h0 rfl rfl rfl (by first | rfl | (simp only [belowO, belowH, plainLL_below _ (plainWs _), Bool.and_self, Bool.and_true] <;> rfl)) ?_ ?_ <;> (repeat' (first | (with_reducible rfl) | (exact congrArg (SV.int _) (by first | omega | (simp (disch := omega) only [lnB, wrap64, wrap32] <;> omega) | (simp; done) | (simp <;> omega))) | (exact congrArg (Hp.rows _) (by (simp only [uwShr10, uwShr3, uwXor, uwAdd, Int.reduceToNat, htn]; exact hfin _ (by unfold wordAt; rw [if_neg (by omega)])))) | ((conv => whnf); refine ⟨?_, ?_⟩) | exact trivial | rfl)))
    · have h : t = 64 := by simp at h; omega
      conv => whnf
      repeat' ((first | with_reducible refine IF.tt ?_ | with_reducible refine IF.ff ?_ | (refine NEED.mk (by and_intros <;> (first | rfl | (simp; omega))) ?_; conv => whnf) | ((with_reducible refine NEED.mk ?_ ?_); (first | with_reducible rfl | omega | (simp (disch := omega) only [lnB, wrap64, wrap32] <;> omega) | (intro h; (try simp (disch := omega) only [hsB, hsC, lnB, wrap64, wrap32, simprocAttr] at h); (first | omega | (simp (disch := omega) only [lnB, wrap64, wrap32] <;> omega))) | (exact needApp 256 rfl rfl (by simp) (by simp) (by omega)) | (simp <;> omega))) | ((with_reducible apply GET.at); rfl) | ((with_reducible apply GETG.at); rfl) | ((with_reducible refine UNK.mk (fun h => ?_) ?_) <;> try (exfalso; omega)) | ((with_reducible refine IF.mk (fun h => ?_) (fun h => ?_)) <;> (try simp (disch := omega) only [hsB, hsC, lnB, wrap64, wrap32, simprocAttr] at h) <;> try (exfalso; omega))) <;> conv => whnf)
      rw [← h, ← hws]
      exact FIN.valueK h0 (plainWs _) rfl
end Go.Proofs.YtjgjfeicenkceaaDoor
/- One block, by the document: the rounds. Conditions: none. -/
set_option linter.unusedVariables false
set_option linter.unusedSimpArgs false
set_option maxRecDepth 20000
namespace Go.Proofs.YtjgjfeicenkceaaDoor
open Go.Sx Go.Our
def plSha40 : Plan := (planOf [(0, 1), (2, 1), (4, 1), (7, 1), (11, 1), (12, 1), (15, 1), (16, 1), (17, 1), (22, 1), (23, 1), (26, 1), (27, 1), (1, 2), (13, 2), (14, 1), (18, 2), (19, 1), (20, 1), (24, 2), (28, 2), (3, 3), (5, 3), (6, 1), (8, 3), (9, 1), (10, 1), (21, 1), (25, 1), (29, 1), (30, 1)])
def plSha41 : Plan := (planOf [(0, 1), (2, 1), (5, 1), (8, 1), (9, 1), (12, 1), (13, 1), (17, 1), (19, 1), (10, 2), (11, 1), (14, 2), (15, 1), (16, 1), (18, 2), (20, 2), (21, 1), (22, 1), (1, 3), (3, 3), (4, 1), (6, 3), (7, 1), (23, 1), (24, 1)])
def plSha42 : Plan := (planOf [(0, 1), (1, 1), (2, 1), (4, 1), (5, 1), (3, 2), (6, 2), (7, 1), (8, 1), (9, 0)])
theorem warr64 (b : List UInt8) : warr b 64 = sched b 64 := by unfold warr; simp
set_option maxHeartbeats 4000000 in
theorem rblock_does (s : S8) (b : List UInt8) (r n : Nat) (hr : r + n ≤ b.length) (hn : 64 ≤ n) (hb : b.length ≤ 140737488355328) : Does Tryd.prog tab 31 1 [.agg (cells8 s), .sl (.loc 0) r 1 n none] [] [(0, .rows 1 (b.map Sx.bytesRow))] (ValK 1 (.agg (cells8 (blockM s (b.drop r))))) := by
  obtain ⟨W, hW⟩ : ∃ W, W = sched (b.drop r) 64 := ⟨_, rfl⟩
  have hwl : W.length = 64 := by rw [hW, sched_len]
  have hwg : ∀ i, i < 64 → (W.map w32)[i]? = some (w32 (W.getD i 0)) := fun i hi => ws_at (by omega)
  have hkg : ∀ i, i < 64 → (keyL.map w32)[i]? = some (w32 (keyL.getD i 0)) := fun i hi => ws_at (by show i < 64; omega)
  have hwd := words_does b r n hr hn hb
  rw [warr64, ← hW] at hwd
  unfold blockM
  rw [← hW]
  clear hW
  refine Does.enter tabOK (g := 31) (fn := Tryd.f31) Tryd.call31 Tryd.func31 rfl 114 rfl rfl [.cell 4 54] rfl ?_
  intro w0 F η0 h0
  conv => whnf
  repeat' ((first | with_reducible refine IF.tt ?_ | with_reducible refine IF.ff ?_ | (refine NEED.mk (by and_intros <;> (first | rfl | (simp; omega))) ?_; conv => whnf) | (refine CALL.look1 0 hwd rfl rfl rfl rfl (plainBytes _) (plainWs _) ?_; conv => whnf) | (refine CALL.value keys_does rfl (plainWs _) ?_; conv => whnf) | ((with_reducible refine NEED.mk ?_ ?_); (first | with_reducible rfl | omega | (simp (disch := omega) only [lnB, wrap64, wrap32] <;> omega) | (intro h; (try simp (disch := omega) only [hsB, hsC, lnB, wrap64, wrap32, simprocAttr] at h); (first | omega | (simp (disch := omega) only [lnB, wrap64, wrap32] <;> omega))) | (exact needApp 256 rfl rfl (by simp) (by simp) (by omega)) | (simp <;> omega))) | ((with_reducible apply GET.at); rfl) | ((with_reducible apply GETG.at); rfl) | ((with_reducible refine UNK.mk (fun h => ?_) ?_) <;> try (exfalso; omega)) | ((with_reducible refine IF.mk (fun h => ?_) (fun h => ?_)) <;> (try simp (disch := omega) only [hsB, hsC, lnB, wrap64, wrap32, simprocAttr] at h) <;> try (exfalso; omega))) <;> conv => whnf)
  refine LOOP.go tabOK [2, 4, 5, 6, 7] (X := Nat × S8) (fun x => x.1 ≤ 64 ∧ x.2 = rnds keyL W s x.1) (fun x => [(8, .int .i64 (x.1 : Int))]) (fun x => [(1, .rows 1 (rows8 s)), (2, .rows 1 z8), (3, .rows 1 (W.map w32)), (4, .rows 1 (keyL.map w32)), (5, .rows 1 (rows8 x.2))]) 6 (fun x => 64 - x.1) (0, s) ⟨by simp only; omega, rfl⟩ ?_
  conv => whnf
  refine ⟨by (refine GOES.cutting h0 rfl rfl rfl (by first | rfl | (simp only [belowO, belowH, plainLL_below _ (plainWs _), Bool.and_self, Bool.and_true] <;> rfl)) ?_ ?_ <;> (repeat' (first | (with_reducible rfl) | (exact congrArg (SV.int _) (by first | omega | (simp (disch := omega) only [lnB, wrap64, wrap32] <;> omega) | (simp; done) | (simp <;> omega))) | (exact congrArg (Hp.rows _) (by rfl)) | ((conv => whnf); refine ⟨?_, ?_⟩) | exact trivial | rfl))), ?_⟩
  rintro ⟨i, v⟩ ⟨hi, hv⟩
  dsimp only at hi hv ⊢
  conv => whnf
  refine IF.mk (fun h => ?_) (fun h => ?_)
  · have h : i < 64 := by simp at h; omega
    have hin : ((i : Nat) : Int).toNat = i := by omega
    conv => whnf
    repeat' ((first | with_reducible refine IF.tt ?_ | with_reducible refine IF.ff ?_ | refine DRAWN.of (id := 9) tabOK mixed plSha40 (by kernel_rfl) ?_ | refine DRAWN.of (id := 10) tabOK mixed plSha41 (by kernel_rfl) ?_ | refine DRAWN.of (id := 20) tabOK mixed plSha42 (by kernel_rfl) ?_ | with_reducible refine ADD.mk (fun _ _ => ?_) | with_reducible refine NEED.mk (Det.of rfl) ?_ | with_reducible refine FORK.mk ?_ ?_ | refine CALL.value (turned_does _ _ (by decide)) rfl rfl ?_ | (refine NEED.mk (by and_intros <;> (first | rfl | omega)) ?_; conv => whnf) | (refine GET.at (row := w32 (W.getD i 0)) (by rw [hin]; exact hwg i h) ?_; conv => whnf) | (refine GET.at (row := w32 (keyL.getD i 0)) (by rw [hin]; exact hkg i h) ?_; conv => whnf) | ((with_reducible refine NEED.mk ?_ ?_); (first | with_reducible rfl | omega | (simp (disch := omega) only [lnB, wrap64, wrap32] <;> omega) | (intro h; (try simp (disch := omega) only [hsB, hsC, lnB, wrap64, wrap32, simprocAttr] at h); (first | omega | (simp (disch := omega) only [lnB, wrap64, wrap32] <;> omega))) | (exact needApp 256 rfl rfl (by simp) (by simp) (by omega)) | (simp <;> omega))) | ((with_reducible apply GET.at); rfl) | ((with_reducible apply GETG.at); rfl) | ((with_reducible refine UNK.mk (fun h => ?_) ?_) <;> try (exfalso; omega)) | ((with_reducible refine IF.mk (fun h => ?_) (fun h => ?_)) <;> (try simp (disch := omega) only [hsB, hsC, lnB, wrap64, wrap32, simprocAttr] at h) <;> try (exfalso; omega))) <;> conv => whnf)
    refine LOOP.go tabOK [2, 4, 5, 6, 7, 8, 11, 12] (X := Nat × List (BitVec 32)) (fun x => x.1 < 8 ∧ x.2 = shiftL (L8 v) x.1) (fun x => [(13, .int .i64 (x.1 : Int))]) (fun x => [(1, .rows 1 (rows8 s)), (2, .rows 1 z8), (3, .rows 1 (W.map w32)), (4, .rows 1 (keyL.map w32)), (5, .rows 1 (x.2.map w32))]) 6 (fun x => x.1) (7, L8 v) ⟨by simp, rfl⟩ ?_
    conv => whnf
    refine ⟨by (refine GOES.cutting h0 rfl rfl rfl (by first | rfl | (simp only [belowO, belowH, plainLL_below _ (plainWs _), Bool.and_self, Bool.and_true] <;> rfl)) ?_ ?_ <;> (repeat' (first | (with_reducible rfl) | (exact congrArg (SV.int _) (by first | omega | (simp (disch := omega) only [lnB, wrap64, wrap32] <;> omega) | (simp; done) | (simp <;> omega))) | (exact congrArg (Hp.rows _) (by rfl)) | ((conv => whnf); refine ⟨?_, ?_⟩) | exact trivial | rfl))), ?_⟩
    rintro ⟨j, l⟩ ⟨hj, hl⟩
    dsimp only at hj hl ⊢
    conv => whnf
    refine IF.mk (fun h2 => ?_) (fun h2 => ?_)
    · obtain ⟨j, rfl⟩ : ∃ m, j = m + 1 := ⟨j - 1, by simp at h2; omega⟩
      have hll : l.length = 8 := by rw [hl, shiftL_len v hj]
      have hlg : l.getD j 0 = (L8 v).getD j 0 := by rw [hl, shiftL_get v hj]
      have hw1 : (IntKind.i64.wrap (((j + 1 : Nat) : Int) - 1)).toNat = j := by rw [wrap64 (by omega) (by omega)]; omega
      have hw2 : IntKind.i64.wrap (((j + 1 : Nat) : Int) - 1) = (j : Int) := by rw [wrap64 (by omega) (by omega)]; omega
      conv => whnf
      repeat' ((first | with_reducible refine IF.tt ?_ | with_reducible refine IF.ff ?_ | (refine GET.at (row := w32 (l.getD j 0)) (by rw [hw1]; exact ws_at (by omega)) ?_; conv => whnf) | (refine GET.at (row := w32 (l.getD (j + 1) 0)) (by rw [show ((j + 1 : Nat) : Int).toNat = j + 1 by omega]; exact ws_at (by omega)) ?_; conv => whnf) | ((with_reducible refine NEED.mk ?_ ?_); (first | with_reducible rfl | omega | (simp (disch := omega) only [lnB, wrap64, wrap32] <;> omega) | (intro h; (try simp (disch := omega) only [hsB, hsC, lnB, wrap64, wrap32, simprocAttr] at h); (first | omega | (simp (disch := omega) only [lnB, wrap64, wrap32] <;> omega))) | (exact needApp 256 rfl rfl (by simp) (by simp) (by omega)) | (simp <;> omega))) | ((with_reducible apply GET.at); rfl) | ((with_reducible apply GETG.at); rfl) | ((with_reducible refine UNK.mk (fun h => ?_) ?_) <;> try (exfalso; omega)) | ((with_reducible refine IF.mk (fun h => ?_) (fun h => ?_)) <;> (try simp (disch := omega) only [hsB, hsC, lnB, wrap64, wrap32, simprocAttr] at h) <;> try (exfalso; omega))) <;> conv => whnf)
      refine ⟨(j, shiftL (L8 v) j), ⟨by simp only; omega, rfl⟩, by simp only; omega, ?_⟩
      dsimp only
      conv => whnf
      (refine GOES.cutting h0 rfl rfl rfl (by first | rfl | (simp only [belowO, belowH, plainLL_below _ (plainWs _), Bool.and_self, Bool.and_true] <;> rfl)) ?_ ?_ <;> (repeat' (first | (with_reducible rfl) | (exact congrArg (SV.int _) (by first | omega | (simp (disch := omega) only [lnB, wrap64, wrap32] <;> omega) | (simp; done) | (simp <;> omega))) | (exact congrArg (Hp.rows _) (by (rw [show ((j + 1 : Nat) : Int).toNat = j + 1 by omega, ws_set, hlg, hl, shiftL_set v hj]))) | ((conv => whnf); refine ⟨?_, ?_⟩) | exact trivial | rfl)))
    · have h2 : j = 0 := by simp at h2; omega
      subst h2
      subst hl
      conv => whnf
      repeat' ((first | with_reducible refine IF.tt ?_ | with_reducible refine IF.ff ?_ | (refine NEED.mk (by and_intros <;> (first | rfl | omega)) ?_; conv => whnf) | ((with_reducible refine NEED.mk ?_ ?_); (first | with_reducible rfl | omega | (simp (disch := omega) only [lnB, wrap64, wrap32] <;> omega) | (intro h; (try simp (disch := omega) only [hsB, hsC, lnB, wrap64, wrap32, simprocAttr] at h); (first | omega | (simp (disch := omega) only [lnB, wrap64, wrap32] <;> omega))) | (exact needApp 256 rfl rfl (by simp) (by simp) (by omega)) | (simp <;> omega))) | ((with_reducible apply GET.at); rfl) | ((with_reducible apply GETG.at); rfl) | ((with_reducible refine UNK.mk (fun h => ?_) ?_) <;> try (exfalso; omega)) | ((with_reducible refine IF.mk (fun h => ?_) (fun h => ?_)) <;> (try simp (disch := omega) only [hsB, hsC, lnB, wrap64, wrap32, simprocAttr] at h) <;> try (exfalso; omega))) <;> conv => whnf)
      refine ⟨(i + 1, rnd (keyL.getD i 0) (W.getD i 0) v), ⟨by simp only; omega, by simp only [hv]; rfl⟩, by simp only; omega, ?_⟩
      dsimp only
      conv => whnf
      (refine GOES.cutting h0 rfl rfl rfl (by first | rfl | (simp only [belowO, belowH, plainLL_below _ (plainWs _), Bool.and_self, Bool.and_true] <;> rfl)) ?_ ?_ <;> (repeat' (first | (with_reducible rfl) | (exact congrArg (SV.int _) (by simp (disch := omega) only [lnB, wrap64] <;> omega)) | (exact congrArg (Hp.rows _) (by simp only [uwNot, uwXor, uwAdd, uwAnd, Int.reduceToNat]; rfl)) | ((conv => whnf); refine ⟨?_, ?_⟩) | exact trivial | rfl)))
  · have h : i = 64 := by simp at h; omega
    subst h
    rw [← hv]
    clear hv
    conv => whnf
    repeat' ((first | with_reducible refine IF.tt ?_ | with_reducible refine IF.ff ?_ | ((with_reducible refine NEED.mk ?_ ?_); (first | with_reducible rfl | omega | (simp (disch := omega) only [lnB, wrap64, wrap32] <;> omega) | (intro h; (try simp (disch := omega) only [hsB, hsC, lnB, wrap64, wrap32, simprocAttr] at h); (first | omega | (simp (disch := omega) only [lnB, wrap64, wrap32] <;> omega))) | (exact needApp 256 rfl rfl (by simp) (by simp) (by omega)) | (simp <;> omega))) | ((with_reducible apply GET.at); rfl) | ((with_reducible apply GETG.at); rfl) | ((with_reducible refine UNK.mk (fun h => ?_) ?_) <;> try (exfalso; omega)) | ((with_reducible refine IF.mk (fun h => ?_) (fun h => ?_)) <;> (try simp (disch := omega) only [hsB, hsC, lnB, wrap64, wrap32, simprocAttr] at h) <;> try (exfalso; omega))) <;> conv => whnf)
    refine LOOP.go tabOK [2, 4, 7] (X := Nat × List (BitVec 32)) (fun x => x.1 ≤ 8 ∧ x.2 = part8 s v x.1) (fun x => [(14, .int .i64 (x.1 : Int))]) (fun x => [(1, .rows 1 (x.2.map w32)), (2, .rows 1 z8), (5, .rows 1 ((L8 v).map w32))]) 6 (fun x => 8 - x.1) (0, L8 s) ⟨by simp only; omega, rfl⟩ ?_
    conv => whnf
    refine ⟨by (refine GOES.cutting h0 rfl rfl rfl (by first | rfl | (simp only [belowO, belowH, plainLL_below _ (plainWs _), Bool.and_self, Bool.and_true] <;> rfl)) ?_ ?_ <;> (repeat' (first | (with_reducible rfl) | (exact congrArg (SV.int _) (by first | omega | (simp (disch := omega) only [lnB, wrap64, wrap32] <;> omega) | (simp; done) | (simp <;> omega))) | (exact congrArg (Hp.rows _) (by rfl)) | ((conv => whnf); refine ⟨?_, ?_⟩) | exact trivial | rfl))), ?_⟩
    rintro ⟨i, l⟩ ⟨hi, hl⟩
    dsimp only at hi hl ⊢
    have hll : l.length = 8 := by rw [hl, part8_len hi]
    conv => whnf
    refine IF.mk (fun h => ?_) (fun h => ?_)
    · have h : i < 8 := by simp at h; omega
      have hls : l.getD i 0 = (L8 s).getD i 0 := by rw [hl, part8_get s v h]
      conv => whnf
      repeat' ((first | with_reducible refine IF.tt ?_ | with_reducible refine IF.ff ?_ | refine DRAWN.of (id := 9) tabOK mixed plSha40 (by kernel_rfl) ?_ | refine DRAWN.of (id := 10) tabOK mixed plSha41 (by kernel_rfl) ?_ | refine DRAWN.of (id := 20) tabOK mixed plSha42 (by kernel_rfl) ?_ | with_reducible refine ADD.mk (fun _ _ => ?_) | with_reducible refine NEED.mk (Det.of rfl) ?_ | with_reducible refine FORK.mk ?_ ?_ | (refine GET.at (row := w32 ((L8 v).getD i 0)) (by rw [show ((i : Nat) : Int).toNat = i by omega]; exact ws_at (by show i < 8; omega)) ?_; conv => whnf) | (refine GET.at (row := w32 (l.getD i 0)) (by rw [show ((i : Nat) : Int).toNat = i by omega]; exact ws_at (by omega)) ?_; conv => whnf) | ((with_reducible refine NEED.mk ?_ ?_); (first | with_reducible rfl | omega | (simp (disch := omega) only [lnB, wrap64, wrap32] <;> omega) | (intro h; (try simp (disch := omega) only [hsB, hsC, lnB, wrap64, wrap32, simprocAttr] at h); (first | omega | (simp (disch := omega) only [lnB, wrap64, wrap32] <;> omega))) | (exact needApp 256 rfl rfl (by simp) (by simp) (by omega)) | (simp <;> omega))) | ((with_reducible apply GET.at); rfl) | ((with_reducible apply GETG.at); rfl) | ((with_reducible refine UNK.mk (fun h => ?_) ?_) <;> try (exfalso; omega)) | ((with_reducible refine IF.mk (fun h => ?_) (fun h => ?_)) <;> (try simp (disch := omega) only [hsB, hsC, lnB, wrap64, wrap32, simprocAttr] at h) <;> try (exfalso; omega))) <;> conv => whnf)
      refine ⟨(i + 1, part8 s v (i + 1)), ⟨by simp only; omega, rfl⟩, by simp only; omega, ?_⟩
      dsimp only
      conv => whnf
      (refine GOES.cutting h0 rfl rfl rfl (by first | rfl | (simp only [belowO, belowH, plainLL_below _ (plainWs _), Bool.and_self, Bool.and_true] <;> rfl)) ?_ ?_ <;> (repeat' (first | (with_reducible rfl) | (exact congrArg (SV.int _) (by first | omega | (simp (disch := omega) only [lnB, wrap64, wrap32] <;> omega) | (simp; done) | (simp <;> omega))) | (exact congrArg (Hp.rows _) (by (rw [uwAdd, show ((i : Nat) : Int).toNat = i by omega, ws_set, hls, hl, part8_set s v h]))) | ((conv => whnf); refine ⟨?_, ?_⟩) | exact trivial | rfl)))
    · have h : i = 8 := by simp at h; omega
      subst h
      subst hl
      conv => whnf
      repeat' ((first | with_reducible refine IF.tt ?_ | with_reducible refine IF.ff ?_ | (refine NEED.mk (by and_intros <;> (first | rfl | omega)) ?_; conv => whnf) | ((with_reducible refine NEED.mk ?_ ?_); (first | with_reducible rfl | omega | (simp (disch := omega) only [lnB, wrap64, wrap32] <;> omega) | (intro h; (try simp (disch := omega) only [hsB, hsC, lnB, wrap64, wrap32, simprocAttr] at h); (first | omega | (simp (disch := omega) only [lnB, wrap64, wrap32] <;> omega))) | (exact needApp 256 rfl rfl (by simp) (by simp) (by omega)) | (simp <;> omega))) | ((with_reducible apply GET.at); rfl) | ((with_reducible apply GETG.at); rfl) | ((with_reducible refine UNK.mk (fun h => ?_) ?_) <;> try (exfalso; omega)) | ((with_reducible refine IF.mk (fun h => ?_) (fun h => ?_)) <;> (try simp (disch := omega) only [hsB, hsC, lnB, wrap64, wrap32, simprocAttr] at h) <;> try (exfalso; omega))) <;> conv => whnf)
      exact FIN.arrAgg h0 rfl ⟨rfl, rfl, rfl⟩
end Go.Proofs.YtjgjfeicenkceaaDoor
/- The digest by the document: padding, blocks, bytes. Conditions: none. -/
set_option linter.unusedVariables false
set_option linter.unusedSimpArgs false
set_option maxRecDepth 20000
namespace Go.Proofs.YtjgjfeicenkceaaDoor
open Go.Sx Go.Our
theorem does_args {P : Program} {T : Tab} {f : FuncId} {k : Nat} {args args' : List SV} {O S : Hps} {Q : SV → Hps → Nat → Prop} (h : Does P T f k args O S Q) (hd : ∀ η vs, DenL η args' vs → DenL η args vs) : Does P T f k args' O S Q :=
  ⟨fun M vs h1 h2 h3 h4 h5 h6 => h.out M vs h1 h2 h3 h4 h5 (hd _ _ h6)⟩
theorem denL_arr8 {η : Env} {s : S8} {xs : List SV} {vs : List Value} (h : DenL η (.arr 1 (rows8 s) :: xs) vs) : DenL η (.agg (cells8 s) :: xs) vs := by
  simp only [DenL] at h ⊢
  obtain ⟨u, us, h1, h2, h3⟩ := h
  exact ⟨u, us, h1, den_arrAgg h2, h3⟩
theorem CALL.bytes1 {M : Mx} {O : Hps} {nx : Nat} {f : FuncId} {args argsc : List SV} {K : SV → Hps → Nat → Prop} {es : Nat} {rs : List (List SV)} {l : List UInt8} (i : Nat) (sp : Does M.P M.C.T f 1 argsc [] [(0, .rows es rs)] (NewBytes 1 l))
    (ha : args = renL (cname [i] nx) argsc) (hi : Nat.blt i nx = true) (hb : belowL 1 argsc = true) (hO : hLook M.C O (.loc i) = some (.rows es rs)) (hp : plainLL rs = true) (hK : K (.sl (.loc nx) 0 1 l.length none) ((nx, .rows 1 (l.map Sx.bytesRow)) :: O) (nx + 1)) : CALL M f args O nx K := by
  refine CALL.of [i] sp rfl (fun j hj => by simp [Nat.blt_eq] at hi hj; omega) ha hb (fun p hp => by cases hp) (fun j hj => by cases hj) (fun p hp' => ?_) ?_
  · have hp' := List.mem_singleton.1 hp'
    subst hp'
    refine ⟨by simp, ?_, plainH_below _ hp, by simp [namesOf]⟩
    rw [show renH (cname [i] nx) (.rows es rs) = .rows es rs from renH_plain _ hp]
    exact hO
  · rintro r' O' nx' ⟨rfl, rfl, rfl⟩
    simp only [ren, renB, renO, renH, renLL_plain _ (plainBytes l), cname_ge (L := [i]) (nx := nx) (k := 1) rfl, namesOf, List.map_nil, outside_nil, List.cons_append, List.nil_append]
    exact hK
theorem noughts_iff {n k : Nat} (hk : k ≤ noughts n) : (n + 1 + k) % 64 = 56 ↔ k = noughts n := by unfold noughts at *; omega
theorem be8_step (N : Nat) {k : Nat} (h : k < 8) : (be8 N).take k ++ [beByte N (7 - k)] = (be8 N).take (k + 1) := by
  match k, h with
  | 0, _ => rfl
  | 1, _ => rfl
  | 2, _ => rfl
  | 3, _ => rfl
  | 4, _ => rfl
  | 5, _ => rfl
  | 6, _ => rfl
  | 7, _ => rfl
theorem u8_of {N : Nat} : IntKind.u8.wrap (N : Int) = ((UInt8.ofNat (N % 256)).toNat : Int) := by
  rw [IntKind.wrap_u8']
  have : (UInt8.ofNat (N % 256)).toNat = N % 256 := by simp
  rw [this]; omega
theorem beI {N : Nat} {e : Int} {k : Nat} (hk : k < 8) (he : e = 8 * ((7 - k : Nat) : Int)) : [SV.int .u8 (IntKind.u8.wrap (iShr .u64 (N : Int) e))] = Sx.bytesRow (beByte N (7 - k)) := by
  subst he
  have h1 : iShr .u64 (N : Int) (8 * ((7 - k : Nat) : Int)) = ((N / 2 ^ (8 * (7 - k)) : Nat) : Int) := by
    unfold iShr
    rw [show (8 * ((7 - k : Nat) : Int)).toNat = 8 * (7 - k) by omega, Nat.min_eq_left (by show _ ≤ 64; omega), show (2 : Int) ^ (8 * (7 - k)) = ((2 ^ (8 * (7 - k)) : Nat) : Int) by norm_cast, Int.fdiv_eq_ediv_of_nonneg _ (Int.natCast_nonneg _)]
    norm_cast
  rw [h1, u8_of]
  rfl
theorem map_app {l : List (List SV)} {x : List UInt8} {c : UInt8} {r : List SV} (hl : l = x.map Sx.bytesRow) (hr : r = Sx.bytesRow c) {n : Nat} (hn : x.length ≤ n) : l.take n ++ [r] = (x ++ [c]).map Sx.bytesRow := by
  subst hl hr
  rw [List.take_of_length_le (by simpa using hn)]
  simp
theorem app1 {l : List UInt8} {m : Nat} {r : List SV} {c : UInt8} (hm : l.length ≤ m) (hr : r = Sx.bytesRow c) : List.take m (l.map Sx.bytesRow) ++ List.take 1 (List.drop 0 [r]) = (l ++ [c]).map Sx.bytesRow := by
  subst hr
  rw [List.take_of_length_le (by simpa using hm)]
  simp
set_option maxHeartbeats 4000000 in
theorem padded_does (b : List UInt8) (r n : Nat) (hr : r + n ≤ b.length) (hb : b.length ≤ 140737488351232) : Does Tryd.prog tab 29 1 [.sl (.loc 0) r 1 n none] [] [(0, .rows 1 (b.map Sx.bytesRow))] (NewBytes 1 (padM ((b.drop r).take n) n)) := by
  obtain ⟨x, hx⟩ : ∃ x, x = (b.drop r).take n := ⟨_, rfl⟩
  have hxl : x.length = n := by rw [hx]; simp; omega
  have hno : noughts n < 64 := by unfold noughts; omega
  have hrow : ((b.map Sx.bytesRow).drop r).take n = x.map Sx.bytesRow := by rw [hx, List.map_take, List.map_drop]
  rw [← hx]
  refine Does.enter tabOK (g := 29) (fn := Tryd.f29) Tryd.call29 Tryd.func29 rfl 37 rfl rfl [.tmp 2] rfl ?_
  intro w0 F η0 h0
  conv => whnf
  repeat' ((first | with_reducible refine IF.tt ?_ | with_reducible refine IF.ff ?_ | (rw [hrow]; conv => whnf) | (refine NEED.mk (needApp 1 rfl rfl (by first | (simp; done) | (simp; omega)) (by first | (simp; done) | (simp; omega)) (by omega)) ?_; conv => whnf) | ((with_reducible refine NEED.mk ?_ ?_); (first | with_reducible rfl | omega | (simp (disch := omega) only [lnB, wrap64, wrap32] <;> omega) | (intro h; (try simp (disch := omega) only [hsB, hsC, lnB, wrap64, wrap32, simprocAttr] at h); (first | omega | (simp (disch := omega) only [lnB, wrap64, wrap32] <;> omega))) | (exact needApp 256 rfl rfl (by simp) (by simp) (by omega)) | (simp <;> omega))) | ((with_reducible apply GET.at); rfl) | ((with_reducible apply GETG.at); rfl) | ((with_reducible refine UNK.mk (fun h => ?_) ?_) <;> try (exfalso; omega)) | ((with_reducible refine IF.mk (fun h => ?_) (fun h => ?_)) <;> (try simp (disch := omega) only [hsB, hsC, lnB, wrap64, wrap32, simprocAttr] at h) <;> try (exfalso; omega))) <;> conv => whnf)
  refine LOOP.go tabOK [0] (X := Nat) (fun k => k ≤ noughts n) (fun k => [(3, .sl (.loc 1) 0 1 (n + 1 + k) none)]) (fun k => [(1, .rows 1 ((x ++ [128] ++ List.replicate k 0).map Sx.bytesRow))]) 2 (fun k => noughts n - k) 0 (by omega) ?_
  conv => whnf
  refine ⟨by (refine GOES.keeping h0 [4] rfl rfl rfl (by first | rfl | (simp only [belowO, belowH, plainLL_below _ (plainBytes _), Bool.and_self, Bool.and_true] <;> rfl)) ?_ ?_ <;> (repeat' (first | (with_reducible rfl) | (exact rows_eq (plainBytes _) (renLL_plain _ (plainBytes _))) | (exact rows_eq (plainBytes _) (by simp [Sx.bytesRow, hxl, ofVal, List.take_of_length_le])) | (exact sl_eq rfl (by simp)) | (exact congrArg (SV.int _) (by first | omega | (simp (disch := omega) only [lnB, wrap64, wrap32] <;> omega) | (simp; done) | (simp <;> omega))) | ((conv => whnf); refine ⟨?_, ?_⟩) | exact trivial | (simp only [ren, renB]; done) | rfl))), ?_⟩
  rintro k hk
  have hiff := noughts_iff hk
  have hmod : Int.tmod ((n + 1 + k : Nat) : Int) 64 = ((n + 1 + k) % 64 : Nat) := by rw [Int.tmod_eq_emod_of_nonneg (by omega)]; omega
  conv => whnf
  repeat' ((first | with_reducible refine IF.tt ?_ | with_reducible refine IF.ff ?_ | (rw [hmod]; conv => whnf) | (refine NEED.mk (needApp 1 rfl rfl (by first | (simp; done) | (simp; omega)) (by first | (simp; done) | (simp; omega)) (by omega)) ?_; conv => whnf) | ((with_reducible refine NEED.mk ?_ ?_); (first | with_reducible rfl | omega | (simp (disch := omega) only [lnB, wrap64, wrap32] <;> omega) | (intro h; (try simp (disch := omega) only [hsB, hsC, lnB, wrap64, wrap32, simprocAttr] at h); (first | omega | (simp (disch := omega) only [lnB, wrap64, wrap32] <;> omega))) | (exact needApp 256 rfl rfl (by simp) (by simp) (by omega)) | (simp <;> omega))) | ((with_reducible apply GET.at); rfl) | ((with_reducible apply GETG.at); rfl) | ((with_reducible refine UNK.mk (fun h => ?_) ?_) <;> try (exfalso; omega)) | ((with_reducible refine IF.mk (fun h => ?_) (fun h => ?_)) <;> (try simp (disch := omega) only [hsB, hsC, lnB, wrap64, wrap32, simprocAttr] at h) <;> try (exfalso; omega))) <;> conv => whnf)
  · refine ⟨k + 1, by omega, by omega, ?_⟩
    conv => whnf
    (refine GOES.keeping h0 [3] rfl rfl rfl (by first | rfl | (simp only [belowO, belowH, plainLL_below _ (plainBytes _), Bool.and_self, Bool.and_true] <;> rfl)) ?_ ?_ <;> (repeat' (first | (with_reducible rfl) | (exact rows_eq (plainBytes _) (renLL_plain _ (plainBytes _))) | (exact rows_eq (plainBytes _) (by (rw [List.replicate_succ', ← List.append_assoc]; exact app1 (by simp [hxl]; omega) rfl))) | (exact sl_eq rfl (by simp)) | (exact congrArg (SV.int _) (by first | omega | (simp (disch := omega) only [lnB, wrap64, wrap32] <;> omega) | (simp; done) | (simp <;> omega))) | ((conv => whnf); refine ⟨?_, ?_⟩) | exact trivial | (simp only [ren, renB]; done) | rfl)))
  · have hk : k = noughts n := hiff.1 (by omega)
    obtain ⟨y, hy⟩ : ∃ y, y = x ++ [128] ++ List.replicate k 0 := ⟨_, rfl⟩
    have hyl : y.length = n + 1 + k := by rw [hy]; simp [hxl]; omega
    have hfin : padM x n = y ++ be8 (n * 8) := by rw [hy, hk, ← hxl]; rfl
    rw [← hy, hfin, ← hyl]
    have hN : IntKind.u64.wrap (IntKind.u64.wrap (n : Int) * 8) = ((n * 8 : Nat) : Int) := by rw [IntWalk.u64_in (n : Int) ⟨by omega, by omega⟩, IntWalk.u64_in _ ⟨by omega, by omega⟩]; omega
    clear hy hk hiff hmod h hfin
    repeat' ((first | with_reducible refine IF.tt ?_ | with_reducible refine IF.ff ?_ | (rw [hN]; conv => whnf) | ((with_reducible refine NEED.mk ?_ ?_); (first | with_reducible rfl | omega | (simp (disch := omega) only [lnB, wrap64, wrap32] <;> omega) | (intro h; (try simp (disch := omega) only [hsB, hsC, lnB, wrap64, wrap32, simprocAttr] at h); (first | omega | (simp (disch := omega) only [lnB, wrap64, wrap32] <;> omega))) | (exact needApp 256 rfl rfl (by simp) (by simp) (by omega)) | (simp <;> omega))) | ((with_reducible apply GET.at); rfl) | ((with_reducible apply GETG.at); rfl) | ((with_reducible refine UNK.mk (fun h => ?_) ?_) <;> try (exfalso; omega)) | ((with_reducible refine IF.mk (fun h => ?_) (fun h => ?_)) <;> (try simp (disch := omega) only [hsB, hsC, lnB, wrap64, wrap32, simprocAttr] at h) <;> try (exfalso; omega))) <;> conv => whnf)
    refine LOOP.go tabOK [4] (X := Nat) (fun j => j ≤ 8) (fun j => [(3, .sl (.loc 1) 0 1 (y.length + j) none), (5, .int .i64 (j : Int))]) (fun j => [(1, .rows 1 ((y ++ (be8 (n * 8)).take j).map Sx.bytesRow))]) 2 (fun j => 8 - j) 0 (by omega) ?_
    conv => whnf
    refine ⟨by (refine GOES.keeping h0 [1] rfl rfl rfl (by first | rfl | (simp only [belowO, belowH, plainLL_below _ (plainBytes _), Bool.and_self, Bool.and_true] <;> rfl)) ?_ ?_ <;> (repeat' (first | (with_reducible rfl) | (exact rows_eq (plainBytes _) (renLL_plain _ (plainBytes _))) | (exact rows_eq (plainBytes _) (by simp [Sx.bytesRow, ofVal, List.take_of_length_le])) | (exact sl_eq rfl (by simp)) | (exact congrArg (SV.int _) (by first | omega | (simp (disch := omega) only [lnB, wrap64, wrap32] <;> omega) | (simp; done) | (simp <;> omega))) | ((conv => whnf); refine ⟨?_, ?_⟩) | exact trivial | (simp only [ren, renB]; done) | rfl))), ?_⟩
    rintro j hj
    have htl : ((be8 (n * 8)).take j).length = j := by simp [be8]; omega
    conv => whnf
    refine IF.mk (fun h => ?_) (fun h => ?_)
    · have h : j < 8 := by simp at h; omega
      have hw : IntKind.i64.wrap (56 - IntKind.i64.wrap (8 * (j : Int))) = 8 * ((7 - j : Nat) : Int) := by rw [wrap64 (a := 8 * (j : Int)) (by omega) (by omega), wrap64 (by omega) (by omega)]; omega
      conv => whnf
      repeat' ((first | with_reducible refine IF.tt ?_ | with_reducible refine IF.ff ?_ | (rw [hw]; conv => whnf) | (refine NEED.mk (needApp 1 rfl rfl rfl (by rw [List.length_map, List.length_append, htl]; exact Nat.le_refl _) (by omega)) ?_; conv => whnf) | ((with_reducible refine NEED.mk ?_ ?_); (first | with_reducible rfl | omega | (simp (disch := omega) only [lnB, wrap64, wrap32] <;> omega) | (intro h; (try simp (disch := omega) only [hsB, hsC, lnB, wrap64, wrap32, simprocAttr] at h); (first | omega | (simp (disch := omega) only [lnB, wrap64, wrap32] <;> omega))) | (exact needApp 256 rfl rfl (by simp) (by simp) (by omega)) | (simp <;> omega))) | ((with_reducible apply GET.at); rfl) | ((with_reducible apply GETG.at); rfl) | ((with_reducible refine UNK.mk (fun h => ?_) ?_) <;> try (exfalso; omega)) | ((with_reducible refine IF.mk (fun h => ?_) (fun h => ?_)) <;> (try simp (disch := omega) only [hsB, hsC, lnB, wrap64, wrap32, simprocAttr] at h) <;> try (exfalso; omega))) <;> conv => whnf)
      refine ⟨j + 1, by omega, by omega, ?_⟩
      conv => whnf
      (refine GOES.keeping h0 [3] rfl rfl rfl (by first | rfl | (simp only [belowO, belowH, plainLL_below _ (plainBytes _), Bool.and_self, Bool.and_true] <;> rfl)) ?_ ?_ <;> (repeat' (first | (with_reducible rfl) | (exact rows_eq (plainBytes _) (renLL_plain _ (plainBytes _))) | (exact rows_eq (plainBytes _) (by (rw [← be8_step _ h, ← List.append_assoc]; exact app1 (by rw [List.length_append, htl]; exact Nat.le_refl _) (beI h rfl)))) | (exact sl_eq rfl (by simp)) | (exact congrArg (SV.int _) (by first | omega | (simp (disch := omega) only [lnB, wrap64, wrap32] <;> omega) | (simp; done) | (simp <;> omega))) | ((conv => whnf); refine ⟨?_, ?_⟩) | exact trivial | (simp only [ren, renB]; done) | rfl)))
    · have h : j = 8 := by simp at h; omega
      subst h
      conv => whnf
      exact FIN.rows h0 1 1 _ (by rw [List.length_append]; rfl) rfl rfl (plainBytes _) ⟨rfl, rfl, rfl⟩
end Go.Proofs.YtjgjfeicenkceaaDoor
/- The digest by the document. Conditions: none. -/
set_option linter.unusedVariables false
set_option linter.unusedSimpArgs false
set_option maxRecDepth 20000
namespace Go.Proofs.YtjgjfeicenkceaaDoor
open Go.Sx Go.Our
def plSha60 : Plan := (planOf [(1, 1), (2, 1), (3, 1), (4, 1), (5, 1), (0, 2), (6, 0), (7, 0)])
theorem det_pos {b : Blk} {r es len : Nat} {lim : Option Nat} (h : 0 < len) : Det (.sl b r es len lim) := by
  intro η u u' h1 h2
  simp only [Den] at h1 h2
  rcases h1 with ⟨_, _, h0⟩ | ⟨e, o, g1, rfl, g3, g4, g5⟩
  · omega
  rcases h2 with ⟨_, _, h0⟩ | ⟨e', o', k1, rfl, k3, k4, k5⟩
  · omega
  rw [g1] at k1
  injection k1 with k1
  injection k1 with k1
  subst k1
  rw [g5 (.inl (by omega)), k5 (.inl (by omega))]
theorem det_arr8 (s : S8) : Det (.arr 1 (rows8 s)) := fun η u u' h h' => Det.of (v := .agg (cells8 s)) rfl η u u' (den_arrAgg h) (den_arrAgg h')
def outP (s : S8) (m : Nat) : List UInt8 := (outB s).take m ++ List.replicate (32 - m) 0
theorem outP_len (s : S8) {m : Nat} (h : m ≤ 32) : (outP s m).length = 32 := by simp [outP, outB_len]; omega
theorem outP_set (s : S8) {m : Nat} (h : m < 32) (c : UInt8) (hc : c = (outB s).getD m 0) : (outP s m).set m c = outP s (m + 1) := by
  subst hc
  have hl : ((outB s).take m).length = m := by simp [outB_len]; omega
  unfold outP
  have ht : (outB s).take (m + 1) = (outB s).take m ++ [(outB s).getD m 0] := by
    rw [List.take_add_one, List.getD_eq_getElem?_getD, List.getElem?_eq_getElem (by rw [outB_len]; exact h)]; rfl
  rw [List.set_append_right _ _ (by omega), hl, Nat.sub_self, show 32 - m = (32 - (m + 1)) + 1 by omega, List.replicate_succ, List.set_cons_zero, ht, List.append_assoc]
  rfl
theorem outP_full (s : S8) : outP s 32 = outB s := by unfold outP; rw [List.take_of_length_le (by rw [outB_len]; exact Nat.le_refl _)]; simp
theorem outB_get (s : S8) {i k : Nat} (hi : i < 8) (hk : k < 4) : (outB s).getD (4 * i + k) 0 = UInt8.ofNat (((L8 s).getD i 0 >>> (24 - 8 * k)).toNat % 256) := by
  have h1 : i = 0 ∨ i = 1 ∨ i = 2 ∨ i = 3 ∨ i = 4 ∨ i = 5 ∨ i = 6 ∨ i = 7 := by omega
  have h2 : k = 0 ∨ k = 1 ∨ k = 2 ∨ k = 3 := by omega
  rcases h1 with rfl | rfl | rfl | rfl | rfl | rfl | rfl | rfl <;> rcases h2 with rfl | rfl | rfl | rfl <;> rfl
theorem bytes_set (l : List UInt8) (i : Nat) (c : UInt8) : (l.map Sx.bytesRow).set i (Sx.bytesRow c) = (l.set i c).map Sx.bytesRow := by rw [List.map_set]
theorem uwU8 (a : BitVec 32) : IntKind.u8.wrap (Uw a) = ((UInt8.ofNat (a.toNat % 256)).toNat : Int) := by unfold Uw; exact u8_of
set_option maxHeartbeats 4000000 in
theorem rdigest_does (b : List UInt8) (r n : Nat) (hr : r + n ≤ b.length) (hb : b.length ≤ 140737488351232) : Does Tryd.prog tab 19 1 [.sl (.loc 0) r 1 n none] [] [(0, .rows 1 (b.map Sx.bytesRow))] (ValK 1 (.arr 1 ((digM ((b.drop r).take n)).map Sx.bytesRow))) := by
  obtain ⟨x, hx⟩ : ∃ x, x = (b.drop r).take n := ⟨_, rfl⟩
  have hxl : x.length = n := by rw [hx]; simp; omega
  have hpd := padded_does b r n hr hb
  have hno : noughts n < 64 := by unfold noughts; omega
  have hpl := padM_len x n
  rw [← hx] at hpd ⊢
  rw [hxl] at hpl
  have hdig : digM x = outB (foldB start8 (padM x n)) := by unfold digM; rw [hxl]
  rw [hdig]
  generalize padM x n = P at hpd hpl
  refine Does.enter tabOK (g := 19) (fn := Tryd.f19) Tryd.call19 Tryd.func19 rfl 47 rfl rfl [.cell 2 34] rfl ?_
  intro w0 F η0 h0
  conv => whnf
  repeat' ((first | with_reducible refine IF.tt ?_ | with_reducible refine IF.ff ?_ | ((with_reducible refine NEED.mk ?_ ?_); (first | with_reducible rfl | omega | (simp (disch := omega) only [lnB, wrap64, wrap32] <;> omega) | (intro h; (try simp (disch := omega) only [hsB, hsC, lnB, wrap64, wrap32, simprocAttr] at h); (first | omega | (simp (disch := omega) only [lnB, wrap64, wrap32] <;> omega))) | (exact needApp 256 rfl rfl (by simp) (by simp) (by omega)) | (simp <;> omega))) | ((with_reducible apply GET.at); rfl) | ((with_reducible apply GETG.at); rfl) | ((with_reducible refine UNK.mk (fun h => ?_) ?_) <;> try (exfalso; omega)) | ((with_reducible refine IF.mk (fun h => ?_) (fun h => ?_)) <;> (try simp (disch := omega) only [hsB, hsC, lnB, wrap64, wrap32, simprocAttr] at h) <;> try (exfalso; omega))) <;> conv => whnf)
  refine CALL.bytes1 0 hpd rfl rfl rfl rfl (plainBytes _) ?_
  conv => whnf
  repeat' ((first | with_reducible refine IF.tt ?_ | with_reducible refine IF.ff ?_ | refine CALL.value (start_does) rfl rfl ?_ | (refine NEED.mk (by first | exact ⟨rfl, rfl, rfl⟩ | exact ⟨rfl, rfl, rfl, rfl, rfl⟩) ?_; conv => whnf) | ((with_reducible refine NEED.mk ?_ ?_); (first | with_reducible rfl | omega | (simp (disch := omega) only [lnB, wrap64, wrap32] <;> omega) | (intro h; (try simp (disch := omega) only [hsB, hsC, lnB, wrap64, wrap32, simprocAttr] at h); (first | omega | (simp (disch := omega) only [lnB, wrap64, wrap32] <;> omega))) | (exact needApp 256 rfl rfl (by simp) (by simp) (by omega)) | (simp <;> omega))) | ((with_reducible apply GET.at); rfl) | ((with_reducible apply GETG.at); rfl) | ((with_reducible refine UNK.mk (fun h => ?_) ?_) <;> try (exfalso; omega)) | ((with_reducible refine IF.mk (fun h => ?_) (fun h => ?_)) <;> (try simp (disch := omega) only [hsB, hsC, lnB, wrap64, wrap32, simprocAttr] at h) <;> try (exfalso; omega))) <;> conv => whnf)
  refine LOOP.go tabOK [2, 3, 4] (X := Nat × S8) (fun x => 64 * x.1 ≤ P.length ∧ x.2 = foldN start8 P x.1) (fun x => [(5, .int .i64 ((64 * x.1 : Nat) : Int))]) (fun x => [(1, .rows 1 ((outP start8 0).map Sx.bytesRow)), (2, .rows 1 (P.map Sx.bytesRow)), (3, .rows 1 (rows8 x.2))]) 4 (fun x => P.length - 64 * x.1) (0, start8) ⟨by simp, rfl⟩ ?_
  conv => whnf
  refine ⟨by (refine GOES.cutting h0 rfl rfl rfl (by first | rfl | (simp only [belowO, belowH, plainLL_below _ (plainBytes _), Bool.and_self, Bool.and_true] <;> rfl)) ?_ ?_ <;> (repeat' (first | (with_reducible rfl) | (exact congrArg (SV.int _) (by first | omega | (simp (disch := omega) only [lnB, wrap64, wrap32] <;> omega) | (simp; done) | (simp <;> omega))) | (exact congrArg (Hp.rows _) (by rfl)) | ((conv => whnf); refine ⟨?_, ?_⟩) | exact trivial | rfl))), ?_⟩
  rintro ⟨k, s⟩ ⟨hk, hs⟩
  dsimp only at hk hs ⊢
  conv => whnf
  refine IF.mk (fun h => ?_) (fun h => ?_)
  · have h : 64 * k + 64 ≤ P.length := by simp at h; omega
    have hw : IntKind.i64.wrap (((64 * k : Nat) : Int) + 64) = ((64 * k + 64 : Nat) : Int) := by rw [wrap64 (by omega) (by omega)]; omega
    have hbl := does_args (rblock_does s P (64 * k) 64 (by omega) (by omega) (by omega)) (fun η vs => denL_arr8)
    conv => whnf
    repeat' ((first | with_reducible refine IF.tt ?_ | with_reducible refine IF.ff ?_ | refine DRAWN.of (id := 6) tabOK mixed plSha60 (by kernel_rfl) ?_ | with_reducible refine ADD.mk (fun _ _ => ?_) | with_reducible refine NEED.mk (Det.of rfl) ?_ | with_reducible refine FORK.mk ?_ ?_ | (refine NEED.mk (by first | exact ⟨rfl, rfl, rfl⟩ | exact ⟨rfl, rfl, rfl, rfl, rfl⟩) ?_; conv => whnf) | (rw [hw]; conv => whnf) | (refine NEED.mk ⟨by omega, by omega, by show _ ≤ ((P.length : Nat) : Int); omega⟩ ?_; conv => whnf) | (refine NEED.mk (det_pos (by omega)) ?_; conv => whnf) | (refine NEED.mk (det_arr8 s) ?_; conv => whnf) | (rw [show ((64 * k + 64 : Nat) : Int).toNat - ((64 * k : Nat) : Int).toNat = 64 by omega, show 0 + ((64 * k : Nat) : Int).toNat = 64 * k by omega]; conv => whnf) | (refine CALL.look1 2 hbl rfl rfl rfl rfl (plainBytes _) rfl ?_; conv => whnf) | ((with_reducible refine NEED.mk ?_ ?_); (first | with_reducible rfl | omega | (simp (disch := omega) only [lnB, wrap64, wrap32] <;> omega) | (intro h; (try simp (disch := omega) only [hsB, hsC, lnB, wrap64, wrap32, simprocAttr] at h); (first | omega | (simp (disch := omega) only [lnB, wrap64, wrap32] <;> omega))) | (exact needApp 256 rfl rfl (by simp) (by simp) (by omega)) | (simp <;> omega))) | ((with_reducible apply GET.at); rfl) | ((with_reducible apply GETG.at); rfl) | ((with_reducible refine UNK.mk (fun h => ?_) ?_) <;> try (exfalso; omega)) | ((with_reducible refine IF.mk (fun h => ?_) (fun h => ?_)) <;> (try simp (disch := omega) only [hsB, hsC, lnB, wrap64, wrap32, simprocAttr] at h) <;> try (exfalso; omega))) <;> conv => whnf)
    refine ⟨(k + 1, blockM s (P.drop (64 * k))), ⟨by simp only; omega, by simp only [hs]; rfl⟩, by simp only; omega, ?_⟩
    dsimp only
    conv => whnf
    (refine GOES.cutting h0 rfl rfl rfl (by first | rfl | (simp only [belowO, belowH, plainLL_below _ (plainBytes _), Bool.and_self, Bool.and_true] <;> rfl)) ?_ ?_ <;> (repeat' (first | (with_reducible rfl) | (exact congrArg (SV.int _) (by first | omega | (simp (disch := omega) only [lnB, wrap64, wrap32] <;> omega) | (simp; done) | (simp <;> omega))) | (exact congrArg (Hp.rows _) (by rfl)) | ((conv => whnf); refine ⟨?_, ?_⟩) | exact trivial | rfl)))
  · have h : k = P.length / 64 := by simp at h; omega
    have hf : s = foldB start8 P := by rw [hs, h]; rfl
    rw [← hf]
    clear hf hs hpd
    conv => whnf
    repeat' ((first | with_reducible refine IF.tt ?_ | with_reducible refine IF.ff ?_ | ((with_reducible refine NEED.mk ?_ ?_); (first | with_reducible rfl | omega | (simp (disch := omega) only [lnB, wrap64, wrap32] <;> omega) | (intro h; (try simp (disch := omega) only [hsB, hsC, lnB, wrap64, wrap32, simprocAttr] at h); (first | omega | (simp (disch := omega) only [lnB, wrap64, wrap32] <;> omega))) | (exact needApp 256 rfl rfl (by simp) (by simp) (by omega)) | (simp <;> omega))) | ((with_reducible apply GET.at); rfl) | ((with_reducible apply GETG.at); rfl) | ((with_reducible refine UNK.mk (fun h => ?_) ?_) <;> try (exfalso; omega)) | ((with_reducible refine IF.mk (fun h => ?_) (fun h => ?_)) <;> (try simp (disch := omega) only [hsB, hsC, lnB, wrap64, wrap32, simprocAttr] at h) <;> try (exfalso; omega))) <;> conv => whnf)
    refine LOOP.go tabOK [2, 4, 6] (X := Nat) (fun i => i ≤ 8) (fun i => [(7, .int .i64 (i : Int))]) (fun i => [(1, .rows 1 ((outP start8 0).map Sx.bytesRow)), (3, .rows 1 ((L8 s).map w32)), (4, .rows 1 ((outP s (4 * i)).map Sx.bytesRow))]) 5 (fun i => 8 - i) 0 (by omega) ?_
    conv => whnf
    refine ⟨by (refine GOES.cutting h0 rfl rfl rfl (by first | rfl | (simp only [belowO, belowH, plainLL_below _ (plainBytes _), Bool.and_self, Bool.and_true] <;> rfl)) ?_ ?_ <;> (repeat' (first | (with_reducible rfl) | (exact congrArg (SV.int _) (by first | omega | (simp (disch := omega) only [lnB, wrap64, wrap32] <;> omega) | (simp; done) | (simp <;> omega))) | (exact congrArg (Hp.rows _) (by rfl)) | ((conv => whnf); refine ⟨?_, ?_⟩) | exact trivial | rfl))), ?_⟩
    rintro i hi
    conv => whnf
    refine IF.mk (fun h => ?_) (fun h => ?_)
    · have h : i < 8 := by simp at h; omega
      conv => whnf
      refine LOOP.go tabOK [2, 4, 6, 7] (X := Nat) (fun j => j ≤ 4) (fun j => [(8, .int .i64 (j : Int))]) (fun j => [(1, .rows 1 ((outP start8 0).map Sx.bytesRow)), (3, .rows 1 ((L8 s).map w32)), (4, .rows 1 ((outP s (4 * i + j)).map Sx.bytesRow))]) 5 (fun j => 4 - j) 0 (by omega) ?_
      conv => whnf
      refine ⟨by (refine GOES.cutting h0 rfl rfl rfl (by first | rfl | (simp only [belowO, belowH, plainLL_below _ (plainBytes _), Bool.and_self, Bool.and_true] <;> rfl)) ?_ ?_ <;> (repeat' (first | (with_reducible rfl) | (exact congrArg (SV.int _) (by first | omega | (simp (disch := omega) only [lnB, wrap64, wrap32] <;> omega) | (simp; done) | (simp <;> omega))) | (exact congrArg (Hp.rows _) (by rfl)) | ((conv => whnf); refine ⟨?_, ?_⟩) | exact trivial | rfl))), ?_⟩
      rintro j hj
      conv => whnf
      refine IF.mk (fun h2 => ?_) (fun h2 => ?_)
      · have h2 : j < 4 := by simp at h2; omega
        have hw1 : IntKind.i64.wrap (IntKind.i64.wrap (4 * (i : Int)) + (j : Int)) = ((4 * i + j : Nat) : Int) := by rw [wrap64 (a := 4 * (i : Int)) (by omega) (by omega), wrap64 (by omega) (by omega)]; omega
        have hw2 : IntKind.i64.wrap (24 - IntKind.i64.wrap (8 * (j : Int))) = ((24 - 8 * j : Nat) : Int) := by rw [wrap64 (a := 8 * (j : Int)) (by omega) (by omega), wrap64 (by omega) (by omega)]; omega
        have hin : ((i : Nat) : Int).toNat = i := by omega
        have hval : [SV.int .u8 (IntKind.u8.wrap (iShr .u32 (Uw ((L8 s).getD i 0)) ((24 - 8 * j : Nat) : Int)))] = Sx.bytesRow ((outB s).getD (4 * i + j) 0) := by
          rw [uwShr _ _ ⟨by omega, by omega⟩, uwU8, outB_get s h h2, Int.toNat_natCast]; rfl
        conv => whnf
        repeat' ((first | with_reducible refine IF.tt ?_ | with_reducible refine IF.ff ?_ | (rw [hw1]; conv => whnf) | (rw [hw2]; conv => whnf) | (refine GET.at (row := w32 ((L8 s).getD i 0)) (by rw [hin]; exact ws_at (by show i < 8; omega)) ?_; conv => whnf) | (refine GET.at (row := Sx.bytesRow ((outP s (4 * i + j)).getD (4 * i + j) 0)) (by rw [Int.toNat_natCast]; exact bytes_at (by rw [outP_len s (by omega)]; omega)) ?_; conv => whnf) | ((with_reducible refine NEED.mk ?_ ?_); (first | with_reducible rfl | omega | (simp (disch := omega) only [lnB, wrap64, wrap32] <;> omega) | (intro h; (try simp (disch := omega) only [hsB, hsC, lnB, wrap64, wrap32, simprocAttr] at h); (first | omega | (simp (disch := omega) only [lnB, wrap64, wrap32] <;> omega))) | (exact needApp 256 rfl rfl (by simp) (by simp) (by omega)) | (simp <;> omega))) | ((with_reducible apply GET.at); rfl) | ((with_reducible apply GETG.at); rfl) | ((with_reducible refine UNK.mk (fun h => ?_) ?_) <;> try (exfalso; omega)) | ((with_reducible refine IF.mk (fun h => ?_) (fun h => ?_)) <;> (try simp (disch := omega) only [hsB, hsC, lnB, wrap64, wrap32, simprocAttr] at h) <;> try (exfalso; omega))) <;> conv => whnf)
        refine ⟨j + 1, by omega, by omega, ?_⟩
        conv => whnf
        (refine GOES.cutting h0 rfl rfl rfl (by first | rfl | (simp only [belowO, belowH, plainLL_below _ (plainBytes _), Bool.and_self, Bool.and_true] <;> rfl)) ?_ ?_ <;> (repeat' (first | (with_reducible rfl) | (exact congrArg (SV.int _) (by first | omega | (simp (disch := omega) only [lnB, wrap64, wrap32] <;> omega) | (simp; done) | (simp <;> omega))) | (exact congrArg (Hp.rows _) (by (rw [Int.toNat_natCast, hval, bytes_set, outP_set s (by omega) _ rfl]; rfl))) | ((conv => whnf); refine ⟨?_, ?_⟩) | exact trivial | rfl)))
      · have h2 : j = 4 := by simp at h2; omega
        subst h2
        conv => whnf
        repeat' ((first | with_reducible refine IF.tt ?_ | with_reducible refine IF.ff ?_ | ((with_reducible refine NEED.mk ?_ ?_); (first | with_reducible rfl | omega | (simp (disch := omega) only [lnB, wrap64, wrap32] <;> omega) | (intro h; (try simp (disch := omega) only [hsB, hsC, lnB, wrap64, wrap32, simprocAttr] at h); (first | omega | (simp (disch := omega) only [lnB, wrap64, wrap32] <;> omega))) | (exact needApp 256 rfl rfl (by simp) (by simp) (by omega)) | (simp <;> omega))) | ((with_reducible apply GET.at); rfl) | ((with_reducible apply GETG.at); rfl) | ((with_reducible refine UNK.mk (fun h => ?_) ?_) <;> try (exfalso; omega)) | ((with_reducible refine IF.mk (fun h => ?_) (fun h => ?_)) <;> (try simp (disch := omega) only [hsB, hsC, lnB, wrap64, wrap32, simprocAttr] at h) <;> try (exfalso; omega))) <;> conv => whnf)
        refine ⟨i + 1, by omega, by omega, ?_⟩
        conv => whnf
        (refine GOES.cutting h0 rfl rfl rfl (by first | rfl | (simp only [belowO, belowH, plainLL_below _ (plainBytes _), Bool.and_self, Bool.and_true] <;> rfl)) ?_ ?_ <;> (repeat' (first | (with_reducible rfl) | (exact congrArg (SV.int _) (by first | omega | (simp (disch := omega) only [lnB, wrap64, wrap32] <;> omega) | (simp; done) | (simp <;> omega))) | (exact congrArg (Hp.rows _) (by rfl)) | ((conv => whnf); refine ⟨?_, ?_⟩) | exact trivial | rfl)))
    · have h : i = 8 := by simp at h; omega
      subst h
      conv => whnf
      repeat' ((first | with_reducible refine IF.tt ?_ | with_reducible refine IF.ff ?_ | (refine NEED.mk (by first | exact ⟨rfl, rfl, rfl⟩ | exact ⟨rfl, rfl, rfl, rfl, rfl⟩) ?_; conv => whnf) | ((with_reducible refine NEED.mk ?_ ?_); (first | with_reducible rfl | omega | (simp (disch := omega) only [lnB, wrap64, wrap32] <;> omega) | (intro h; (try simp (disch := omega) only [hsB, hsC, lnB, wrap64, wrap32, simprocAttr] at h); (first | omega | (simp (disch := omega) only [lnB, wrap64, wrap32] <;> omega))) | (exact needApp 256 rfl rfl (by simp) (by simp) (by omega)) | (simp <;> omega))) | ((with_reducible apply GET.at); rfl) | ((with_reducible apply GETG.at); rfl) | ((with_reducible refine UNK.mk (fun h => ?_) ?_) <;> try (exfalso; omega)) | ((with_reducible refine IF.mk (fun h => ?_) (fun h => ?_)) <;> (try simp (disch := omega) only [hsB, hsC, lnB, wrap64, wrap32, simprocAttr] at h) <;> try (exfalso; omega))) <;> conv => whnf)
      refine FIN.valueK h0 (plainBytes _) ?_
      rw [← outP_full]
      rfl
end Go.Proofs.YtjgjfeicenkceaaDoor
