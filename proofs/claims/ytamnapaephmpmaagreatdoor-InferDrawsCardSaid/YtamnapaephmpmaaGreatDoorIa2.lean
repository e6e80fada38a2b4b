/- Part 2 of the texts that the last one leans on: SxDrawnT, Tab, ReadM, Glob, Utf1, Utf04, StrLib, Iri, Iri2, Names1, Part1, Split1, SxAuto3. Conditions: as each part says. -/
import Derived.Test.YtamnapaephmpmaaGreatDoorProg
import Derived.Test.YtamnapaephmpmaaGreatDoorRows
import Derived.Lib.LaidTab
import Derived.LaidSub
import Derived.Lib.Bytealg
import Derived.Test.YtamnapaephmpmaaGreatDoorIa1
/- Regions whose order is drawn: the walk in one order is sound for every order. Conditions: none. -/
set_option linter.unusedVariables false
set_option linter.unusedSimpArgs false
namespace Go.Sx
open Go
/-- Until one of these has come up, what stood in that world stands. -/
def SS (ks : List Nat) (wc : World) (l : Array Bool) (w : World) : Prop := (∀ k ∈ ks, l.getD k false = false) → agree wc w
section
variable {M : Mx} {ops : Array Oper} {Q : Exit → Act → World → Prop}
theorem killsOf_quiet {i m : Nat} {rest : Plan} (h : m ≠ 0) : killsOf (.take i m rest) = killsOf rest := by
  cases m with
  | zero => exact (h rfl).elim
  | succ m => rfl
theorem killsOf_kill {i : Nat} {rest : Plan} : killsOf (.take i 0 rest) = i :: killsOf rest := rfl
theorem getD_false_of_true {l : Array Bool} {i : Nat} (h : l.getD i true = false) : l.getD i false = false := by
  rcases Nat.lt_or_ge i l.size with h' | h'
  · simp [h'] at h ⊢; exact h
  · simp [Array.getElem?_eq_none h'] at h
theorem models_put {η : Env} {fr : Fr} {O : Hps} {nx : Nat} {a : Act} {w : World} (hm : Models M η fr O nx a w) {o : Oper} (hd : dstOk M.C.N o.dst = true) {u : Value} {v : SV} (hv : Den η v u) {Kp : Fr → Prop} (hk : putK o.dst v fr Kp) :
    ∃ fr', Kp fr' ∧ Models M η fr' O nx (a.put o.dst u) w := hm.put hd List.prefix_rfl hm.heap hv hk
/-- A quiet operation, taken first. -/
theorem quiet_first (hQ : ∀ c a w, ¬ Q (.panic c) a w) (hs : Region.noSelect ops = true) {i n : Nat} {o : Oper} {l : Array Bool} {ks : List Nat} (ho : ops[i]? = some o) (hready : i ∈ Region.ready .any ops l) (hfree : Region.free .any ops l i = true) (hne : ∀ k ∈ ks, k ≠ i) (hc : Closed .any ops l)
    {N : World → Prop} {wc : World} (hN : ∀ l w, Closed .any ops l → l.getD i true = false → SS ks wc l w → N w) {a : Act} {w : World} {u : Value} (hy : YieldsN M.P ops N o u a) (hag : agree wc w)
    (h : wpH M.P .any ops Q (SS ks wc) n (l.setIfInBounds i true) (a.put o.dst u) w) : wpH M.P .any ops Q (SS ks wc) (n + 1) l a w := by
  refine wpH_first ho (Region.noSelect_spec hs) (fun c a w hq => (hQ _ _ _ hq).elim) hN (fun l' w' hc' hun hr hS hk => hS fun k hk' => ?_) n l a w hc (Region.free_spec ho hfree) hready hy (fun _ => hag) (fun _ => hag) h
  rw [getD_set_ne false (Ne.symm (hne k hk'))]; exact hk k hk'
theorem HeapOK.drawn {η : Env} {w : World} {O : Hps} {nx : Nat} (H : HeapOK M η w O nx) {n : Nat} (hn : w.drawn ≤ n) : HeapOK M η { w with drawn := n } O nx :=
  ⟨H.pre, H.len, ⟨fun i h hi => ⟨(H.own.1 i h hi).1.keep fun _ _ => rfl, (H.own.1 i h hi).2⟩, H.own.2⟩, ⟨H.fr.os, H.fr.tape, H.fr.output, Nat.le_trans H.fr.drawn hn, H.fr.size, H.fr.block⟩, H.sok⟩
theorem modeOK_of {m : Nat} (h : modeOK m = true) : m = 0 ∨ m = 3 := by
  unfold modeOK at h
  simpa using h
theorem killIf_mem {i m : Nat} {l : List Nat} {x : Nat} (h : x ∈ l) : x ∈ killIf i m l := by
  cases m with
  | zero => exact List.mem_cons_of_mem _ h
  | succ m => exact h
theorem killIf_self {i : Nat} {l : List Nat} : i ∈ killIf i 0 l := List.mem_cons_self ..
/-- One operation, in a mode that may write or in one that adds: whatever comes of it. -/
theorem oneD_op (hT : TabOK M.P M.C.T) {i m : Nat} (hmode : m = 0 ∨ m = 3) {fr : Fr} {O : Hps} {nx : Nat} {Kn : Fr → Hps → Nat → Prop} (h : oneD M ops.toList i m fr O nx Kn) {η : Env} {a : Act} {w : World} (hm : Models M η fr O nx a w) {R : Act → World → Prop}
    (hR : ∀ {fr : Fr} {O : Hps} {nx : Nat} {η : Env} {a : Act} {w' : World}, Kn fr O nx → Models M η fr O nx a w' → (m = 3 → agree w w') → R a w') : wpOp M.P ops Q i R a w := by
  unfold oneD at h
  split at h
  · exact h.out.elim
  rename_i o ho
  have ho : ops[i]? = some o := by rw [nth_get] at ho; simpa using ho
  have skip : ∀ {fr' : Fr}, Models M η fr' O nx a w → Region.wanted o (yielded ops a.tmps) ≠ true → (match dstOk M.C.N o.dst with | true => putK o.dst undefS fr' fun fr => Kn fr O nx | false => STOP "slot") → wpOp M.P ops Q i R a w := by
    intro fr' hm' hw h
    split at h
    case h_2 => exact h.out.elim
    rename_i hd
    obtain ⟨fr2, h1, h2⟩ := models_put hm' hd (denNone η) h
    unfold wpOp
    simp only [ho]
    rw [if_neg hw]; exact hR h1 h2 fun _ => agree.refl w
  have go : ∀ {fr' : Fr}, Models M η fr' O nx a w → Region.wanted o (yielded ops a.tmps) = true → (carry M m o fr' O nx fun v O nx => putK o.dst v fr' fun fr => Kn fr O nx) → wpOp M.P ops Q i R a w := by
    intro fr' hm' hw h
    unfold wpOp
    simp only [ho]
    rw [if_pos hw]
    rcases hmode with rfl | rfl
    · have h : stepO M o (lookF fr') O nx fun v O nx => putK o.dst v fr' fun fr => Kn fr O nx := h
      refine .inl (stepO_wp hT hm' (fun x sv hx => lookF_den hm'.frame hx) h fun u v O' nx' η' w' hd hp hH hv hk => ?_)
      obtain ⟨fr2, h1, h2⟩ := hm'.put hd hp hH hv hk
      exact hR h1 h2 fun h => by cases h
    · have h : ADD M o fr' O nx fun v O nx => putK o.dst v fr' fun fr => Kn fr O nx := h
      have hm2 : Models (shMx M O η w) η fr' [] nx a w := ⟨hm'.heap.read (agree.refl w), hm'.size, hm'.defers, hm'.frame⟩
      refine .inl (stepO_wp (M := shMx M O η w) hT hm2 (fun x sv hx => lookF_den hm'.frame hx) (h.out η w) fun u v O2 nx2 η' w' hd hp hH hv hk => ?_)
      obtain ⟨hJ, hag2⟩ := hm'.heap.join hH
      obtain ⟨fr2, h1, h2⟩ := hm'.put hd hp hJ hv hk
      exact hR h1 h2 fun _ => hag2
  split at h
  · rename_i hg
    exact go hm (wanted_none hg) h
  · rename_i j want hg
    split at h
    · exact h.out.elim
    rename_i s hsl
    split at h
    · rename_i b hb
      have hbv := denBool (hm.frame s _ hb)
      have hy := yielded_of hsl hbv
      cases b with
      | true =>
        have h := h.t rfl
        have hm' : Models M η ((s, .bool true) :: fr) O nx a w := ⟨hm.heap, hm.size, hm.defers, hm.frame.know hbv⟩
        cases want with
        | true => exact go hm' ((wanted_some hg).2 hy) h
        | false => exact skip hm' (fun hw => by rw [wanted_some hg, hy] at hw; cases hw) h
      | false =>
        have h := h.f rfl
        have hm' : Models M η ((s, .bool false) :: fr) O nx a w := ⟨hm.heap, hm.size, hm.defers, hm.frame.know hbv⟩
        cases want with
        | false => exact go hm' ((wanted_some hg).2 hy) h
        | true => exact skip hm' (fun hw => by rw [wanted_some hg, hy] at hw; cases hw) h
    · rename_i hb
      have hbv := hm.frame s _ hb
      simp only [Den, DenL] at hbv
      obtain ⟨vs, hbv, rfl⟩ := hbv
      exact skip hm (fun hw => by rw [wanted_some hg] at hw; exact yielded_not hsl (by rw [hbv]; simp) hw) h
    · exact h.out.elim
/-- One arm of a fork. -/
theorem arm (hT : TabOK M.P M.C.T) {fk t : Plan} {d : Nat} {fr : Fr} {O : Hps} {nx : Nat} {K : Fr → Hps → Nat → Prop} {η : Env} {a : Act} {w wc : World} {l : Array Bool} (hm : Models M η fr O nx a w) (hag : agree wc w) (hc : Closed .any ops l)
    {x m : Nat} (hmo : modeOK m = true) (hx : x ∈ Region.ready .any ops l) (hxk : m = 0 → x ∈ killsOf fk) (hsub : ∀ k ∈ killsOf t, k ∈ killsOf fk) (hd : t.depth = d)
    (ih : ∀ {fr : Fr} {O : Hps} {nx : Nat} {η : Env} {a : Act} {w wc : World}, runD M ops.toList t fr O nx K → Models M η fr O nx a w → agree wc w → wpH M.P .any ops Q (SS (killsOf t) wc) t.depth (l.setIfInBounds x true) a w)
    (hrun : oneD M ops.toList x m fr O nx fun fr O nx => runD M ops.toList t fr O nx K) :
    wpOp M.P ops Q x (fun a' w' => SS (killsOf fk) wc (l.setIfInBounds x true) w' ∧ wpH M.P .any ops Q (SS (killsOf fk) wc) d (l.setIfInBounds x true) a' w') a w := by
  have hin : x < l.size := by
    obtain ⟨h1, o, ho, _⟩ := mem_ready.1 hx
    rw [hc.1]; exact (Array.getElem?_eq_some_iff.1 ho).1
  have hset : (l.setIfInBounds x true).getD x false = true := by simp [hin]
  refine oneD_op hT (modeOK_of hmo) hrun hm fun {fr O nx η a w'} hk hm' hag' => ?_
  rcases modeOK_of hmo with h0 | h3
  · have hno : ∀ l' w', Grows (l.setIfInBounds x true) l' → SS (killsOf fk) wc l' w' := by
      intro l' w' hg hk
      have h1 := hk x (hxk h0)
      rw [hg x hset] at h1; cases h1
    refine ⟨hno _ _ (fun _ h => h), ?_⟩
    have := ih hk hm' (agree.refl _)
    rw [hd] at this
    exact wpH_mono (l0 := l.setIfInBounds x true) (fun l' w' hg _ => hno l' w' hg) _ _ _ _ (fun _ h => h) this
  · have hag2 : agree wc w' := hag.trans (hag' h3)
    refine ⟨fun _ => hag2, ?_⟩
    have := ih hk hm' hag2
    rw [hd] at this
    exact wpH_mono (l0 := l.setIfInBounds x true) (fun l' w'' hg hS hk => hS fun k hkt => hk k (hsub k hkt)) _ _ _ _ (fun _ h => h) this
theorem runD_sound (hT : TabOK M.P M.C.T) (hQ : ∀ c a w, ¬ Q (.panic c) a w) (hs : Region.noSelect ops = true) : ∀ (steps : Plan) {fr : Fr} {O : Hps} {nx : Nat} {K : Fr → Hps → Nat → Prop}, runD M ops.toList steps fr O nx K →
    ∀ {l : Array Bool}, stepsOK ops (masks ops.toList []) steps l = true → Closed .any ops l → ∀ {η : Env} {a : Act} {w : World}, Models M η fr O nx a w → (∀ η fr O nx a w, Models M η fr O nx a w → K fr O nx → Q .normal a w) →
    ∀ {wc : World}, agree wc w → wpH M.P .any ops Q (SS (killsOf steps) wc) steps.depth l a w
  | .nil, fr, O, nx, K, h, l, hl, hc, η, a, w, hm, hq, wc, hag => by
    simp only [stepsOK, List.isEmpty_iff] at hl
    exact ⟨hl, hq η fr O nx a w hm h⟩
  | .take i m rest, fr, O, nx, K, h, l, hl, hc, η, a, w, hm, hq, wc, hag => by
    have IH := @runD_sound hT hQ hs rest
    unfold runD oneD at h
    split at h
    · exact h.out.elim
    rename_i o ho
    have ho : ops[i]? = some o := by rw [nth_get] at ho; simpa using ho
    simp only [stepsOK, Bool.and_eq_true] at hl
    obtain ⟨hl1, hl2⟩ := hl
    have hready : i ∈ Region.ready .any ops l := by
      revert hl1
      split <;> intro hl1
      · rw [beq_iff_eq.1 hl1]; exact List.mem_singleton.2 rfl
      · simp only [Bool.and_eq_true] at hl1; simpa using hl1.1.1
      · simp only [Bool.and_eq_true] at hl1; simpa using hl1.1.1
      · rw [beq_iff_eq.1 hl1]; exact List.mem_singleton.2 rfl
    have hc' := hc.set hready
    have hin : i < l.size := by rw [hc.1]; exact (Array.getElem?_eq_some_iff.1 ho).1
    have hset : (l.setIfInBounds i true).getD i false = true := by simp [hin]
    have modes : ∀ {p : Prop}, (m = 0 → p) → (m = 1 → p) → (m = 2 → p) → (3 ≤ m → p) → p := by
      intro p h0 h1 h2 h3
      match m, h0, h1, h2, h3 with
      | 0, h0, _, _, _ => exact h0 rfl
      | 1, _, h1, _, _ => exact h1 rfl
      | 2, _, _, h2, _ => exact h2 rfl
      | m + 3, _, _, _, h3 => exact h3 (by omega)
    -- an operation that waits for nobody's leave: but this one may come up
    have alone : Region.ready .any ops l = [i] → ∀ {a : Act} {w : World}, agree wc w → wpOp M.P ops Q i (fun a' w' => SS (killsOf (.take i m rest)) wc (l.setIfInBounds i true) w' ∧ wpH M.P .any ops Q (SS (killsOf (.take i m rest)) wc) rest.depth (l.setIfInBounds i true) a' w') a w →
        wpH M.P .any ops Q (SS (killsOf (.take i m rest)) wc) (Plan.take i m rest).depth l a w := fun hr a w hag h => wpH_one hr h
    -- what follows an operation that writes
    have afterKill : m = 0 → ∀ {fr : Fr} {O : Hps} {nx : Nat} {η : Env} {a : Act} {w : World}, runD M ops.toList rest fr O nx K → Models M η fr O nx a w →
        SS (killsOf (.take i m rest)) wc (l.setIfInBounds i true) w ∧ wpH M.P .any ops Q (SS (killsOf (.take i m rest)) wc) rest.depth (l.setIfInBounds i true) a w := by
      intro h0 fr O nx η a w hrun hm
      subst h0
      rw [killsOf_kill]
      have hno : ∀ l' w', Grows (l.setIfInBounds i true) l' → SS (i :: killsOf rest) wc l' w' := by
        intro l' w' hg hk
        have h1 := hk i (List.mem_cons_self ..)
        rw [hg i hset] at h1; cases h1
      exact ⟨hno _ _ (fun _ h => h), wpH_mono (l0 := l.setIfInBounds i true) (fun l' w' hg _ => hno l' w' hg) _ _ _ _ (fun _ h => h) (IH hrun hl2 hc' hm hq (agree.refl w))⟩
    -- what follows one that does not
    have afterElse : m ≠ 0 → ∀ {fr : Fr} {O : Hps} {nx : Nat} {η : Env} {a : Act} {w : World}, runD M ops.toList rest fr O nx K → Models M η fr O nx a w → agree wc w →
        SS (killsOf (.take i m rest)) wc (l.setIfInBounds i true) w ∧ wpH M.P .any ops Q (SS (killsOf (.take i m rest)) wc) rest.depth (l.setIfInBounds i true) a w := by
      intro h0 fr O nx η a w hrun hm hag
      rw [killsOf_quiet h0]
      exact ⟨fun _ => hag, IH hrun hl2 hc' hm hq hag⟩
    have quiet1 : m = 1 → Region.free .any ops l i = true ∧ ∀ k ∈ killsOf rest, k ≠ i := by
      intro h1; subst h1
      simp only [Bool.and_eq_true, List.all_eq_true, bne_iff_ne] at hl1
      exact ⟨hl1.1.2, hl1.2⟩
    have quiet2 : m = 2 → Region.free .any ops l i = true ∧ ∀ k ∈ killsOf rest, k ≠ i ∧ ((masks ops.toList []).getD k 0).testBit i = true := by
      intro h1; subst h1
      simp only [Bool.and_eq_true, List.all_eq_true, bne_iff_ne] at hl1
      exact ⟨hl1.1.2, hl1.2⟩
    have alone0 : m = 0 → Region.ready .any ops l = [i] := by intro h1; subst h1; exact beq_iff_eq.1 hl1
    have alone3 : 3 ≤ m → Region.ready .any ops l = [i] := by
      intro h1
      match m, h1, hl1 with
      | m + 3, _, hl1 => exact beq_iff_eq.1 hl1
    -- it is passed over
    have skip : ∀ {fr' : Fr}, Models M η fr' O nx a w → Region.wanted o (yielded ops a.tmps) ≠ true → (match dstOk M.C.N o.dst with | true => putK o.dst undefS fr' fun fr => runD M ops.toList rest fr O nx K | false => STOP "slot") →
        wpH M.P .any ops Q (SS (killsOf (.take i m rest)) wc) (Plan.take i m rest).depth l a w := by
      intro fr' hm' hw h
      split at h
      case h_2 => exact h.out.elim
      rename_i hd
      obtain ⟨fr2, h1, h2⟩ := models_put hm' hd (denNone η) h
      have hwf : Region.wanted o (yielded ops a.tmps) = false := by simpa using hw
      have op : ∀ {K' : Act → World → Prop}, K' (a.put o.dst undef) w → wpOp M.P ops Q i K' a w := by
        intro K' hk
        unfold wpOp
        simp only [ho]
        rw [if_neg hw]; exact hk
      refine modes (fun h0 => alone (alone0 h0) hag (op (afterKill h0 h1 h2))) (fun h0 => ?_) (fun h0 => ?_) (fun h0 => alone (alone3 h0) hag (op (afterElse (by omega) h1 h2 hag)))
      · have hn : m ≠ 0 := by omega
        have := (afterElse hn h1 h2 hag).2
        rw [killsOf_quiet hn] at this ⊢
        exact quiet_first hQ hs ho hready (quiet1 h0).1 (quiet1 h0).2 hc (N := fun _ => True) (fun _ _ _ _ _ => trivial) (.inr ⟨hwf, rfl⟩) hag this
      · have hn : m ≠ 0 := by omega
        have := (afterElse hn h1 h2 hag).2
        rw [killsOf_quiet hn] at this ⊢
        exact quiet_first hQ hs ho hready (quiet2 h0).1 (fun k hk => ((quiet2 h0).2 k hk).1) hc (N := fun _ => True) (fun _ _ _ _ _ => trivial) (.inr ⟨hwf, rfl⟩) hag this
    -- it is carried out
    have go : ∀ {fr' : Fr}, Models M η fr' O nx a w → Region.wanted o (yielded ops a.tmps) = true → (carry M m o fr' O nx fun v O nx => putK o.dst v fr' fun fr => runD M ops.toList rest fr O nx K) →
        wpH M.P .any ops Q (SS (killsOf (.take i m rest)) wc) (Plan.take i m rest).depth l a w := by
      intro fr' hm' hw h
      have op : ∀ {K' : Act → World → Prop}, o.wp M.P a w K' Q → wpOp M.P ops Q i K' a w := by
        intro K' hk
        unfold wpOp
        simp only [ho]
        rw [if_pos hw]; exact .inl hk
      refine modes (fun h0 => ?_) (fun h0 => ?_) (fun h0 => ?_) (fun h0 => ?_)
      · have h : stepO M o (lookF fr') O nx fun v O nx => putK o.dst v fr' fun fr => runD M ops.toList rest fr O nx K := by subst h0; exact h
        refine alone (alone0 h0) hag (op (stepO_wp hT hm' (fun x sv hx => lookF_den hm'.frame hx) h fun u v O' nx' η' w' hd hp hH hv hk => ?_))
        obtain ⟨fr2, h1, h2⟩ := hm'.put hd hp hH hv hk
        exact afterKill h0 h1 h2
      · have h : stepQ M.C.N (cxBlind M.C) o fr' nx fun v => putK o.dst v fr' fun fr => runD M ops.toList rest fr O nx K := by subst h0; exact h
        obtain ⟨hd, u, v, hy, hv, hk⟩ := stepQ_yields (P := M.P) (C' := cxBlind M.C) ⟨hT.und, hT.info, hT.zero, hT.zsh, hT.flat⟩ (N := fun _ => True) (w := w) hm'.frame (fun w' _ => HeapOK.blind (M := M) hm'.heap.len w') trivial h
        obtain ⟨fr2, h1, h2⟩ := models_put hm' hd hv hk
        have hn : m ≠ 0 := by omega
        have := (afterElse hn h1 h2 hag).2
        rw [killsOf_quiet hn] at this ⊢
        exact quiet_first hQ hs ho hready (quiet1 h0).1 (quiet1 h0).2 hc (N := fun _ => True) (fun _ _ _ _ _ => trivial) (.inl ⟨hw, fun w' h => hy w' h⟩) hag this
      · have h : stepQ M.C.N (cxRead M.C O) o fr' nx fun v => putK o.dst v fr' fun fr => runD M ops.toList rest fr O nx K := by subst h0; exact h
        obtain ⟨hd, u, v, hy, hv, hk⟩ := stepQ_yields (P := M.P) (C' := cxRead M.C O) hT (N := agree w) hm'.frame (fun w' h => hm'.heap.read h) (agree.refl w) h
        obtain ⟨fr2, h1, h2⟩ := models_put hm' hd hv hk
        have hn : m ≠ 0 := by omega
        have := IH h1 hl2 hc' h2 hq (agree.refl w)
        rw [killsOf_quiet hn]
        refine wpH_mono (S' := SS (killsOf rest) w) (l0 := l) (fun l' w' _ hS hk => hag.trans (hS hk)) _ _ _ _ (fun _ h => h) ?_
        refine quiet_first hQ hs ho hready (quiet2 h0).1 (fun k hk => ((quiet2 h0).2 k hk).1) hc (N := agree w) (fun l' w' hcl hun hS => hS fun k hk => ?_) (.inl ⟨hw, fun w' h => hy w' h⟩) (agree.refl w) this
        cases hlk : l'.getD k false with
        | false => rfl
        | true =>
          have := waits_closed hcl k ((quiet2 h0).2 k hk).2 hlk
          rw [getD_false_of_true hun] at this; cases this
      · have h : ADD M o fr' O nx fun v O nx => putK o.dst v fr' fun fr => runD M ops.toList rest fr O nx K := by
          match m, h0, h with
          | m + 3, _, h => exact h
        have hm2 : Models (shMx M O η w) η fr' [] nx a w := ⟨hm'.heap.read (agree.refl w), hm'.size, hm'.defers, hm'.frame⟩
        refine alone (alone3 h0) hag (op (stepO_wp (M := shMx M O η w) hT hm2 (fun x sv hx => lookF_den hm'.frame hx) (h.out η w) fun u v O2 nx2 η' w' hd hp hH hv hk => ?_))
        obtain ⟨hJ, hag2⟩ := hm'.heap.join hH
        obtain ⟨fr2, h1, h2⟩ := hm'.put hd hp hJ hv hk
        exact afterElse (by omega) h1 h2 (hag.trans hag2)
    split at h
    · rename_i hg
      exact go hm (wanted_none hg) h
    · rename_i j want hg
      split at h
      · exact h.out.elim
      rename_i s hsl
      split at h
      · rename_i b hb
        have hbv := denBool (hm.frame s _ hb)
        have hy := yielded_of hsl hbv
        cases b with
        | true =>
          have h := h.t rfl
          have hm' : Models M η ((s, .bool true) :: fr) O nx a w := ⟨hm.heap, hm.size, hm.defers, hm.frame.know hbv⟩
          cases want with
          | true => exact go hm' ((wanted_some hg).2 hy) h
          | false => exact skip hm' (fun hw => by rw [wanted_some hg, hy] at hw; cases hw) h
        | false =>
          have h := h.f rfl
          have hm' : Models M η ((s, .bool false) :: fr) O nx a w := ⟨hm.heap, hm.size, hm.defers, hm.frame.know hbv⟩
          cases want with
          | false => exact go hm' ((wanted_some hg).2 hy) h
          | true => exact skip hm' (fun hw => by rw [wanted_some hg, hy] at hw; cases hw) h
      · rename_i hb
        have hbv := hm.frame s _ hb
        simp only [Den, DenL] at hbv
        obtain ⟨vs, hbv, rfl⟩ := hbv
        exact skip hm (fun hw => by rw [wanted_some hg] at hw; exact yielded_not hsl (by rw [hbv]; simp) hw) h
      · exact h.out.elim
  | .fork i mi j mj p q, fr, O, nx, K, h, l, hl, hc, η, a, w, hm, hq, wc, hag => by
    simp only [stepsOK, Bool.and_eq_true, beq_iff_eq] at hl
    obtain ⟨⟨⟨⟨⟨hr, hmi⟩, hmj⟩, hdep⟩, hlp⟩, hlq⟩ := hl
    unfold runD at h
    have hi : i ∈ Region.ready .any ops l := by rw [hr]; simp
    have hj : j ∈ Region.ready .any ops l := by rw [hr]; simp
    refine ⟨fun h0 => (by rw [hr] at h0; cases h0), fun x hx => ?_⟩
    rw [hr] at hx
    rcases List.mem_cons.1 hx with rfl | hx
    · exact arm hT hm hag hc hmi hi (fun h0 => by subst h0; exact killIf_self) (fun k hk => killIf_mem (killIf_mem (List.mem_append_left _ hk))) rfl (fun hk hm' hag => runD_sound hT hQ hs p hk hlp (hc.set hi) hm' hq hag) h.a
    · have hx := List.mem_singleton.1 hx
      subst hx
      exact arm hT hm hag hc hmj hj (fun h0 => by subst h0; exact killIf_mem killIf_self) (fun k hk => killIf_mem (killIf_mem (List.mem_append_right _ hk))) hdep.symm (fun hk hm' hag => runD_sound hT hQ hs q hk hlq (hc.set hj) hm' hq hag) h.b
  | .fork3 i mi j mj k mk p q r, fr, O, nx, K, h, l, hl, hc, η, a, w, hm, hq, wc, hag => by
    simp only [stepsOK, Bool.and_eq_true, beq_iff_eq] at hl
    obtain ⟨⟨⟨⟨⟨⟨⟨⟨hr, hmi⟩, hmj⟩, hmk⟩, hdep⟩, hdep2⟩, hlp⟩, hlq⟩, hlr⟩ := hl
    unfold runD at h
    have hi : i ∈ Region.ready .any ops l := by rw [hr]; simp
    have hj : j ∈ Region.ready .any ops l := by rw [hr]; simp
    have hk' : k ∈ Region.ready .any ops l := by rw [hr]; simp
    refine ⟨fun h0 => (by rw [hr] at h0; cases h0), fun x hx => ?_⟩
    rw [hr] at hx
    rcases List.mem_cons.1 hx with rfl | hx
    · exact arm hT hm hag hc hmi hi (fun h0 => by subst h0; exact killIf_self) (fun k hk => killIf_mem (killIf_mem (killIf_mem (List.mem_append_left _ hk)))) rfl (fun hk hm' hag => runD_sound hT hQ hs p hk hlp (hc.set hi) hm' hq hag) h.a
    · rcases List.mem_cons.1 hx with rfl | hx
      · exact arm hT hm hag hc hmj hj (fun h0 => by subst h0; exact killIf_mem killIf_self) (fun k hk => killIf_mem (killIf_mem (killIf_mem (List.mem_append_right _ (List.mem_append_left _ hk))))) hdep.symm (fun hk hm' hag => runD_sound hT hQ hs q hk hlq (hc.set hj) hm' hq hag) h.b.a
      · have hx := List.mem_singleton.1 hx
        subst hx
        exact arm hT hm hag hc hmk hk' (fun h0 => by subst h0; exact killIf_mem (killIf_mem killIf_self)) (fun k hk => killIf_mem (killIf_mem (killIf_mem (List.mem_append_right _ (List.mem_append_right _ hk))))) hdep2.symm (fun hk hm' hag => runD_sound hT hQ hs r hk hlr (hc.set hk') hm' hq hag) h.b.b
/-- A region whose order is drawn: it is walked in one order. -/
theorem DRAWN.of {M : Mx} (hT : TabOK M.P M.C.T) (hP : M.P.follows .mixedOrders = true) {id : Nat} {ops : Array Oper} {fr : Fr} {O : Hps} {nx : Nat} {Q : Post} (steps : Plan) (hord : orderOK ops steps = true)
    (h : runD M ops.toList steps fr O nx fun fr O nx => Q .normal fr O nx) : DRAWN M id ops fr O nx Q := by
  simp only [orderOK, Bool.and_eq_true, beq_iff_eq] at hord
  obtain ⟨⟨hs, hlen⟩, hord⟩ := hord
  refine ⟨fun η a w hm => wp_region_any hP (wpAny_of_wpH (S := SS (killsOf steps) { w with drawn := w.drawn + 1 }) _ _ _ _ ?_)⟩
  have hm' : Models M η fr O nx a { w with drawn := w.drawn + 1 } := ⟨hm.heap.drawn (Nat.le_succ _), hm.size, hm.defers, hm.frame⟩
  have hc0 : Closed .any ops (Array.replicate ops.size false) := by
    refine ⟨by simp, fun j o hj hl => ?_⟩
    rcases Nat.lt_or_ge j ops.size with h' | h'
    · simp [h'] at hl
    · simp [h'] at hl
  have key := runD_sound (Q := liftQ M Q) hT (fun c a w hq => hq) hs steps h hord hc0 hm' (fun η fr O nx a w hm hq => ⟨η, fr, O, nx, hm, hq⟩) (agree.refl _)
  rw [hlen] at key
  exact key
end
end Go.Sx
/- What the engine knows of the types of this program. Made by gen_tab.py. Conditions: none. -/
set_option maxRecDepth 100000
namespace Go.Proofs.YtamnapaephmpmaaGreatDoor
open Go.Sx
def tabSh (t : TypeId) : Sh := match Nat.ble t 135 with | true => (match Nat.ble t 67 with | true => (match Nat.ble t 33 with | true => (match Nat.ble t 16 with | true => (match Nat.ble t 7 with | true => (match Nat.ble t 3 with | true => (match Nat.ble t 1 with | true => (match Nat.ble t 0 with | true => .plain | false => .func) | false => (match Nat.ble t 2 with | true => .int .i64 | false => .int .i64)) | false => (match Nat.ble t 5 with | true => (match Nat.ble t 4 with | true => .bool | false => .int .u8) | false => (match Nat.ble t 6 with | true => .int .u8 | false => .struct [(0, 2), (1, 3), (2, 4), (3, 6)]))) | false => (match Nat.ble t 11 with | true => (match Nat.ble t 9 with | true => (match Nat.ble t 8 with | true => .struct [(0, 2), (1, 3), (2, 4), (3, 6)] | false => .str) | false => (match Nat.ble t 10 with | true => .str | false => .str)) | false => (match Nat.ble t 13 with | true => (match Nat.ble t 12 with | true => .int .u64 | false => .struct [(0, 9), (1, 12)]) | false => (match Nat.ble t 14 with | true => .struct [(0, 9), (1, 12)] | false => (match Nat.ble t 15 with | true => .ptr 122 | false => .ptr 125))))) | false => (match Nat.ble t 24 with | true => (match Nat.ble t 20 with | true => (match Nat.ble t 18 with | true => (match Nat.ble t 17 with | true => .ptr 134 | false => .struct [(0, 17)]) | false => (match Nat.ble t 19 with | true => .struct [(0, 17)] | false => .iface)) | false => (match Nat.ble t 22 with | true => (match Nat.ble t 21 with | true => .int .i32 | false => .struct [(0, 3), (1, 9), (2, 9), (3, 9)]) | false => (match Nat.ble t 23 with | true => .struct [(0, 3), (1, 9), (2, 9), (3, 9)] | false => .struct [(0, 23), (4, 23), (8, 23), (12, 23)]))) | false => (match Nat.ble t 28 with | true => (match Nat.ble t 26 with | true => (match Nat.ble t 25 with | true => .struct [(0, 23), (4, 23), (8, 23), (12, 23)] | false => .plain) | false => (match Nat.ble t 27 with | true => .func | false => .func)) | false => (match Nat.ble t 30 with | true => (match Nat.ble t 29 with | true => .func | false => .func) | false => (match Nat.ble t 31 with | true => .array 12 30 | false => (match Nat.ble t 32 with | true => .func | false => .func)))))) | false => (match Nat.ble t 50 with | true => (match Nat.ble t 41 with | true => (match Nat.ble t 37 with | true => (match Nat.ble t 35 with | true => (match Nat.ble t 34 with | true => .func | false => .func) | false => (match Nat.ble t 36 with | true => .func | false => .func)) | false => (match Nat.ble t 39 with | true => (match Nat.ble t 38 with | true => .int .i64 | false => .func) | false => (match Nat.ble t 40 with | true => .func | false => .func))) | false => (match Nat.ble t 45 with | true => (match Nat.ble t 43 with | true => (match Nat.ble t 42 with | true => .array 4 23 | false => .func) | false => (match Nat.ble t 44 with | true => .func | false => .func)) | false => (match Nat.ble t 47 with | true => (match Nat.ble t 46 with | true => .func | false => .slice 3) | false => (match Nat.ble t 48 with | true => .plain | false => (match Nat.ble t 49 with | true => .func | false => .func))))) | false => (match Nat.ble t 58 with | true => (match Nat.ble t 54 with | true => (match Nat.ble t 52 with | true => (match Nat.ble t 51 with | true => .func | false => .slice 9) | false => (match Nat.ble t 53 with | true => .struct [(0, 9), (1, 9), (2, 9), (3, 9), (4, 52), (5, 52), (6, 9)] | false => .struct [(0, 9), (1, 9), (2, 9), (3, 9), (4, 52), (5, 52), (6, 9)])) | false => (match Nat.ble t 56 with | true => (match Nat.ble t 55 with | true => .plain | false => .func) | false => (match Nat.ble t 57 with | true => .func | false => .func))) | false => (match Nat.ble t 62 with | true => (match Nat.ble t 60 with | true => (match Nat.ble t 59 with | true => .plain | false => .func) | false => (match Nat.ble t 61 with | true => .func | false => .func)) | false => (match Nat.ble t 64 with | true => (match Nat.ble t 63 with | true => .plain | false => .func) | false => (match Nat.ble t 65 with | true => .ptr 68 | false => (match Nat.ble t 66 with | true => .func | false => .struct [(0, 52)]))))))) | false => (match Nat.ble t 101 with | true => (match Nat.ble t 84 with | true => (match Nat.ble t 75 with | true => (match Nat.ble t 71 with | true => (match Nat.ble t 69 with | true => (match Nat.ble t 68 with | true => .struct [(0, 52)] | false => .func) | false => (match Nat.ble t 70 with | true => .ptr 54 | false => .func)) | false => (match Nat.ble t 73 with | true => (match Nat.ble t 72 with | true => .func | false => .func) | false => (match Nat.ble t 74 with | true => .func | false => .func))) | false => (match Nat.ble t 79 with | true => (match Nat.ble t 77 with | true => (match Nat.ble t 76 with | true => .func | false => .func) | false => (match Nat.ble t 78 with | true => .plain | false => .func)) | false => (match Nat.ble t 81 with | true => (match Nat.ble t 80 with | true => .ptr 83 | false => .func) | false => (match Nat.ble t 82 with | true => .struct [(0, 52), (1, 54)] | false => (match Nat.ble t 83 with | true => .struct [(0, 52), (1, 54)] | false => .func))))) | false => (match Nat.ble t 92 with | true => (match Nat.ble t 88 with | true => (match Nat.ble t 86 with | true => (match Nat.ble t 85 with | true => .func | false => .plain) | false => (match Nat.ble t 87 with | true => .func | false => .slice 5)) | false => (match Nat.ble t 90 with | true => (match Nat.ble t 89 with | true => .slice 38 | false => .func) | false => (match Nat.ble t 91 with | true => .array 28 3 | false => .func))) | false => (match Nat.ble t 96 with | true => (match Nat.ble t 94 with | true => (match Nat.ble t 93 with | true => .func | false => .func) | false => (match Nat.ble t 95 with | true => .func | false => .plain)) | false => (match Nat.ble t 98 with | true => (match Nat.ble t 97 with | true => .func | false => .int .u64) | false => (match Nat.ble t 99 with | true => .func | false => (match Nat.ble t 100 with | true => .func | false => .func)))))) | false => (match Nat.ble t 118 with | true => (match Nat.ble t 109 with | true => (match Nat.ble t 105 with | true => (match Nat.ble t 103 with | true => (match Nat.ble t 102 with | true => .func | false => .array 5 3) | false => (match Nat.ble t 104 with | true => .func | false => .func)) | false => (match Nat.ble t 107 with | true => (match Nat.ble t 106 with | true => .array 5 21 | false => .func) | false => (match Nat.ble t 108 with | true => .func | false => .func))) | false => (match Nat.ble t 113 with | true => (match Nat.ble t 111 with | true => (match Nat.ble t 110 with | true => .func | false => .func) | false => (match Nat.ble t 112 with | true => .array 24 21 | false => .func)) | false => (match Nat.ble t 115 with | true => (match Nat.ble t 114 with | true => .array 256 5 | false => .struct [(0, 5), (1, 5)]) | false => (match Nat.ble t 116 with | true => .struct [(0, 5), (1, 5)] | false => (match Nat.ble t 117 with | true => .array 16 116 | false => .int .u32))))) | false => (match Nat.ble t 126 with | true => (match Nat.ble t 122 with | true => (match Nat.ble t 120 with | true => (match Nat.ble t 119 with | true => .plain | false => .func) | false => (match Nat.ble t 121 with | true => .struct [(0, 17), (1, 17), (2, 17), (3, 9)] | false => .struct [(0, 17), (1, 17), (2, 17), (3, 9)])) | false => (match Nat.ble t 124 with | true => (match Nat.ble t 123 with | true => .array 0 16 | false => .struct [(0, 123)]) | false => (match Nat.ble t 125 with | true => .struct [(0, 123)] | false => .func))) | false => (match Nat.ble t 130 with | true => (match Nat.ble t 128 with | true => (match Nat.ble t 127 with | true => .int .u8 | false => .int .u8) | false => (match Nat.ble t 129 with | true => .func | false => .ptr 5)) | false => (match Nat.ble t 132 with | true => (match Nat.ble t 131 with | true => .int .i32 | false => .int .i32) | false => (match Nat.ble t 133 with | true => .struct [(0, 12), (1, 12), (2, 118), (3, 127), (4, 5), (5, 5), (6, 128), (7, 129), (8, 130), (9, 131), (10, 132)] | false => (match Nat.ble t 134 with | true => .struct [(0, 12), (1, 12), (2, 118), (3, 127), (4, 5), (5, 5), (6, 128), (7, 129), (8, 130), (9, 131), (10, 132)] | false => .plain)))))))) | false => .other
def tabSize (t : TypeId) : Nat := match Nat.ble t 135 with | true => (match Nat.ble t 67 with | true => (match Nat.ble t 33 with | true => (match Nat.ble t 16 with | true => (match Nat.ble t 7 with | true => (match Nat.ble t 3 with | true => (match Nat.ble t 1 with | true => (match Nat.ble t 0 with | true => 1 | false => 1) | false => (match Nat.ble t 2 with | true => 1 | false => 1)) | false => (match Nat.ble t 5 with | true => (match Nat.ble t 4 with | true => 1 | false => 1) | false => (match Nat.ble t 6 with | true => 1 | false => 4))) | false => (match Nat.ble t 11 with | true => (match Nat.ble t 9 with | true => (match Nat.ble t 8 with | true => 4 | false => 1) | false => (match Nat.ble t 10 with | true => 1 | false => 1)) | false => (match Nat.ble t 13 with | true => (match Nat.ble t 12 with | true => 1 | false => 2) | false => (match Nat.ble t 14 with | true => 2 | false => (match Nat.ble t 15 with | true => 1 | false => 1))))) | false => (match Nat.ble t 24 with | true => (match Nat.ble t 20 with | true => (match Nat.ble t 18 with | true => (match Nat.ble t 17 with | true => 1 | false => 1) | false => (match Nat.ble t 19 with | true => 1 | false => 1)) | false => (match Nat.ble t 22 with | true => (match Nat.ble t 21 with | true => 1 | false => 4) | false => (match Nat.ble t 23 with | true => 4 | false => 16))) | false => (match Nat.ble t 28 with | true => (match Nat.ble t 26 with | true => (match Nat.ble t 25 with | true => 16 | false => 1) | false => (match Nat.ble t 27 with | true => 1 | false => 1)) | false => (match Nat.ble t 30 with | true => (match Nat.ble t 29 with | true => 1 | false => 1) | false => (match Nat.ble t 31 with | true => 12 | false => (match Nat.ble t 32 with | true => 1 | false => 1)))))) | false => (match Nat.ble t 50 with | true => (match Nat.ble t 41 with | true => (match Nat.ble t 37 with | true => (match Nat.ble t 35 with | true => (match Nat.ble t 34 with | true => 1 | false => 1) | false => (match Nat.ble t 36 with | true => 1 | false => 1)) | false => (match Nat.ble t 39 with | true => (match Nat.ble t 38 with | true => 1 | false => 1) | false => (match Nat.ble t 40 with | true => 1 | false => 1))) | false => (match Nat.ble t 45 with | true => (match Nat.ble t 43 with | true => (match Nat.ble t 42 with | true => 16 | false => 1) | false => (match Nat.ble t 44 with | true => 1 | false => 1)) | false => (match Nat.ble t 47 with | true => (match Nat.ble t 46 with | true => 1 | false => 1) | false => (match Nat.ble t 48 with | true => 1 | false => (match Nat.ble t 49 with | true => 1 | false => 1))))) | false => (match Nat.ble t 58 with | true => (match Nat.ble t 54 with | true => (match Nat.ble t 52 with | true => (match Nat.ble t 51 with | true => 1 | false => 1) | false => (match Nat.ble t 53 with | true => 7 | false => 7)) | false => (match Nat.ble t 56 with | true => (match Nat.ble t 55 with | true => 1 | false => 1) | false => (match Nat.ble t 57 with | true => 1 | false => 1))) | false => (match Nat.ble t 62 with | true => (match Nat.ble t 60 with | true => (match Nat.ble t 59 with | true => 1 | false => 1) | false => (match Nat.ble t 61 with | true => 1 | false => 1)) | false => (match Nat.ble t 64 with | true => (match Nat.ble t 63 with | true => 1 | false => 1) | false => (match Nat.ble t 65 with | true => 1 | false => (match Nat.ble t 66 with | true => 1 | false => 1))))))) | false => (match Nat.ble t 101 with | true => (match Nat.ble t 84 with | true => (match Nat.ble t 75 with | true => (match Nat.ble t 71 with | true => (match Nat.ble t 69 with | true => (match Nat.ble t 68 with | true => 1 | false => 1) | false => (match Nat.ble t 70 with | true => 1 | false => 1)) | false => (match Nat.ble t 73 with | true => (match Nat.ble t 72 with | true => 1 | false => 1) | false => (match Nat.ble t 74 with | true => 1 | false => 1))) | false => (match Nat.ble t 79 with | true => (match Nat.ble t 77 with | true => (match Nat.ble t 76 with | true => 1 | false => 1) | false => (match Nat.ble t 78 with | true => 1 | false => 1)) | false => (match Nat.ble t 81 with | true => (match Nat.ble t 80 with | true => 1 | false => 1) | false => (match Nat.ble t 82 with | true => 8 | false => (match Nat.ble t 83 with | true => 8 | false => 1))))) | false => (match Nat.ble t 92 with | true => (match Nat.ble t 88 with | true => (match Nat.ble t 86 with | true => (match Nat.ble t 85 with | true => 1 | false => 1) | false => (match Nat.ble t 87 with | true => 1 | false => 1)) | false => (match Nat.ble t 90 with | true => (match Nat.ble t 89 with | true => 1 | false => 1) | false => (match Nat.ble t 91 with | true => 28 | false => 1))) | false => (match Nat.ble t 96 with | true => (match Nat.ble t 94 with | true => (match Nat.ble t 93 with | true => 1 | false => 1) | false => (match Nat.ble t 95 with | true => 1 | false => 1)) | false => (match Nat.ble t 98 with | true => (match Nat.ble t 97 with | true => 1 | false => 1) | false => (match Nat.ble t 99 with | true => 1 | false => (match Nat.ble t 100 with | true => 1 | false => 1)))))) | false => (match Nat.ble t 118 with | true => (match Nat.ble t 109 with | true => (match Nat.ble t 105 with | true => (match Nat.ble t 103 with | true => (match Nat.ble t 102 with | true => 1 | false => 5) | false => (match Nat.ble t 104 with | true => 1 | false => 1)) | false => (match Nat.ble t 107 with | true => (match Nat.ble t 106 with | true => 5 | false => 1) | false => (match Nat.ble t 108 with | true => 1 | false => 1))) | false => (match Nat.ble t 113 with | true => (match Nat.ble t 111 with | true => (match Nat.ble t 110 with | true => 1 | false => 1) | false => (match Nat.ble t 112 with | true => 24 | false => 1)) | false => (match Nat.ble t 115 with | true => (match Nat.ble t 114 with | true => 256 | false => 2) | false => (match Nat.ble t 116 with | true => 2 | false => (match Nat.ble t 117 with | true => 32 | false => 1))))) | false => (match Nat.ble t 126 with | true => (match Nat.ble t 122 with | true => (match Nat.ble t 120 with | true => (match Nat.ble t 119 with | true => 1 | false => 1) | false => (match Nat.ble t 121 with | true => 4 | false => 4)) | false => (match Nat.ble t 124 with | true => (match Nat.ble t 123 with | true => 0 | false => 0) | false => (match Nat.ble t 125 with | true => 0 | false => 1))) | false => (match Nat.ble t 130 with | true => (match Nat.ble t 128 with | true => (match Nat.ble t 127 with | true => 1 | false => 1) | false => (match Nat.ble t 129 with | true => 1 | false => 1)) | false => (match Nat.ble t 132 with | true => (match Nat.ble t 131 with | true => 1 | false => 1) | false => (match Nat.ble t 133 with | true => 11 | false => (match Nat.ble t 134 with | true => 11 | false => 1)))))))) | false => 0
def tabZero (t : TypeId) : List SV := match Nat.ble t 135 with | true => (match Nat.ble t 67 with | true => (match Nat.ble t 33 with | true => (match Nat.ble t 16 with | true => (match Nat.ble t 7 with | true => (match Nat.ble t 3 with | true => (match Nat.ble t 1 with | true => (match Nat.ble t 0 with | true => [] | false => [.val .nilFunc]) | false => (match Nat.ble t 2 with | true => [.int .i64 (0)] | false => [.int .i64 (0)])) | false => (match Nat.ble t 5 with | true => (match Nat.ble t 4 with | true => [.bool false] | false => [.int .u8 (0)]) | false => (match Nat.ble t 6 with | true => [.int .u8 (0)] | false => [.int .i64 (0), .int .i64 (0), .bool false, .int .u8 (0)]))) | false => (match Nat.ble t 11 with | true => (match Nat.ble t 9 with | true => (match Nat.ble t 8 with | true => [.int .i64 (0), .int .i64 (0), .bool false, .int .u8 (0)] | false => [.str []]) | false => (match Nat.ble t 10 with | true => [.str []] | false => [.str []])) | false => (match Nat.ble t 13 with | true => (match Nat.ble t 12 with | true => [.int .u64 (0)] | false => [.str [], .int .u64 (0)]) | false => (match Nat.ble t 14 with | true => [.str [], .int .u64 (0)] | false => (match Nat.ble t 15 with | true => [.val (.pointer none)] | false => [.val (.pointer none)]))))) | false => (match Nat.ble t 24 with | true => (match Nat.ble t 20 with | true => (match Nat.ble t 18 with | true => (match Nat.ble t 17 with | true => [.val (.pointer none)] | false => [.val (.pointer none)]) | false => (match Nat.ble t 19 with | true => [.val (.pointer none)] | false => [.val .nilIface])) | false => (match Nat.ble t 22 with | true => (match Nat.ble t 21 with | true => [.int .i32 (0)] | false => [.int .i64 (0), .str [], .str [], .str []]) | false => (match Nat.ble t 23 with | true => [.int .i64 (0), .str [], .str [], .str []] | false => [.int .i64 (0), .str [], .str [], .str [], .int .i64 (0), .str [], .str [], .str [], .int .i64 (0), .str [], .str [], .str [], .int .i64 (0), .str [], .str [], .str []]))) | false => (match Nat.ble t 28 with | true => (match Nat.ble t 26 with | true => (match Nat.ble t 25 with | true => [.int .i64 (0), .str [], .str [], .str [], .int .i64 (0), .str [], .str [], .str [], .int .i64 (0), .str [], .str [], .str [], .int .i64 (0), .str [], .str [], .str []] | false => []) | false => (match Nat.ble t 27 with | true => [.val .nilFunc] | false => [.val .nilFunc])) | false => (match Nat.ble t 30 with | true => (match Nat.ble t 29 with | true => [.val .nilFunc] | false => [.val .nilFunc]) | false => (match Nat.ble t 31 with | true => [.val .nilFunc, .val .nilFunc, .val .nilFunc, .val .nilFunc, .val .nilFunc, .val .nilFunc, .val .nilFunc, .val .nilFunc, .val .nilFunc, .val .nilFunc, .val .nilFunc, .val .nilFunc] | false => (match Nat.ble t 32 with | true => [.val .nilFunc] | false => [.val .nilFunc])))))) | false => (match Nat.ble t 50 with | true => (match Nat.ble t 41 with | true => (match Nat.ble t 37 with | true => (match Nat.ble t 35 with | true => (match Nat.ble t 34 with | true => [.val .nilFunc] | false => [.val .nilFunc]) | false => (match Nat.ble t 36 with | true => [.val .nilFunc] | false => [.val .nilFunc])) | false => (match Nat.ble t 39 with | true => (match Nat.ble t 38 with | true => [.int .i64 (0)] | false => [.val .nilFunc]) | false => (match Nat.ble t 40 with | true => [.val .nilFunc] | false => [.val .nilFunc]))) | false => (match Nat.ble t 45 with | true => (match Nat.ble t 43 with | true => (match Nat.ble t 42 with | true => [.int .i64 (0), .str [], .str [], .str [], .int .i64 (0), .str [], .str [], .str [], .int .i64 (0), .str [], .str [], .str [], .int .i64 (0), .str [], .str [], .str []] | false => [.val .nilFunc]) | false => (match Nat.ble t 44 with | true => [.val .nilFunc] | false => [.val .nilFunc])) | false => (match Nat.ble t 47 with | true => (match Nat.ble t 46 with | true => [.val .nilFunc] | false => [.val (.slice none 0 0)]) | false => (match Nat.ble t 48 with | true => [] | false => (match Nat.ble t 49 with | true => [.val .nilFunc] | false => [.val .nilFunc]))))) | false => (match Nat.ble t 58 with | true => (match Nat.ble t 54 with | true => (match Nat.ble t 52 with | true => (match Nat.ble t 51 with | true => [.val .nilFunc] | false => [.val (.slice none 0 0)]) | false => (match Nat.ble t 53 with | true => [.str [], .str [], .str [], .str [], .val (.slice none 0 0), .val (.slice none 0 0), .str []] | false => [.str [], .str [], .str [], .str [], .val (.slice none 0 0), .val (.slice none 0 0), .str []])) | false => (match Nat.ble t 56 with | true => (match Nat.ble t 55 with | true => [] | false => [.val .nilFunc]) | false => (match Nat.ble t 57 with | true => [.val .nilFunc] | false => [.val .nilFunc]))) | false => (match Nat.ble t 62 with | true => (match Nat.ble t 60 with | true => (match Nat.ble t 59 with | true => [] | false => [.val .nilFunc]) | false => (match Nat.ble t 61 with | true => [.val .nilFunc] | false => [.val .nilFunc])) | false => (match Nat.ble t 64 with | true => (match Nat.ble t 63 with | true => [] | false => [.val .nilFunc]) | false => (match Nat.ble t 65 with | true => [.val (.pointer none)] | false => (match Nat.ble t 66 with | true => [.val .nilFunc] | false => [.val (.slice none 0 0)]))))))) | false => (match Nat.ble t 101 with | true => (match Nat.ble t 84 with | true => (match Nat.ble t 75 with | true => (match Nat.ble t 71 with | true => (match Nat.ble t 69 with | true => (match Nat.ble t 68 with | true => [.val (.slice none 0 0)] | false => [.val .nilFunc]) | false => (match Nat.ble t 70 with | true => [.val (.pointer none)] | false => [.val .nilFunc])) | false => (match Nat.ble t 73 with | true => (match Nat.ble t 72 with | true => [.val .nilFunc] | false => [.val .nilFunc]) | false => (match Nat.ble t 74 with | true => [.val .nilFunc] | false => [.val .nilFunc]))) | false => (match Nat.ble t 79 with | true => (match Nat.ble t 77 with | true => (match Nat.ble t 76 with | true => [.val .nilFunc] | false => [.val .nilFunc]) | false => (match Nat.ble t 78 with | true => [] | false => [.val .nilFunc])) | false => (match Nat.ble t 81 with | true => (match Nat.ble t 80 with | true => [.val (.pointer none)] | false => [.val .nilFunc]) | false => (match Nat.ble t 82 with | true => [.val (.slice none 0 0), .str [], .str [], .str [], .str [], .val (.slice none 0 0), .val (.slice none 0 0), .str []] | false => (match Nat.ble t 83 with | true => [.val (.slice none 0 0), .str [], .str [], .str [], .str [], .val (.slice none 0 0), .val (.slice none 0 0), .str []] | false => [.val .nilFunc]))))) | false => (match Nat.ble t 92 with | true => (match Nat.ble t 88 with | true => (match Nat.ble t 86 with | true => (match Nat.ble t 85 with | true => [.val .nilFunc] | false => []) | false => (match Nat.ble t 87 with | true => [.val .nilFunc] | false => [.val (.slice none 0 0)])) | false => (match Nat.ble t 90 with | true => (match Nat.ble t 89 with | true => [.val (.slice none 0 0)] | false => [.val .nilFunc]) | false => (match Nat.ble t 91 with | true => [.int .i64 (0), .int .i64 (0), .int .i64 (0), .int .i64 (0), .int .i64 (0), .int .i64 (0), .int .i64 (0), .int .i64 (0), .int .i64 (0), .int .i64 (0), .int .i64 (0), .int .i64 (0), .int .i64 (0), .int .i64 (0), .int .i64 (0), .int .i64 (0), .int .i64 (0), .int .i64 (0), .int .i64 (0), .int .i64 (0), .int .i64 (0), .int .i64 (0), .int .i64 (0), .int .i64 (0), .int .i64 (0), .int .i64 (0), .int .i64 (0), .int .i64 (0)] | false => [.val .nilFunc]))) | false => (match Nat.ble t 96 with | true => (match Nat.ble t 94 with | true => (match Nat.ble t 93 with | true => [.val .nilFunc] | false => [.val .nilFunc]) | false => (match Nat.ble t 95 with | true => [.val .nilFunc] | false => [])) | false => (match Nat.ble t 98 with | true => (match Nat.ble t 97 with | true => [.val .nilFunc] | false => [.int .u64 (0)]) | false => (match Nat.ble t 99 with | true => [.val .nilFunc] | false => (match Nat.ble t 100 with | true => [.val .nilFunc] | false => [.val .nilFunc])))))) | false => (match Nat.ble t 118 with | true => (match Nat.ble t 109 with | true => (match Nat.ble t 105 with | true => (match Nat.ble t 103 with | true => (match Nat.ble t 102 with | true => [.val .nilFunc] | false => [.int .i64 (0), .int .i64 (0), .int .i64 (0), .int .i64 (0), .int .i64 (0)]) | false => (match Nat.ble t 104 with | true => [.val .nilFunc] | false => [.val .nilFunc])) | false => (match Nat.ble t 107 with | true => (match Nat.ble t 106 with | true => [.int .i32 (0), .int .i32 (0), .int .i32 (0), .int .i32 (0), .int .i32 (0)] | false => [.val .nilFunc]) | false => (match Nat.ble t 108 with | true => [.val .nilFunc] | false => [.val .nilFunc]))) | false => (match Nat.ble t 113 with | true => (match Nat.ble t 111 with | true => (match Nat.ble t 110 with | true => [.val .nilFunc] | false => [.val .nilFunc]) | false => (match Nat.ble t 112 with | true => [.int .i32 (0), .int .i32 (0), .int .i32 (0), .int .i32 (0), .int .i32 (0), .int .i32 (0), .int .i32 (0), .int .i32 (0), .int .i32 (0), .int .i32 (0), .int .i32 (0), .int .i32 (0), .int .i32 (0), .int .i32 (0), .int .i32 (0), .int .i32 (0), .int .i32 (0), .int .i32 (0), .int .i32 (0), .int .i32 (0), .int .i32 (0), .int .i32 (0), .int .i32 (0), .int .i32 (0)] | false => [.val .nilFunc])) | false => (match Nat.ble t 115 with | true => (match Nat.ble t 114 with | true => [] | false => [.int .u8 (0), .int .u8 (0)]) | false => (match Nat.ble t 116 with | true => [.int .u8 (0), .int .u8 (0)] | false => (match Nat.ble t 117 with | true => [.int .u8 (0), .int .u8 (0), .int .u8 (0), .int .u8 (0), .int .u8 (0), .int .u8 (0), .int .u8 (0), .int .u8 (0), .int .u8 (0), .int .u8 (0), .int .u8 (0), .int .u8 (0), .int .u8 (0), .int .u8 (0), .int .u8 (0), .int .u8 (0), .int .u8 (0), .int .u8 (0), .int .u8 (0), .int .u8 (0), .int .u8 (0), .int .u8 (0), .int .u8 (0), .int .u8 (0), .int .u8 (0), .int .u8 (0), .int .u8 (0), .int .u8 (0), .int .u8 (0), .int .u8 (0), .int .u8 (0), .int .u8 (0)] | false => [.int .u32 (0)]))))) | false => (match Nat.ble t 126 with | true => (match Nat.ble t 122 with | true => (match Nat.ble t 120 with | true => (match Nat.ble t 119 with | true => [] | false => [.val .nilFunc]) | false => (match Nat.ble t 121 with | true => [.val (.pointer none), .val (.pointer none), .val (.pointer none), .str []] | false => [.val (.pointer none), .val (.pointer none), .val (.pointer none), .str []])) | false => (match Nat.ble t 124 with | true => (match Nat.ble t 123 with | true => [] | false => []) | false => (match Nat.ble t 125 with | true => [] | false => [.val .nilFunc]))) | false => (match Nat.ble t 130 with | true => (match Nat.ble t 128 with | true => (match Nat.ble t 127 with | true => [.int .u8 (0)] | false => [.int .u8 (0)]) | false => (match Nat.ble t 129 with | true => [.val .nilFunc] | false => [.val (.pointer none)])) | false => (match Nat.ble t 132 with | true => (match Nat.ble t 131 with | true => [.int .i32 (0)] | false => [.int .i32 (0)]) | false => (match Nat.ble t 133 with | true => [.int .u64 (0), .int .u64 (0), .int .u32 (0), .int .u8 (0), .int .u8 (0), .int .u8 (0), .int .u8 (0), .val .nilFunc, .val (.pointer none), .int .i32 (0), .int .i32 (0)] | false => (match Nat.ble t 134 with | true => [.int .u64 (0), .int .u64 (0), .int .u32 (0), .int .u8 (0), .int .u8 (0), .int .u8 (0), .int .u8 (0), .val .nilFunc, .val (.pointer none), .int .i32 (0), .int .i32 (0)] | false => [.val (.pointer none)])))))))) | false => []
def tabBytes (t : TypeId) : Nat := match Nat.ble t 135 with | true => (match Nat.ble t 67 with | true => (match Nat.ble t 33 with | true => (match Nat.ble t 16 with | true => (match Nat.ble t 7 with | true => (match Nat.ble t 3 with | true => (match Nat.ble t 1 with | true => (match Nat.ble t 0 with | true => 0 | false => 8) | false => (match Nat.ble t 2 with | true => 8 | false => 8)) | false => (match Nat.ble t 5 with | true => (match Nat.ble t 4 with | true => 1 | false => 1) | false => (match Nat.ble t 6 with | true => 1 | false => 24))) | false => (match Nat.ble t 11 with | true => (match Nat.ble t 9 with | true => (match Nat.ble t 8 with | true => 24 | false => 16) | false => (match Nat.ble t 10 with | true => 16 | false => 16)) | false => (match Nat.ble t 13 with | true => (match Nat.ble t 12 with | true => 8 | false => 24) | false => (match Nat.ble t 14 with | true => 24 | false => (match Nat.ble t 15 with | true => 8 | false => 8))))) | false => (match Nat.ble t 24 with | true => (match Nat.ble t 20 with | true => (match Nat.ble t 18 with | true => (match Nat.ble t 17 with | true => 8 | false => 8) | false => (match Nat.ble t 19 with | true => 8 | false => 16)) | false => (match Nat.ble t 22 with | true => (match Nat.ble t 21 with | true => 4 | false => 56) | false => (match Nat.ble t 23 with | true => 56 | false => 224))) | false => (match Nat.ble t 28 with | true => (match Nat.ble t 26 with | true => (match Nat.ble t 25 with | true => 224 | false => 0) | false => (match Nat.ble t 27 with | true => 8 | false => 8)) | false => (match Nat.ble t 30 with | true => (match Nat.ble t 29 with | true => 8 | false => 8) | false => (match Nat.ble t 31 with | true => 96 | false => (match Nat.ble t 32 with | true => 8 | false => 8)))))) | false => (match Nat.ble t 50 with | true => (match Nat.ble t 41 with | true => (match Nat.ble t 37 with | true => (match Nat.ble t 35 with | true => (match Nat.ble t 34 with | true => 8 | false => 8) | false => (match Nat.ble t 36 with | true => 8 | false => 8)) | false => (match Nat.ble t 39 with | true => (match Nat.ble t 38 with | true => 8 | false => 8) | false => (match Nat.ble t 40 with | true => 8 | false => 8))) | false => (match Nat.ble t 45 with | true => (match Nat.ble t 43 with | true => (match Nat.ble t 42 with | true => 224 | false => 8) | false => (match Nat.ble t 44 with | true => 8 | false => 8)) | false => (match Nat.ble t 47 with | true => (match Nat.ble t 46 with | true => 8 | false => 24) | false => (match Nat.ble t 48 with | true => 0 | false => (match Nat.ble t 49 with | true => 8 | false => 8))))) | false => (match Nat.ble t 58 with | true => (match Nat.ble t 54 with | true => (match Nat.ble t 52 with | true => (match Nat.ble t 51 with | true => 8 | false => 24) | false => (match Nat.ble t 53 with | true => 128 | false => 128)) | false => (match Nat.ble t 56 with | true => (match Nat.ble t 55 with | true => 0 | false => 8) | false => (match Nat.ble t 57 with | true => 8 | false => 8))) | false => (match Nat.ble t 62 with | true => (match Nat.ble t 60 with | true => (match Nat.ble t 59 with | true => 0 | false => 8) | false => (match Nat.ble t 61 with | true => 8 | false => 8)) | false => (match Nat.ble t 64 with | true => (match Nat.ble t 63 with | true => 0 | false => 8) | false => (match Nat.ble t 65 with | true => 8 | false => (match Nat.ble t 66 with | true => 8 | false => 24))))))) | false => (match Nat.ble t 101 with | true => (match Nat.ble t 84 with | true => (match Nat.ble t 75 with | true => (match Nat.ble t 71 with | true => (match Nat.ble t 69 with | true => (match Nat.ble t 68 with | true => 24 | false => 8) | false => (match Nat.ble t 70 with | true => 8 | false => 8)) | false => (match Nat.ble t 73 with | true => (match Nat.ble t 72 with | true => 8 | false => 8) | false => (match Nat.ble t 74 with | true => 8 | false => 8))) | false => (match Nat.ble t 79 with | true => (match Nat.ble t 77 with | true => (match Nat.ble t 76 with | true => 8 | false => 8) | false => (match Nat.ble t 78 with | true => 0 | false => 8)) | false => (match Nat.ble t 81 with | true => (match Nat.ble t 80 with | true => 8 | false => 8) | false => (match Nat.ble t 82 with | true => 152 | false => (match Nat.ble t 83 with | true => 152 | false => 8))))) | false => (match Nat.ble t 92 with | true => (match Nat.ble t 88 with | true => (match Nat.ble t 86 with | true => (match Nat.ble t 85 with | true => 8 | false => 0) | false => (match Nat.ble t 87 with | true => 8 | false => 24)) | false => (match Nat.ble t 90 with | true => (match Nat.ble t 89 with | true => 24 | false => 8) | false => (match Nat.ble t 91 with | true => 224 | false => 8))) | false => (match Nat.ble t 96 with | true => (match Nat.ble t 94 with | true => (match Nat.ble t 93 with | true => 8 | false => 8) | false => (match Nat.ble t 95 with | true => 8 | false => 0)) | false => (match Nat.ble t 98 with | true => (match Nat.ble t 97 with | true => 8 | false => 8) | false => (match Nat.ble t 99 with | true => 8 | false => (match Nat.ble t 100 with | true => 8 | false => 8)))))) | false => (match Nat.ble t 118 with | true => (match Nat.ble t 109 with | true => (match Nat.ble t 105 with | true => (match Nat.ble t 103 with | true => (match Nat.ble t 102 with | true => 8 | false => 40) | false => (match Nat.ble t 104 with | true => 8 | false => 8)) | false => (match Nat.ble t 107 with | true => (match Nat.ble t 106 with | true => 20 | false => 8) | false => (match Nat.ble t 108 with | true => 8 | false => 8))) | false => (match Nat.ble t 113 with | true => (match Nat.ble t 111 with | true => (match Nat.ble t 110 with | true => 8 | false => 8) | false => (match Nat.ble t 112 with | true => 96 | false => 8)) | false => (match Nat.ble t 115 with | true => (match Nat.ble t 114 with | true => 256 | false => 2) | false => (match Nat.ble t 116 with | true => 2 | false => (match Nat.ble t 117 with | true => 32 | false => 4))))) | false => (match Nat.ble t 126 with | true => (match Nat.ble t 122 with | true => (match Nat.ble t 120 with | true => (match Nat.ble t 119 with | true => 0 | false => 8) | false => (match Nat.ble t 121 with | true => 40 | false => 40)) | false => (match Nat.ble t 124 with | true => (match Nat.ble t 123 with | true => 0 | false => 0) | false => (match Nat.ble t 125 with | true => 0 | false => 8))) | false => (match Nat.ble t 130 with | true => (match Nat.ble t 128 with | true => (match Nat.ble t 127 with | true => 1 | false => 1) | false => (match Nat.ble t 129 with | true => 8 | false => 8)) | false => (match Nat.ble t 132 with | true => (match Nat.ble t 131 with | true => 4 | false => 4) | false => (match Nat.ble t 133 with | true => 48 | false => (match Nat.ble t 134 with | true => 48 | false => 8)))))))) | false => 0
def tabFlat (t : TypeId) : Option (List CK) := match Nat.ble t 135 with | true => (match Nat.ble t 67 with | true => (match Nat.ble t 33 with | true => (match Nat.ble t 16 with | true => (match Nat.ble t 7 with | true => (match Nat.ble t 3 with | true => (match Nat.ble t 1 with | true => (match Nat.ble t 0 with | true => none | false => none) | false => (match Nat.ble t 2 with | true => none | false => none)) | false => (match Nat.ble t 5 with | true => (match Nat.ble t 4 with | true => none | false => none) | false => (match Nat.ble t 6 with | true => none | false => none))) | false => (match Nat.ble t 11 with | true => (match Nat.ble t 9 with | true => (match Nat.ble t 8 with | true => none | false => none) | false => (match Nat.ble t 10 with | true => none | false => none)) | false => (match Nat.ble t 13 with | true => (match Nat.ble t 12 with | true => none | false => none) | false => (match Nat.ble t 14 with | true => none | false => (match Nat.ble t 15 with | true => none | false => none))))) | false => (match Nat.ble t 24 with | true => (match Nat.ble t 20 with | true => (match Nat.ble t 18 with | true => (match Nat.ble t 17 with | true => none | false => none) | false => (match Nat.ble t 19 with | true => none | false => none)) | false => (match Nat.ble t 22 with | true => (match Nat.ble t 21 with | true => none | false => none) | false => (match Nat.ble t 23 with | true => some [.int .i64, .str, .str, .str] | false => none))) | false => (match Nat.ble t 28 with | true => (match Nat.ble t 26 with | true => (match Nat.ble t 25 with | true => some [.int .i64, .str, .str, .str, .int .i64, .str, .str, .str, .int .i64, .str, .str, .str, .int .i64, .str, .str, .str] | false => none) | false => (match Nat.ble t 27 with | true => none | false => none)) | false => (match Nat.ble t 30 with | true => (match Nat.ble t 29 with | true => none | false => none) | false => (match Nat.ble t 31 with | true => none | false => (match Nat.ble t 32 with | true => none | false => none)))))) | false => (match Nat.ble t 50 with | true => (match Nat.ble t 41 with | true => (match Nat.ble t 37 with | true => (match Nat.ble t 35 with | true => (match Nat.ble t 34 with | true => none | false => none) | false => (match Nat.ble t 36 with | true => none | false => none)) | false => (match Nat.ble t 39 with | true => (match Nat.ble t 38 with | true => none | false => none) | false => (match Nat.ble t 40 with | true => none | false => none))) | false => (match Nat.ble t 45 with | true => (match Nat.ble t 43 with | true => (match Nat.ble t 42 with | true => none | false => none) | false => (match Nat.ble t 44 with | true => none | false => none)) | false => (match Nat.ble t 47 with | true => (match Nat.ble t 46 with | true => none | false => none) | false => (match Nat.ble t 48 with | true => none | false => (match Nat.ble t 49 with | true => none | false => none))))) | false => (match Nat.ble t 58 with | true => (match Nat.ble t 54 with | true => (match Nat.ble t 52 with | true => (match Nat.ble t 51 with | true => none | false => none) | false => (match Nat.ble t 53 with | true => none | false => none)) | false => (match Nat.ble t 56 with | true => (match Nat.ble t 55 with | true => none | false => none) | false => (match Nat.ble t 57 with | true => none | false => none))) | false => (match Nat.ble t 62 with | true => (match Nat.ble t 60 with | true => (match Nat.ble t 59 with | true => none | false => none) | false => (match Nat.ble t 61 with | true => none | false => none)) | false => (match Nat.ble t 64 with | true => (match Nat.ble t 63 with | true => none | false => none) | false => (match Nat.ble t 65 with | true => none | false => (match Nat.ble t 66 with | true => none | false => none))))))) | false => (match Nat.ble t 101 with | true => (match Nat.ble t 84 with | true => (match Nat.ble t 75 with | true => (match Nat.ble t 71 with | true => (match Nat.ble t 69 with | true => (match Nat.ble t 68 with | true => none | false => none) | false => (match Nat.ble t 70 with | true => none | false => none)) | false => (match Nat.ble t 73 with | true => (match Nat.ble t 72 with | true => none | false => none) | false => (match Nat.ble t 74 with | true => none | false => none))) | false => (match Nat.ble t 79 with | true => (match Nat.ble t 77 with | true => (match Nat.ble t 76 with | true => none | false => none) | false => (match Nat.ble t 78 with | true => none | false => none)) | false => (match Nat.ble t 81 with | true => (match Nat.ble t 80 with | true => none | false => none) | false => (match Nat.ble t 82 with | true => none | false => (match Nat.ble t 83 with | true => none | false => none))))) | false => (match Nat.ble t 92 with | true => (match Nat.ble t 88 with | true => (match Nat.ble t 86 with | true => (match Nat.ble t 85 with | true => none | false => none) | false => (match Nat.ble t 87 with | true => none | false => none)) | false => (match Nat.ble t 90 with | true => (match Nat.ble t 89 with | true => none | false => none) | false => (match Nat.ble t 91 with | true => none | false => none))) | false => (match Nat.ble t 96 with | true => (match Nat.ble t 94 with | true => (match Nat.ble t 93 with | true => none | false => none) | false => (match Nat.ble t 95 with | true => none | false => none)) | false => (match Nat.ble t 98 with | true => (match Nat.ble t 97 with | true => none | false => none) | false => (match Nat.ble t 99 with | true => none | false => (match Nat.ble t 100 with | true => none | false => none)))))) | false => (match Nat.ble t 118 with | true => (match Nat.ble t 109 with | true => (match Nat.ble t 105 with | true => (match Nat.ble t 103 with | true => (match Nat.ble t 102 with | true => none | false => none) | false => (match Nat.ble t 104 with | true => none | false => none)) | false => (match Nat.ble t 107 with | true => (match Nat.ble t 106 with | true => none | false => none) | false => (match Nat.ble t 108 with | true => none | false => none))) | false => (match Nat.ble t 113 with | true => (match Nat.ble t 111 with | true => (match Nat.ble t 110 with | true => none | false => none) | false => (match Nat.ble t 112 with | true => none | false => none)) | false => (match Nat.ble t 115 with | true => (match Nat.ble t 114 with | true => none | false => none) | false => (match Nat.ble t 116 with | true => some [.int .u8, .int .u8] | false => (match Nat.ble t 117 with | true => none | false => none))))) | false => (match Nat.ble t 126 with | true => (match Nat.ble t 122 with | true => (match Nat.ble t 120 with | true => (match Nat.ble t 119 with | true => none | false => none) | false => (match Nat.ble t 121 with | true => none | false => none)) | false => (match Nat.ble t 124 with | true => (match Nat.ble t 123 with | true => none | false => none) | false => (match Nat.ble t 125 with | true => none | false => none))) | false => (match Nat.ble t 130 with | true => (match Nat.ble t 128 with | true => (match Nat.ble t 127 with | true => none | false => none) | false => (match Nat.ble t 129 with | true => none | false => none)) | false => (match Nat.ble t 132 with | true => (match Nat.ble t 131 with | true => none | false => none) | false => (match Nat.ble t 133 with | true => none | false => (match Nat.ble t 134 with | true => none | false => none)))))))) | false => none
def basesTableInts : List Int := [192, 214, 216, 246, 248, 767, 880, 893, 895, 8191, 8204, 8205, 8304, 8591, 11264, 12271, 12289, 55295, 63744, 64975, 65008, 65533, 65536, 983039]
def basesTableRows : List (List SV) := basesTableInts.map fun x => [.int .i32 x]
def tab : Tab := { sh := tabSh, size := tabSize, zero := tabZero, bytes := tabBytes, flat := tabFlat, globs := [(0, .rows 1 basesTableRows)] }
theorem tabOK : TabOK Tryz.prog tab := by
  refine tabOK_of 136 (by kernel_rfl) (fun t ht => ?_)
  have h : Nat.ble t 135 = false := by
    cases e : Nat.ble t 135
    · rfl
    · have := Nat.le_of_ble_eq_true e; omega
  exact ⟨by simp only [tab, tabSh, h], by simp only [tab, tabZero, h], by simp only [tab, tabFlat, h]⟩
theorem mixed : Tryz.prog.follows .mixedOrders = true := by kernel_rfl
end Go.Proofs.YtamnapaephmpmaaGreatDoor
/- How terms and quads that come in read; what package variables hold; from a contract to a row's walk. Conditions: none. -/
set_option linter.unusedVariables false
set_option linter.unusedSimpArgs false
namespace Go.Proofs.YtamnapaephmpmaaGreatDoor
open Go.RowKit Go.Our Go.ChangeShapes Go.WideShapes Go.ChangeAt Go.Sx

section
variable {H : Type} {enc : TypeId × Value → H} {w : World} {base : Nat} {sp : Nat → Bool} {held : Bool}
abbrev strV (s : List UInt8) : Value := .string ⟨s.toArray⟩
abbrev tmL (x : Tm) : List Value := [.int .i64 x.k, strV x.t, strV x.y, strV x.l]
abbrev tmV (x : Tm) : Value := .agg ⟨tmL x⟩
abbrev qdL (q : Qd) : List Value := [.int .i64 q.s.k, strV q.s.t, strV q.s.y, strV q.s.l, .int .i64 q.p.k, strV q.p.t, strV q.p.y, strV q.p.l, .int .i64 q.o.k, strV q.o.t, strV q.o.y, strV q.o.l, .int .i64 q.g.k, strV q.g.t, strV q.g.y, strV q.g.l]
abbrev qdV (q : Qd) : Value := .agg ⟨qdL q⟩
def tmD (x : Tm) : DataW H := .agg [.lit (.int .i64 x.k), .lit (.string x.t), .lit (.string x.y), .lit (.string x.l)]
def qdD (q : Qd) : DataW H := .agg [tmD q.s, tmD q.p, tmD q.o, tmD q.g]
abbrev TmWf (x : Tm) : Prop := (Lit.int .i64 x.k).wf = true
abbrev QdWf (q : Qd) : Prop := TmWf q.s ∧ TmWf q.p ∧ TmWf q.o ∧ TmWf q.g
theorem cellsOfI : Tryz.prog.cellsOf 3 = 1 := by kernel_rfl
theorem cellsOfS : Tryz.prog.cellsOf 9 = 1 := by kernel_rfl
theorem cellsOfT : Tryz.prog.cellsOf 23 = 4 := by kernel_rfl
theorem cellsOfQ : Tryz.prog.cellsOf 25 = 16 := by kernel_rfl
theorem strV_of (s : ByteArray) : Value.string s = strV s.data.toList := by cases s; rfl
set_option maxRecDepth 100000 in
theorem trod_tm {fuel : Nat} {cs : List Value} {x : DataW H × List MemPlace} (h : DataW.trod enc Tryz.prog w base sp held fuel 23 cs = some x) :
    ∃ t : Tm, cs = tmL t ∧ x = (tmD t, []) ∧ TmWf t := by
  cases fuel with
  | zero => simp [DataW.trod] at h
  | succ fuel =>
    simp only [DataW.trod, Tryz.underlying23, cellsOfT] at h
    split at h
    · rename_i hl
      match cs, hl with
      | [c0, c1, c2, c3], _ =>
        simp only [List.mapM_cons, List.mapM_nil, cellsOfI, cellsOfS, List.drop_zero, List.drop_succ_cons, List.take_succ_cons, List.take_zero] at h
        simp only [Option.map_eq_some_iff, Option.bind_eq_bind, Option.bind_eq_some_iff, Option.pure_def, Option.some.injEq] at h
        obtain ⟨xs, ⟨y0, h0, r1, ⟨y1, h1, r2, ⟨y2, h2, r3, ⟨y3, h3, r4, rfl, rfl⟩, rfl⟩, rfl⟩, rfl⟩, hx⟩ := h
        obtain ⟨k, hk, rfl, wk⟩ := DataW.trod_int Tryz.underlying3 h0
        obtain ⟨s1, hs1, rfl, w1⟩ := DataW.trod_string Tryz.underlying9 h1
        obtain ⟨s2, hs2, rfl, w2⟩ := DataW.trod_string Tryz.underlying9 h2
        obtain ⟨s3, hs3, rfl, w3⟩ := DataW.trod_string Tryz.underlying9 h3
        injection hk with hk _; injection hs1 with hs1 _; injection hs2 with hs2 _; injection hs3 with hs3 _
        subst hk hs1 hs2 hs3
        exact ⟨⟨k, s1.data.toList, s2.data.toList, s3.data.toList⟩, by rw [strV_of, strV_of, strV_of], by rw [← hx]; rfl, wk⟩
    · cases h
set_option maxRecDepth 100000 in
theorem trod_qd {fuel : Nat} {cs : List Value} {x : DataW H × List MemPlace} (h : DataW.trod enc Tryz.prog w base sp held fuel 25 cs = some x) :
    ∃ q : Qd, cs = qdL q ∧ x = (qdD q, []) ∧ QdWf q := by
  cases fuel with
  | zero => simp [DataW.trod] at h
  | succ fuel =>
    simp only [DataW.trod, Tryz.underlying25, cellsOfQ] at h
    split at h
    · rename_i hl
      simp only [List.mapM_cons, List.mapM_nil, cellsOfT] at h
      simp only [Option.map_eq_some_iff, Option.bind_eq_bind, Option.bind_eq_some_iff, Option.pure_def, Option.some.injEq] at h
      obtain ⟨xs, ⟨y0, h0, r1, ⟨y1, h1, r2, ⟨y2, h2, r3, ⟨y3, h3, r4, rfl, rfl⟩, rfl⟩, rfl⟩, rfl⟩, hx⟩ := h
      obtain ⟨s, hs, rfl, ws⟩ := trod_tm h0
      obtain ⟨p, hp, rfl, wp⟩ := trod_tm h1
      obtain ⟨o, ho, rfl, wo⟩ := trod_tm h2
      obtain ⟨g, hg, rfl, wg⟩ := trod_tm h3
      refine ⟨⟨s, p, o, g⟩, ?_, by rw [← hx]; rfl, ws, wp, wo, wg⟩
      match cs, hl with
      | [c0, c1, c2, c3, c4, c5, c6, c7, c8, c9, c10, c11, c12, c13, c14, c15], _ =>
        simp only [List.drop_zero, List.drop_succ_cons, List.take_succ_cons, List.take_zero, tmL, List.cons.injEq, and_true] at hs hp ho hg
        obtain ⟨rfl, rfl, rfl, rfl⟩ := hs
        obtain ⟨rfl, rfl, rfl, rfl⟩ := hp
        obtain ⟨rfl, rfl, rfl, rfl⟩ := ho
        obtain ⟨rfl, rfl, rfl, rfl⟩ := hg
        rfl
    · cases h
set_option maxRecDepth 100000 in
theorem read_qd {v : Value} {d : DataW H} {p : List MemPlace} {r : Reach} {b0 : Nat} (ho : Value.okWide Tryz.prog w r b0 25 v) (h : DataW.Trod enc Tryz.prog w base sp held 25 v d p) :
    ∃ q : Qd, v = qdV q ∧ d = qdD q ∧ QdWf q := by
  obtain ⟨fuel, hf⟩ := h
  obtain ⟨q, hcs, hx, hok⟩ := trod_qd hf
  unfold Value.okWide at ho
  rw [Tryz.underlying25] at ho
  obtain ⟨cs, rfl, _, _⟩ := ho
  refine ⟨q, ?_, by injection hx, hok⟩
  congr 1
  exact Array.toList_inj.1 hcs
set_option maxRecDepth 100000 in
theorem read_tm {v : Value} {d : DataW H} {p : List MemPlace} {r : Reach} {b0 : Nat} (ho : Value.okWide Tryz.prog w r b0 23 v) (h : DataW.Trod enc Tryz.prog w base sp held 23 v d p) :
    ∃ t : Tm, v = tmV t ∧ d = tmD t ∧ TmWf t := by
  obtain ⟨fuel, hf⟩ := h
  obtain ⟨t, hcs, hx, hok⟩ := trod_tm hf
  unfold Value.okWide at ho
  rw [Tryz.underlying23] at ho
  obtain ⟨cs, rfl, _, _⟩ := ho
  refine ⟨t, ?_, by injection hx, hok⟩
  congr 1
  exact Array.toList_inj.1 hcs
/-- What the size of a reading says of its texts. -/
theorem tm_small {x : Tm} (h : ((tmD x : DataW H).weights Tryz.prog 23).all (fun n => decide (n ≤ reachBytes)) = true) : x.t.length ≤ reachBytes ∧ x.y.length ≤ reachBytes ∧ x.l.length ≤ reachBytes := by
  simp only [tmD, DataW.weights, Tryz.underlying23, List.map_cons, List.map_nil, DataW.weightsEach, List.nil_append, List.append_nil, List.cons_append, List.all_cons, List.all_nil, Bool.and_true, Bool.and_eq_true, decide_eq_true_eq] at h
  exact h
theorem qd_small {q : Qd} (h : ((qdD q : DataW H).weights Tryz.prog 25).all (fun n => decide (n ≤ reachBytes)) = true) : (q.s.t.length ≤ reachBytes ∧ q.s.y.length ≤ reachBytes ∧ q.s.l.length ≤ reachBytes) ∧ (q.p.t.length ≤ reachBytes ∧ q.p.y.length ≤ reachBytes ∧ q.p.l.length ≤ reachBytes) ∧
    (q.o.t.length ≤ reachBytes ∧ q.o.y.length ≤ reachBytes ∧ q.o.l.length ≤ reachBytes) ∧ (q.g.t.length ≤ reachBytes ∧ q.g.y.length ≤ reachBytes ∧ q.g.l.length ≤ reachBytes) := by
  have e : (qdD q : DataW H).weights Tryz.prog 25 = (tmD q.s : DataW H).weights Tryz.prog 23 ++ ((tmD q.p : DataW H).weights Tryz.prog 23 ++ ((tmD q.o : DataW H).weights Tryz.prog 23 ++ ((tmD q.g : DataW H).weights Tryz.prog 23 ++ []))) := by
    simp only [qdD, DataW.weights, Tryz.underlying25, List.map_cons, List.map_nil, DataW.weightsEach]
  rw [e] at h
  simp only [List.all_append, Bool.and_eq_true] at h
  exact ⟨tm_small h.1, tm_small h.2.1, tm_small h.2.2.1, tm_small h.2.2.2.1⟩
theorem TmSm.of {x : Tm} (h : x.t.length ≤ reachBytes ∧ x.y.length ≤ reachBytes ∧ x.l.length ≤ reachBytes) : TmSm x := by
  unfold reachBytes at h
  exact ⟨by omega, by omega, by omega⟩
theorem tm_sm {x : Tm} (h : ((tmD x : DataW H).weights Tryz.prog 23).all (fun n => decide (n ≤ reachBytes)) = true) : TmSm x := TmSm.of (tm_small h)
theorem qd_sm {q : Qd} (h : ((qdD q : DataW H).weights Tryz.prog 25).all (fun n => decide (n ≤ reachBytes)) = true) : QdSm q :=
  have h := qd_small h
  ⟨TmSm.of h.1, TmSm.of h.2.1, TmSm.of h.2.2.1, TmSm.of h.2.2.2⟩
end
theorem den_tm (x : Tm) : Den [] x.sv (tmV x) := by
  unfold Tm.sv
  simp only [Den, DenL]
  exact ⟨_, rfl, ⟨_, _, rfl, rfl, _, _, rfl, rfl, _, _, rfl, rfl, _, _, rfl, rfl, rfl⟩, by simp [Value.oneCell']⟩
theorem den_qd (q : Qd) : Den [] q.sv (qdV q) := by
  unfold Qd.sv
  simp only [Den, DenL]
  exact ⟨_, rfl, ⟨_, _, rfl, rfl, _, _, rfl, rfl, _, _, rfl, rfl, _, _, rfl, rfl, _, _, rfl, rfl, _, _, rfl, rfl, _, _, rfl, rfl, _, _, rfl, rfl, _, _, rfl, rfl, _, _, rfl, rfl, _, _, rfl, rfl, _, _, rfl, rfl, _, _, rfl, rfl, _, _, rfl, rfl, _, _, rfl, rfl, _, _, rfl, rfl, rfl⟩, by simp [Value.oneCell']⟩
/-- What the walk takes for granted of the package variables. -/
abbrev GlobOK (W : World) : Prop := ∀ g h, lkp g tab.globs = some h → HpSat [] W false (.glob g) h ∧ g < W.heap.size
/-- A law that answers true, whatever plain values come in. -/
theorem law_calls {g : FuncId} {args : List SV} {vs : List Value} {W : World} (sp : Does Tryz.prog tab g 0 args [] [] (Val (.bool true))) (eg : ∀ args w, (callFunc g args).run Tryz.prog w = .ok (.enter g args) w) (hd : DenL [] args vs) (hg : GlobOK W) :
    Calls Tryz.prog g ⟨vs⟩ W fun e W' => e = .returned (.bool true) ∧ Below W.heap.size W W' := by
  refine (sp.calls eg hd hg).mono fun e W' ⟨v, he, hv, hf⟩ => ?_
  simp only [Den] at hv
  subst hv
  exact ⟨he, hf.os, hf.tape, hf.output, hf.size, fun k hk => hf.block k hk fun h => h⟩
end Go.Proofs.YtamnapaephmpmaaGreatDoor
/- What the package variable names.basesTable holds, by the row's own words. Conditions: none. -/
set_option linter.unusedVariables false
set_option linter.unusedSimpArgs false
namespace Go.Proofs.YtamnapaephmpmaaGreatDoor
open Go.RowKit Go.Our Go.ChangeShapes Go.WideShapes Go.ChangeAt Go.Sx
theorem globOf {W : World} {l : List (String × DataW Unit)} (hl : (l.filter fun x => x.2.handleName?.isNone).filter (fun x => x.1 == "tessera/names.basesTable") = [("tessera/names.basesTable", Lib.tabData .i32 basesTableInts)]) (h : laidMetH Tryz.prog l W) : GlobOK W := by
  have h1 := laidMet.filter (fun x => x.1 == "tessera/names.basesTable") (laidMetH_iff.1 h).1
  rw [hl] at h1
  have hT : Lib.TabIs Tryz.prog W "tessera/names.basesTable" .i32 basesTableInts :=
    Lib.tabIs_of_head (rest := []) (g := 0) (by kernel_rfl) (by kernel_rfl) Tryz.underlying112 Tryz.underlying21 (by kernel_rfl) (by kernel_rfl) h1
  have hc : ∀ i, i < 24 → W.cell? ⟨0, i, none⟩ = some (.int .i32 (basesTableInts.getD i 0)) := fun i hi => hT.cell (by kernel_rfl) i hi
  intro g h hg
  simp only [tab] at hg
  rw [lkp_cons] at hg
  split at hg
  case isFalse => simp [lkp] at hg
  rename_i eg
  subst eg
  injection hg with hg
  subst hg
  have h0 := hc 0 (by omega)
  unfold World.cell? at h0
  split at h0
  case h_2 => cases h0
  rename_i c T fz hh
  have hall : ∀ i, i < 24 → c[i]? = some (.int .i32 (basesTableInts.getD i 0)) := by
    intro i hi
    have := hc i hi
    unfold World.cell? at this
    simp only at this hh
    rw [hh] at this
    simpa using this
  simp only at hh
  refine ⟨?_, (Array.getElem?_eq_some_iff.1 hh).1⟩
  simp only [HpSat]
  refine .inr ⟨⟨0, 0, 0⟩, c, T, fz, rfl, hh, fun h => (by cases h), fun i row hr => ?_⟩
  unfold basesTableRows at hr
  rw [List.getElem?_map] at hr
  obtain ⟨x, hx, rfl⟩ := Option.map_eq_some_iff.1 hr
  have hi : i < 24 := (List.getElem?_eq_some_iff.1 hx).1
  refine ⟨rfl, fun j sv hj => ?_⟩
  cases j with
  | succ j => simp at hj
  | zero =>
    simp only [List.getElem?_cons_zero, Option.some.injEq] at hj
    subst hj
    refine ⟨_, by simp only [Nat.zero_add, Nat.mul_one, Nat.add_zero]; exact hall i hi, rfl, ?_⟩
    simp only [Den, List.getD, hx, Option.getD_some]
end Go.Proofs.YtamnapaephmpmaaGreatDoor
/- utf: what stands at a place of a text, walked. Conditions: none. -/
set_option linter.unusedVariables false
set_option linter.unusedSimpArgs false
set_option maxRecDepth 20000
namespace Go.Proofs.YtamnapaephmpmaaGreatDoor
open Go.Sx Go.Our
theorem lead_does (c : Int) (hc : 0 ≤ c ∧ c < 256) : Does Tryz.prog tab 82 0 [.int .u8 c] [] [] (Val (.tup [.int .i64 (leadM c).1, .int .i32 (leadM c).2])) := by
  refine Does.enter tabOK (g := 82) (fn := Tryz.f82) Tryz.call82 Tryz.func82 rfl 30 rfl rfl [.tmp 2, .tmp 3] rfl ?_
  intro w0 F η0 h0
  conv => whnf
  repeat' (first | ((with_reducible refine IF.tt ?_); conv => whnf) | ((with_reducible refine IF.ff ?_); conv => whnf) | ((with_reducible refine NEED.mk ?_ ?_); (first | with_reducible rfl | omega | (simp (disch := omega) only [lnB, wrap64, wrap32] <;> omega) | (intro h; (try simp (disch := omega) only [hsB, hsC, lnB, wrap64, wrap32, Int.reduceBEq, Int.reduceBNe, Int.reduceEq, Int.reduceNe, Int.reduceLT, Int.reduceLE, Int.reduceGT, Int.reduceGE, Int.reduceAdd, Int.reduceSub, Int.reduceMul, Int.reduceNeg, reduceCtorEq] at h); (first | omega | (simp (disch := omega) only [lnB, wrap64, wrap32] <;> omega))) | (exact needApp 256 rfl rfl (by simp) (by simp) (by omega)) | (simp <;> omega)); conv => whnf) | ((with_reducible apply GET.at); (rfl); conv => whnf) | ((with_reducible apply GETG.at); (rfl); conv => whnf) | ((with_reducible refine IF.mk (fun h => ?_) (fun h => ?_)) <;> (try simp (disch := omega) only [hsB, hsC, lnB, wrap64, wrap32, Int.reduceBEq, Int.reduceBNe, Int.reduceEq, Int.reduceNe, Int.reduceLT, Int.reduceLE, Int.reduceGT, Int.reduceGE, Int.reduceAdd, Int.reduceSub, Int.reduceMul, Int.reduceNeg, reduceCtorEq] at h) <;> (try (exfalso; omega)) <;> conv => whnf))
  all_goals (refine FIN.value h0 rfl ?_; unfold leadM; (first | (simp (disch := omega) only [↓if_pos, ↓if_neg, ite_self, wrap64, wrap32, Int.reduceAdd, Int.reduceSub, Int.reduceMul, Int.reduceNeg, and31, and15, and7]; done) | (simp (disch := omega) only [↓if_pos, ↓if_neg, ite_self, wrap64, wrap32, Int.reduceAdd, Int.reduceSub, Int.reduceMul, Int.reduceNeg, and31, and15, and7]; with_reducible rfl)))
theorem scalar_does (r : Int) : Does Tryz.prog tab 84 0 [.int .i32 r] [] [] (Val (.bool (scalarM r))) := by
  refine Does.enter tabOK (g := 84) (fn := Tryz.f84) Tryz.call84 Tryz.func84 rfl 17 rfl rfl [.tmp 2] rfl ?_
  intro w0 F η0 h0
  conv => whnf
  repeat' (first | ((with_reducible refine IF.tt ?_); conv => whnf) | ((with_reducible refine IF.ff ?_); conv => whnf) | ((with_reducible refine NEED.mk ?_ ?_); (first | with_reducible rfl | omega | (simp (disch := omega) only [lnB, wrap64, wrap32] <;> omega) | (intro h; (try simp (disch := omega) only [hsB, hsC, lnB, wrap64, wrap32, Int.reduceBEq, Int.reduceBNe, Int.reduceEq, Int.reduceNe, Int.reduceLT, Int.reduceLE, Int.reduceGT, Int.reduceGE, Int.reduceAdd, Int.reduceSub, Int.reduceMul, Int.reduceNeg, reduceCtorEq] at h); (first | omega | (simp (disch := omega) only [lnB, wrap64, wrap32] <;> omega))) | (exact needApp 256 rfl rfl (by simp) (by simp) (by omega)) | (simp <;> omega)); conv => whnf) | ((with_reducible apply GET.at); (rfl); conv => whnf) | ((with_reducible apply GETG.at); (rfl); conv => whnf) | ((with_reducible refine IF.mk (fun h => ?_) (fun h => ?_)) <;> (try simp (disch := omega) only [hsB, hsC, lnB, wrap64, wrap32, Int.reduceBEq, Int.reduceBNe, Int.reduceEq, Int.reduceNe, Int.reduceLT, Int.reduceLE, Int.reduceGT, Int.reduceGE, Int.reduceAdd, Int.reduceSub, Int.reduceMul, Int.reduceNeg, reduceCtorEq] at h) <;> (try (exfalso; omega)) <;> conv => whnf))
  refine FIN.value h0 rfl (congrArg SV.bool ?_)
  rw [Bool.eq_iff_iff, scalarM_true]
  simp only [Bool.cond_eq_ite, decide_eq_true_eq, Bool.if_false_right, Bool.if_true_left, Bool.and_eq_true, Bool.or_eq_true]
  omega
theorem least_does (n : Int) (hn : 0 ≤ n ∧ n < 5) : Does Tryz.prog tab 83 0 [.int .i64 n] [] [] (Val (.int .i32 (leastM n))) := by
  have hn : n = 0 ∨ n = 1 ∨ n = 2 ∨ n = 3 ∨ n = 4 := by omega
  rcases hn with rfl | rfl | rfl | rfl | rfl
  all_goals
    refine Does.enter tabOK (g := 83) (fn := Tryz.f83) Tryz.call83 Tryz.func83 rfl 6 rfl rfl [.tmp 2] rfl ?_
    intro w0 F η0 h0
    conv => whnf
    repeat' (first | ((with_reducible refine IF.tt ?_); conv => whnf) | ((with_reducible refine IF.ff ?_); conv => whnf) | ((with_reducible refine NEED.mk ?_ ?_); (first | with_reducible rfl | omega | (simp (disch := omega) only [lnB, wrap64, wrap32] <;> omega) | (intro h; (try simp (disch := omega) only [hsB, hsC, lnB, wrap64, wrap32, Int.reduceBEq, Int.reduceBNe, Int.reduceEq, Int.reduceNe, Int.reduceLT, Int.reduceLE, Int.reduceGT, Int.reduceGE, Int.reduceAdd, Int.reduceSub, Int.reduceMul, Int.reduceNeg, reduceCtorEq] at h); (first | omega | (simp (disch := omega) only [lnB, wrap64, wrap32] <;> omega))) | (exact needApp 256 rfl rfl (by simp) (by simp) (by omega)) | (simp <;> omega)); conv => whnf) | ((with_reducible apply GET.at); (rfl); conv => whnf) | ((with_reducible apply GETG.at); (rfl); conv => whnf) | ((with_reducible refine IF.mk (fun h => ?_) (fun h => ?_)) <;> (try simp (disch := omega) only [hsB, hsC, lnB, wrap64, wrap32, Int.reduceBEq, Int.reduceBNe, Int.reduceEq, Int.reduceNe, Int.reduceLT, Int.reduceLE, Int.reduceGT, Int.reduceGE, Int.reduceAdd, Int.reduceSub, Int.reduceMul, Int.reduceNeg, reduceCtorEq] at h) <;> (try (exfalso; omega)) <;> conv => whnf))
    exact FIN.value h0 rfl rfl
theorem lead_at {c : Int} {n r : Int} (hc : 0 ≤ c ∧ c < 256) (h : leadM c = (n, r)) : Does Tryz.prog tab 82 0 [.int .u8 c] [] [] (Val (.tup [.int .i64 n, .int .i32 r])) := by
  have := lead_does c hc
  rw [h] at this
  exact this
theorem next_does (s : List UInt8) (i : Int) (hs : Sm s) : Does Tryz.prog tab 64 0 [.str s, .int .i64 i] [] [] (Val (.tup [.int .i32 (nextAt s i).1, .int .i64 (nextAt s i).2])) := by
  refine Does.enter tabOK (g := 64) (fn := Tryz.f64) Tryz.call64 Tryz.func64 rfl 65 rfl rfl [.tmp 4, .tmp 5] rfl ?_
  intro w0 F η0 h0
  conv => whnf
  repeat' (first | ((with_reducible refine IF.tt ?_); conv => whnf) | ((with_reducible refine IF.ff ?_); conv => whnf) | ((with_reducible refine NEED.mk ?_ ?_); (first | with_reducible rfl | omega | (simp (disch := omega) only [lnB, wrap64, wrap32] <;> omega) | (intro h; (try simp (disch := omega) only [hsB, hsC, lnB, wrap64, wrap32, Int.reduceBEq, Int.reduceBNe, Int.reduceEq, Int.reduceNe, Int.reduceLT, Int.reduceLE, Int.reduceGT, Int.reduceGE, Int.reduceAdd, Int.reduceSub, Int.reduceMul, Int.reduceNeg, reduceCtorEq] at h); (first | omega | (simp (disch := omega) only [lnB, wrap64, wrap32] <;> omega))) | (exact needApp 256 rfl rfl (by simp) (by simp) (by omega)) | (simp <;> omega)); conv => whnf) | ((with_reducible apply GET.at); (rfl); conv => whnf) | ((with_reducible apply GETG.at); (rfl); conv => whnf) | ((with_reducible refine IF.mk (fun h => ?_) (fun h => ?_)) <;> (try simp (disch := omega) only [hsB, hsC, lnB, wrap64, wrap32, Int.reduceBEq, Int.reduceBNe, Int.reduceEq, Int.reduceNe, Int.reduceLT, Int.reduceLE, Int.reduceGT, Int.reduceGE, Int.reduceAdd, Int.reduceSub, Int.reduceMul, Int.reduceNeg, reduceCtorEq] at h) <;> (try (exfalso; omega)) <;> conv => whnf))
  · refine FIN.value h0 rfl ?_
    unfold nextAt; rw [if_pos h]
  · have e0 := byteAt_lt s i; have e1 := byteAt_lt s (i + 1); have e2 := byteAt_lt s (i + 2); have e3 := byteAt_lt s (i + 3)
    have hl := leadM_cases (byteAt s i)
    rcases hl with ⟨hb, hl⟩ | ⟨hb, hl⟩ | ⟨hb, hl⟩ | ⟨hb, hl⟩ | ⟨hb, hl⟩
    all_goals
      refine CALL.value (lead_at e0 hl) rfl rfl ?_
      conv => whnf
      repeat' (first | ((with_reducible refine IF.tt ?_); conv => whnf) | ((with_reducible refine IF.ff ?_); conv => whnf) | (refine CALL.value (least_does _ (by omega)) rfl rfl ?_; conv => whnf) | (refine LOOP.once tabOK ?_; conv => whnf) | (refine CALL.value (scalar_does _) rfl rfl ?_; conv => whnf) | ((with_reducible refine NEED.mk ?_ ?_); (first | with_reducible rfl | omega | (simp (disch := omega) only [lnB, wrap64, wrap32] <;> omega) | (intro h; (try simp (disch := omega) only [hsB, hsC, lnB, wrap64, wrap32, Int.reduceBEq, Int.reduceBNe, Int.reduceEq, Int.reduceNe, Int.reduceLT, Int.reduceLE, Int.reduceGT, Int.reduceGE, Int.reduceAdd, Int.reduceSub, Int.reduceMul, Int.reduceNeg, reduceCtorEq] at h); (first | omega | (simp (disch := omega) only [lnB, wrap64, wrap32] <;> omega))) | (exact needApp 256 rfl rfl (by simp) (by simp) (by omega)) | (simp <;> omega)); conv => whnf) | ((with_reducible apply GET.at); (rfl); conv => whnf) | ((with_reducible apply GETG.at); (rfl); conv => whnf) | ((with_reducible refine IF.mk (fun h => ?_) (fun h => ?_)) <;> (try simp (disch := omega) only [hsB, hsC, lnB, wrap64, wrap32, Int.reduceBEq, Int.reduceBNe, Int.reduceEq, Int.reduceNe, Int.reduceLT, Int.reduceLE, Int.reduceGT, Int.reduceGE, Int.reduceAdd, Int.reduceSub, Int.reduceMul, Int.reduceNeg, reduceCtorEq] at h) <;> (try (exfalso; omega)) <;> conv => whnf))
    all_goals
      refine FIN.value h0 rfl ?_
      unfold nextAt decB r2 r3 r4
      try simp (disch := omega) only [or6, and192, leastM1, leastM2, leastM3, leastM4, scalarM_true, scalarM_false] at *
      (simp (disch := omega) only [↓if_pos, ↓if_neg, ite_self, wrap64, wrap32, Int.reduceAdd, Int.reduceSub, Int.reduceMul, Int.reduceNeg, or6])
theorem check_does (s : List UInt8) (hs : Sm s) : Does Tryz.prog tab 41 0 [.str s] [] [] (Val (.int .i64 (chk s 0))) := by
  refine Does.enter tabOK (g := 41) (fn := Tryz.f41) Tryz.call41 Tryz.func41 rfl 22 rfl rfl [.tmp 2] rfl ?_
  intro w0 F η0 h0
  conv => whnf
  refine LOOP.go tabOK [0] (X := Nat) (fun i => i ≤ s.length ∧ chk s i = chk s 0) (fun i => [(3, .int .i64 (i : Int))]) (fun _ => []) 0 (fun i => s.length - i) 0 ⟨by omega, rfl⟩ ?_
  conv => whnf
  refine ⟨by (refine GOES.cutting h0 rfl rfl rfl (by first | rfl | simp [belowO, belowH, plainLL_below, plainLL_map, plainL, plain]) ?_ ?_ <;> (repeat' (first | (with_reducible rfl) | (exact congrArg (fun n => SV.sl _ _ _ n _) (by simp)) | (exact congrArg (Hp.rows _) (by simp)) | (exact congrArg (SV.int _) (by first | omega | (simp (disch := omega) only [lnB, wrap64, wrap32] <;> omega) | (simp; done) | (simp <;> omega))) | ((conv => whnf); refine ⟨?_, ?_⟩) | exact trivial | (simp; done) | rfl))), ?_⟩
  rintro i ⟨hi, hc⟩
  conv => whnf
  have hn := nextAt_n s i
  repeat' (first | ((with_reducible refine IF.tt ?_); conv => whnf) | ((with_reducible refine IF.ff ?_); conv => whnf) | (refine CALL.value (next_does s _ hs) rfl rfl ?_; conv => whnf) | ((with_reducible refine NEED.mk ?_ ?_); (first | with_reducible rfl | omega | (simp (disch := omega) only [lnB, wrap64, wrap32] <;> omega) | (intro h; (try simp (disch := omega) only [hsB, hsC, lnB, wrap64, wrap32, Int.reduceBEq, Int.reduceBNe, Int.reduceEq, Int.reduceNe, Int.reduceLT, Int.reduceLE, Int.reduceGT, Int.reduceGE, Int.reduceAdd, Int.reduceSub, Int.reduceMul, Int.reduceNeg, reduceCtorEq] at h); (first | omega | (simp (disch := omega) only [lnB, wrap64, wrap32] <;> omega))) | (exact needApp 256 rfl rfl (by simp) (by simp) (by omega)) | (simp <;> omega)); conv => whnf) | ((with_reducible apply GET.at); (rfl); conv => whnf) | ((with_reducible apply GETG.at); (rfl); conv => whnf) | ((with_reducible refine IF.mk (fun h => ?_) (fun h => ?_)) <;> (try simp (disch := omega) only [hsB, hsC, lnB, wrap64, wrap32, Int.reduceBEq, Int.reduceBNe, Int.reduceEq, Int.reduceNe, Int.reduceLT, Int.reduceLE, Int.reduceGT, Int.reduceGE, Int.reduceAdd, Int.reduceSub, Int.reduceMul, Int.reduceNeg, reduceCtorEq] at h) <;> (try (exfalso; omega)) <;> conv => whnf))
  · have hz : (nextAt s i).2 = 0 := h
    refine FIN.value h0 rfl ?_
    rw [← hc, chk_bad (by omega) hz]
  · rename_i h1
    refine ⟨i + (nextAt s i).2.toNat, ⟨by omega, ?_⟩, by omega, ?_⟩
    · rw [← hc, ← chk_step (by omega) h]
    · conv => whnf
      (refine GOES.cutting h0 rfl rfl rfl (by first | rfl | simp [belowO, belowH, plainLL_below, plainLL_map, plainL, plain]) ?_ ?_ <;> (repeat' (first | (with_reducible rfl) | (exact congrArg (fun n => SV.sl _ _ _ n _) (by simp)) | (exact congrArg (Hp.rows _) (by simp)) | (exact congrArg (SV.int _) (by first | omega | (simp (disch := omega) only [lnB, wrap64, wrap32] <;> omega) | (simp; done) | (simp <;> omega))) | ((conv => whnf); refine ⟨?_, ?_⟩) | exact trivial | (simp; done) | rfl)))
  · refine FIN.value h0 rfl ?_
    rw [← hc, chk_end (by omega)]
end Go.Proofs.YtamnapaephmpmaaGreatDoor
/- The reference's utf, walked. Conditions: none. -/
set_option linter.unusedVariables false
set_option linter.unusedSimpArgs false
set_option maxRecDepth 20000
namespace Go.Proofs.YtamnapaephmpmaaGreatDoor
open Go.Sx Go.Our
theorem ref04Scalar_does (r : Int) : Does Tryz.prog tab 95 0 [.int .i64 r] [] [] (Val (.bool (scalarM r))) := by
  refine Does.enter tabOK (g := 95) (fn := Tryz.f95) Tryz.call95 Tryz.func95 rfl 17 rfl rfl [.tmp 2] rfl ?_
  intro w0 F η0 h0
  conv => whnf
  repeat' (first | ((with_reducible refine IF.tt ?_); conv => whnf) | ((with_reducible refine IF.ff ?_); conv => whnf) | ((with_reducible refine NEED.mk ?_ ?_); (first | with_reducible rfl | omega | (simp (disch := omega) only [lnB, wrap64, wrap32] <;> omega) | (intro h; (try simp (disch := omega) only [hsB, hsC, lnB, wrap64, wrap32, Int.reduceBEq, Int.reduceBNe, Int.reduceEq, Int.reduceNe, Int.reduceLT, Int.reduceLE, Int.reduceGT, Int.reduceGE, Int.reduceAdd, Int.reduceSub, Int.reduceMul, Int.reduceNeg, reduceCtorEq] at h); (first | omega | (simp (disch := omega) only [lnB, wrap64, wrap32] <;> omega))) | (exact needApp 256 rfl rfl (by simp) (by simp) (by omega)) | (simp <;> omega)); conv => whnf) | ((with_reducible apply GET.at); (rfl); conv => whnf) | ((with_reducible apply GETG.at); (rfl); conv => whnf) | ((with_reducible refine IF.mk (fun h => ?_) (fun h => ?_)) <;> (try simp (disch := omega) only [hsB, hsC, lnB, wrap64, wrap32, Int.reduceBEq, Int.reduceBNe, Int.reduceEq, Int.reduceNe, Int.reduceLT, Int.reduceLE, Int.reduceGT, Int.reduceGE, Int.reduceAdd, Int.reduceSub, Int.reduceMul, Int.reduceNeg, reduceCtorEq] at h) <;> (try (exfalso; omega)) <;> conv => whnf))
  refine FIN.value h0 rfl (congrArg SV.bool ?_)
  rw [Bool.eq_iff_iff, scalarM_true]
  simp only [Bool.cond_eq_ite, decide_eq_true_eq, Bool.if_false_right, Bool.if_true_left, Bool.and_eq_true, Bool.or_eq_true]
  omega
theorem ref04Bytes_does (r : Int) (hr : 0 ≤ r ∧ r ≤ 1114111) : Does Tryz.prog tab 96 0 [.int .i64 r] [] [] (NewBytes 0 (encM r)) := by
  refine Does.enter tabOK (g := 96) (fn := Tryz.f96) Tryz.call96 Tryz.func96 rfl 57 rfl rfl [.tmp 2] rfl ?_
  intro w0 F η0 h0
  conv => whnf
  repeat' (first | ((with_reducible refine IF.tt ?_); conv => whnf) | ((with_reducible refine IF.ff ?_); conv => whnf) | ((with_reducible refine NEED.mk ?_ ?_); (first | with_reducible rfl | omega | (simp (disch := omega) only [lnB, wrap64, wrap32] <;> omega) | (intro h; (try simp (disch := omega) only [hsB, hsC, lnB, wrap64, wrap32, Int.reduceBEq, Int.reduceBNe, Int.reduceEq, Int.reduceNe, Int.reduceLT, Int.reduceLE, Int.reduceGT, Int.reduceGE, Int.reduceAdd, Int.reduceSub, Int.reduceMul, Int.reduceNeg, reduceCtorEq] at h); (first | omega | (simp (disch := omega) only [lnB, wrap64, wrap32] <;> omega))) | (exact needApp 256 rfl rfl (by simp) (by simp) (by omega)) | (simp <;> omega)); conv => whnf) | ((with_reducible apply GET.at); (rfl); conv => whnf) | ((with_reducible apply GETG.at); (rfl); conv => whnf) | ((with_reducible refine IF.mk (fun h => ?_) (fun h => ?_)) <;> (try simp (disch := omega) only [hsB, hsC, lnB, wrap64, wrap32, Int.reduceBEq, Int.reduceBNe, Int.reduceEq, Int.reduceNe, Int.reduceLT, Int.reduceLE, Int.reduceGT, Int.reduceGE, Int.reduceAdd, Int.reduceSub, Int.reduceMul, Int.reduceNeg, reduceCtorEq] at h) <;> (try (exfalso; omega)) <;> conv => whnf))
  all_goals
    refine FIN.rows h0 0 1 _ rfl rfl rfl rfl ?_
    unfold encM encI
    simp (disch := omega) only [↓if_pos, ↓if_neg, List.map_cons, List.map_nil, wrapu8, wrap64, tdivp, tmodp]
    refine ⟨rfl, ?_, rfl⟩
    simp (disch := omega) only [List.map_cons, List.map_nil, ← bytesRow_of]
theorem guess1_does (a : UInt8) : Does Tryz.prog tab 72 1 [.sl (.loc 0) 0 1 1 none] [] [(0, .rows 1 ([a].map Sx.bytesRow))] (ValK 1 (.int .i64 (guessM [a]))) := by
  have ha := a.toNat_lt
  refine Does.enter tabOK (g := 72) (fn := Tryz.f72) Tryz.call72 Tryz.func72 rfl 45 rfl rfl [.tmp 2] rfl ?_
  intro w0 F η0 h0
  conv => whnf
  repeat' (first | ((with_reducible refine IF.tt ?_); conv => whnf) | ((with_reducible refine IF.ff ?_); conv => whnf) | (refine DRAWN.of (id := 2) tabOK mixed (planOf [(0, 1), (1, 1), (4, 1), (5, 1), (6, 1), (2, 2), (3, 1), (7, 2), (8, 1), (9, 1)]) (by kernel_rfl) ?_; conv => whnf) | (refine DRAWN.of (id := 8) tabOK mixed (planOf [(0, 1), (1, 1), (2, 1), (3, 1), (6, 1), (7, 2), (4, 3), (5, 2), (8, 1), (9, 1)]) (by kernel_rfl) ?_; conv => whnf) | ((with_reducible refine ADD.mk (fun _ _ => ?_)); conv => whnf) | ((with_reducible refine NEED.mk (Det.of rfl) ?_); conv => whnf) | ((with_reducible refine FORK.mk ?_ ?_) <;> conv => whnf) | (refine CALL.value (ref04Scalar_does _) rfl rfl ?_; conv => whnf) | (refine LOOP.once tabOK ?_; conv => whnf) | (refine CALL.bytes (ref04Bytes_does _ (by simp (disch := omega) only [scalarM_true, wrap64, Int.sub_zero] at *; omega)) rfl ?_; conv => whnf) | (refine NEED.mk (needText (by simp)) ?_; conv => whnf) | ((with_reducible refine NEED.mk ?_ ?_); (first | with_reducible rfl | omega | (simp (disch := omega) only [lnB, wrap64, wrap32] <;> omega) | (intro h; (try simp (disch := omega) only [hsB, hsC, lnB, wrap64, wrap32, Int.reduceBEq, Int.reduceBNe, Int.reduceEq, Int.reduceNe, Int.reduceLT, Int.reduceLE, Int.reduceGT, Int.reduceGE, Int.reduceAdd, Int.reduceSub, Int.reduceMul, Int.reduceNeg, reduceCtorEq] at h); (first | omega | (simp (disch := omega) only [lnB, wrap64, wrap32] <;> omega))) | (exact needApp 256 rfl rfl (by simp) (by simp) (by omega)) | (simp <;> omega)); conv => whnf) | ((with_reducible apply GET.at); (rfl); conv => whnf) | ((with_reducible apply GETG.at); (rfl); conv => whnf) | ((with_reducible refine IF.mk (fun h => ?_) (fun h => ?_)) <;> (try simp (disch := omega) only [hsB, hsC, lnB, wrap64, wrap32, Int.reduceBEq, Int.reduceBNe, Int.reduceEq, Int.reduceNe, Int.reduceLT, Int.reduceLE, Int.reduceGT, Int.reduceGE, Int.reduceAdd, Int.reduceSub, Int.reduceMul, Int.reduceNeg, reduceCtorEq] at h) <;> (try (exfalso; omega)) <;> conv => whnf))
  all_goals
    refine FIN.valueK h0 rfl (congrArg (SV.int _) ?_)
    simp (disch := omega) only [wrap64, Int.sub_zero, List.drop_zero, ← List.map_take, unrow, List.take_length, List.take_succ_cons, List.take_zero, scalarM, decide_eq_true_eq, decide_eq_false_iff_not] at *
    simp_all [guessM, rawM, bn]
theorem guess2_does (a b : UInt8) : Does Tryz.prog tab 72 1 [.sl (.loc 0) 0 1 2 none] [] [(0, .rows 1 ([a, b].map Sx.bytesRow))] (ValK 1 (.int .i64 (guessM [a, b]))) := by
  have ha := a.toNat_lt; have hb := b.toNat_lt
  refine Does.enter tabOK (g := 72) (fn := Tryz.f72) Tryz.call72 Tryz.func72 rfl 45 rfl rfl [.tmp 2] rfl ?_
  intro w0 F η0 h0
  conv => whnf
  repeat' (first | ((with_reducible refine IF.tt ?_); conv => whnf) | ((with_reducible refine IF.ff ?_); conv => whnf) | (refine DRAWN.of (id := 2) tabOK mixed (planOf [(0, 1), (1, 1), (4, 1), (5, 1), (6, 1), (2, 2), (3, 1), (7, 2), (8, 1), (9, 1)]) (by kernel_rfl) ?_; conv => whnf) | (refine DRAWN.of (id := 8) tabOK mixed (planOf [(0, 1), (1, 1), (2, 1), (3, 1), (6, 1), (7, 2), (4, 3), (5, 2), (8, 1), (9, 1)]) (by kernel_rfl) ?_; conv => whnf) | ((with_reducible refine ADD.mk (fun _ _ => ?_)); conv => whnf) | ((with_reducible refine NEED.mk (Det.of rfl) ?_); conv => whnf) | ((with_reducible refine FORK.mk ?_ ?_) <;> conv => whnf) | (refine CALL.value (ref04Scalar_does _) rfl rfl ?_; conv => whnf) | (refine LOOP.once tabOK ?_; conv => whnf) | (refine CALL.bytes (ref04Bytes_does _ (by simp (disch := omega) only [scalarM_true, wrap64, Int.sub_zero] at *; omega)) rfl ?_; conv => whnf) | (refine NEED.mk (needText (by simp)) ?_; conv => whnf) | ((with_reducible refine NEED.mk ?_ ?_); (first | with_reducible rfl | omega | (simp (disch := omega) only [lnB, wrap64, wrap32] <;> omega) | (intro h; (try simp (disch := omega) only [hsB, hsC, lnB, wrap64, wrap32, Int.reduceBEq, Int.reduceBNe, Int.reduceEq, Int.reduceNe, Int.reduceLT, Int.reduceLE, Int.reduceGT, Int.reduceGE, Int.reduceAdd, Int.reduceSub, Int.reduceMul, Int.reduceNeg, reduceCtorEq] at h); (first | omega | (simp (disch := omega) only [lnB, wrap64, wrap32] <;> omega))) | (exact needApp 256 rfl rfl (by simp) (by simp) (by omega)) | (simp <;> omega)); conv => whnf) | ((with_reducible apply GET.at); (rfl); conv => whnf) | ((with_reducible apply GETG.at); (rfl); conv => whnf) | ((with_reducible refine IF.mk (fun h => ?_) (fun h => ?_)) <;> (try simp (disch := omega) only [hsB, hsC, lnB, wrap64, wrap32, Int.reduceBEq, Int.reduceBNe, Int.reduceEq, Int.reduceNe, Int.reduceLT, Int.reduceLE, Int.reduceGT, Int.reduceGE, Int.reduceAdd, Int.reduceSub, Int.reduceMul, Int.reduceNeg, reduceCtorEq] at h) <;> (try (exfalso; omega)) <;> conv => whnf))
  all_goals
    refine FIN.valueK h0 rfl (congrArg (SV.int _) ?_)
    simp (disch := omega) only [wrap64, Int.sub_zero, List.drop_zero, ← List.map_take, unrow, List.take_length, List.take_succ_cons, List.take_zero, scalarM, decide_eq_true_eq, decide_eq_false_iff_not] at *
    simp_all [guessM, rawM, bn]
theorem guess3_does (a b c : UInt8) : Does Tryz.prog tab 72 1 [.sl (.loc 0) 0 1 3 none] [] [(0, .rows 1 ([a, b, c].map Sx.bytesRow))] (ValK 1 (.int .i64 (guessM [a, b, c]))) := by
  have ha := a.toNat_lt; have hb := b.toNat_lt; have hc := c.toNat_lt
  refine Does.enter tabOK (g := 72) (fn := Tryz.f72) Tryz.call72 Tryz.func72 rfl 45 rfl rfl [.tmp 2] rfl ?_
  intro w0 F η0 h0
  conv => whnf
  repeat' (first | ((with_reducible refine IF.tt ?_); conv => whnf) | ((with_reducible refine IF.ff ?_); conv => whnf) | (refine DRAWN.of (id := 2) tabOK mixed (planOf [(0, 1), (1, 1), (4, 1), (5, 1), (6, 1), (2, 2), (3, 1), (7, 2), (8, 1), (9, 1)]) (by kernel_rfl) ?_; conv => whnf) | (refine DRAWN.of (id := 8) tabOK mixed (planOf [(0, 1), (1, 1), (2, 1), (3, 1), (6, 1), (7, 2), (4, 3), (5, 2), (8, 1), (9, 1)]) (by kernel_rfl) ?_; conv => whnf) | ((with_reducible refine ADD.mk (fun _ _ => ?_)); conv => whnf) | ((with_reducible refine NEED.mk (Det.of rfl) ?_); conv => whnf) | ((with_reducible refine FORK.mk ?_ ?_) <;> conv => whnf) | (refine CALL.value (ref04Scalar_does _) rfl rfl ?_; conv => whnf) | (refine LOOP.once tabOK ?_; conv => whnf) | (refine CALL.bytes (ref04Bytes_does _ (by simp (disch := omega) only [scalarM_true, wrap64, Int.sub_zero] at *; omega)) rfl ?_; conv => whnf) | (refine NEED.mk (needText (by simp)) ?_; conv => whnf) | ((with_reducible refine NEED.mk ?_ ?_); (first | with_reducible rfl | omega | (simp (disch := omega) only [lnB, wrap64, wrap32] <;> omega) | (intro h; (try simp (disch := omega) only [hsB, hsC, lnB, wrap64, wrap32, Int.reduceBEq, Int.reduceBNe, Int.reduceEq, Int.reduceNe, Int.reduceLT, Int.reduceLE, Int.reduceGT, Int.reduceGE, Int.reduceAdd, Int.reduceSub, Int.reduceMul, Int.reduceNeg, reduceCtorEq] at h); (first | omega | (simp (disch := omega) only [lnB, wrap64, wrap32] <;> omega))) | (exact needApp 256 rfl rfl (by simp) (by simp) (by omega)) | (simp <;> omega)); conv => whnf) | ((with_reducible apply GET.at); (rfl); conv => whnf) | ((with_reducible apply GETG.at); (rfl); conv => whnf) | ((with_reducible refine IF.mk (fun h => ?_) (fun h => ?_)) <;> (try simp (disch := omega) only [hsB, hsC, lnB, wrap64, wrap32, Int.reduceBEq, Int.reduceBNe, Int.reduceEq, Int.reduceNe, Int.reduceLT, Int.reduceLE, Int.reduceGT, Int.reduceGE, Int.reduceAdd, Int.reduceSub, Int.reduceMul, Int.reduceNeg, reduceCtorEq] at h) <;> (try (exfalso; omega)) <;> conv => whnf))
  all_goals
    refine FIN.valueK h0 rfl (congrArg (SV.int _) ?_)
    simp (disch := omega) only [wrap64, Int.sub_zero, List.drop_zero, ← List.map_take, unrow, List.take_length, List.take_succ_cons, List.take_zero, scalarM, decide_eq_true_eq, decide_eq_false_iff_not] at *
    simp_all [guessM, rawM, bn]
theorem guess4_does (a b c d : UInt8) : Does Tryz.prog tab 72 1 [.sl (.loc 0) 0 1 4 none] [] [(0, .rows 1 ([a, b, c, d].map Sx.bytesRow))] (ValK 1 (.int .i64 (guessM [a, b, c, d]))) := by
  have ha := a.toNat_lt; have hb := b.toNat_lt; have hc := c.toNat_lt; have hd := d.toNat_lt
  refine Does.enter tabOK (g := 72) (fn := Tryz.f72) Tryz.call72 Tryz.func72 rfl 45 rfl rfl [.tmp 2] rfl ?_
  intro w0 F η0 h0
  conv => whnf
  repeat' (first | ((with_reducible refine IF.tt ?_); conv => whnf) | ((with_reducible refine IF.ff ?_); conv => whnf) | (refine DRAWN.of (id := 2) tabOK mixed (planOf [(0, 1), (1, 1), (4, 1), (5, 1), (6, 1), (2, 2), (3, 1), (7, 2), (8, 1), (9, 1)]) (by kernel_rfl) ?_; conv => whnf) | (refine DRAWN.of (id := 8) tabOK mixed (planOf [(0, 1), (1, 1), (2, 1), (3, 1), (6, 1), (7, 2), (4, 3), (5, 2), (8, 1), (9, 1)]) (by kernel_rfl) ?_; conv => whnf) | ((with_reducible refine ADD.mk (fun _ _ => ?_)); conv => whnf) | ((with_reducible refine NEED.mk (Det.of rfl) ?_); conv => whnf) | ((with_reducible refine FORK.mk ?_ ?_) <;> conv => whnf) | (refine CALL.value (ref04Scalar_does _) rfl rfl ?_; conv => whnf) | (refine LOOP.once tabOK ?_; conv => whnf) | (refine CALL.bytes (ref04Bytes_does _ (by simp (disch := omega) only [scalarM_true, wrap64, Int.sub_zero] at *; omega)) rfl ?_; conv => whnf) | (refine NEED.mk (needText (by simp)) ?_; conv => whnf) | ((with_reducible refine NEED.mk ?_ ?_); (first | with_reducible rfl | omega | (simp (disch := omega) only [lnB, wrap64, wrap32] <;> omega) | (intro h; (try simp (disch := omega) only [hsB, hsC, lnB, wrap64, wrap32, Int.reduceBEq, Int.reduceBNe, Int.reduceEq, Int.reduceNe, Int.reduceLT, Int.reduceLE, Int.reduceGT, Int.reduceGE, Int.reduceAdd, Int.reduceSub, Int.reduceMul, Int.reduceNeg, reduceCtorEq] at h); (first | omega | (simp (disch := omega) only [lnB, wrap64, wrap32] <;> omega))) | (exact needApp 256 rfl rfl (by simp) (by simp) (by omega)) | (simp <;> omega)); conv => whnf) | ((with_reducible apply GET.at); (rfl); conv => whnf) | ((with_reducible apply GETG.at); (rfl); conv => whnf) | ((with_reducible refine IF.mk (fun h => ?_) (fun h => ?_)) <;> (try simp (disch := omega) only [hsB, hsC, lnB, wrap64, wrap32, Int.reduceBEq, Int.reduceBNe, Int.reduceEq, Int.reduceNe, Int.reduceLT, Int.reduceLE, Int.reduceGT, Int.reduceGE, Int.reduceAdd, Int.reduceSub, Int.reduceMul, Int.reduceNeg, reduceCtorEq] at h) <;> (try (exfalso; omega)) <;> conv => whnf))
  all_goals
    refine FIN.valueK h0 rfl (congrArg (SV.int _) ?_)
    simp (disch := omega) only [wrap64, Int.sub_zero, List.drop_zero, ← List.map_take, unrow, List.take_length, List.take_succ_cons, List.take_zero, scalarM, decide_eq_true_eq, decide_eq_false_iff_not] at *
    simp_all [guessM, rawM, bn]
theorem guess_does (l : List UInt8) (hl : 1 ≤ l.length ∧ l.length ≤ 4) : Does Tryz.prog tab 72 1 [.sl (.loc 0) 0 1 l.length none] [] [(0, .rows 1 (l.map Sx.bytesRow))] (ValK 1 (.int .i64 (guessM l))) := by
  match l, hl with
  | [a], _ => exact guess1_does a
  | [a, b], _ => exact guess2_does a b
  | [a, b, c], _ => exact guess3_does a b c
  | [a, b, c, d], _ => exact guess4_does a b c d
  | [], h => simp at h
  | _ :: _ :: _ :: _ :: _ :: _, h => simp at h
theorem ref04Next_does (s : List UInt8) (i : Int) (hs : Sm s) : Does Tryz.prog tab 48 0 [.str s, .int .i64 i] [] [] (Val (.tup [.int .i64 (nextAt s i).1, .int .i64 (nextAt s i).2])) := by
  refine Does.enter tabOK (g := 48) (fn := Tryz.f48) Tryz.call48 Tryz.func48 rfl 40 rfl rfl [.tmp 4, .tmp 5] rfl ?_
  intro w0 F η0 h0
  conv => whnf
  repeat' (first | ((with_reducible refine IF.tt ?_); conv => whnf) | ((with_reducible refine IF.ff ?_); conv => whnf) | (refine LOOP.once tabOK ?_; conv => whnf) | (refine CALL.look1 _ (guess_does _ (by simp (disch := omega) only [wrap64, List.length_take, List.length_drop]; omega)) rfl rfl rfl rfl (plainBytes _) rfl ?_; conv => whnf) | ((with_reducible refine NEED.mk ?_ ?_); (first | with_reducible rfl | omega | (simp (disch := omega) only [lnB, wrap64, wrap32] <;> omega) | (intro h; (try simp (disch := omega) only [hsB, hsC, lnB, wrap64, wrap32, Int.reduceBEq, Int.reduceBNe, Int.reduceEq, Int.reduceNe, Int.reduceLT, Int.reduceLE, Int.reduceGT, Int.reduceGE, Int.reduceAdd, Int.reduceSub, Int.reduceMul, Int.reduceNeg, reduceCtorEq] at h); (first | omega | (simp (disch := omega) only [lnB, wrap64, wrap32] <;> omega))) | (exact needApp 256 rfl rfl (by simp) (by simp) (by omega)) | (simp <;> omega)); conv => whnf) | ((with_reducible apply GET.at); (rfl); conv => whnf) | ((with_reducible apply GETG.at); (rfl); conv => whnf) | ((with_reducible refine IF.mk (fun h => ?_) (fun h => ?_)) <;> (try simp (disch := omega) only [hsB, hsC, lnB, wrap64, wrap32, Int.reduceBEq, Int.reduceBNe, Int.reduceEq, Int.reduceNe, Int.reduceLT, Int.reduceLE, Int.reduceGT, Int.reduceGE, Int.reduceAdd, Int.reduceSub, Int.reduceMul, Int.reduceNeg, reduceCtorEq] at h) <;> (try (exfalso; omega)) <;> conv => whnf))
  all_goals
    refine FIN.value h0 rfl ?_
    first
      | (unfold nextAt; rw [if_pos (by assumption)])
      | (rw [nextAt_guess (by omega)]; simp (disch := omega) only [↓if_pos, ↓if_neg, wrap64, Int.reduceAdd])
theorem ref04Check_does (s : List UInt8) (hs : Sm s) : Does Tryz.prog tab 36 0 [.str s] [] [] (Val (.int .i64 (chk s 0))) := by
  refine Does.enter tabOK (g := 36) (fn := Tryz.f36) Tryz.call36 Tryz.func36 rfl 22 rfl rfl [.tmp 2] rfl ?_
  intro w0 F η0 h0
  conv => whnf
  refine LOOP.go tabOK [0] (X := Nat) (fun i => i ≤ s.length ∧ chk s i = chk s 0) (fun i => [(3, .int .i64 (i : Int))]) (fun _ => []) 0 (fun i => s.length - i) 0 ⟨by omega, rfl⟩ ?_
  conv => whnf
  refine ⟨by (refine GOES.cutting h0 rfl rfl rfl (by first | rfl | simp [belowO, belowH, plainLL_below, plainLL_map, plainL, plain]) ?_ ?_ <;> (repeat' (first | (with_reducible rfl) | (exact congrArg (fun n => SV.sl _ _ _ n _) (by simp)) | (exact congrArg (Hp.rows _) (by simp)) | (exact congrArg (SV.int _) (by first | omega | (simp (disch := omega) only [lnB, wrap64, wrap32] <;> omega) | (simp; done) | (simp <;> omega))) | ((conv => whnf); refine ⟨?_, ?_⟩) | exact trivial | (simp; done) | rfl))), ?_⟩
  rintro i ⟨hi, hc⟩
  conv => whnf
  have hn := nextAt_n s i
  repeat' (first | ((with_reducible refine IF.tt ?_); conv => whnf) | ((with_reducible refine IF.ff ?_); conv => whnf) | (refine CALL.value (ref04Next_does s _ hs) rfl rfl ?_; conv => whnf) | ((with_reducible refine NEED.mk ?_ ?_); (first | with_reducible rfl | omega | (simp (disch := omega) only [lnB, wrap64, wrap32] <;> omega) | (intro h; (try simp (disch := omega) only [hsB, hsC, lnB, wrap64, wrap32, Int.reduceBEq, Int.reduceBNe, Int.reduceEq, Int.reduceNe, Int.reduceLT, Int.reduceLE, Int.reduceGT, Int.reduceGE, Int.reduceAdd, Int.reduceSub, Int.reduceMul, Int.reduceNeg, reduceCtorEq] at h); (first | omega | (simp (disch := omega) only [lnB, wrap64, wrap32] <;> omega))) | (exact needApp 256 rfl rfl (by simp) (by simp) (by omega)) | (simp <;> omega)); conv => whnf) | ((with_reducible apply GET.at); (rfl); conv => whnf) | ((with_reducible apply GETG.at); (rfl); conv => whnf) | ((with_reducible refine IF.mk (fun h => ?_) (fun h => ?_)) <;> (try simp (disch := omega) only [hsB, hsC, lnB, wrap64, wrap32, Int.reduceBEq, Int.reduceBNe, Int.reduceEq, Int.reduceNe, Int.reduceLT, Int.reduceLE, Int.reduceGT, Int.reduceGE, Int.reduceAdd, Int.reduceSub, Int.reduceMul, Int.reduceNeg, reduceCtorEq] at h) <;> (try (exfalso; omega)) <;> conv => whnf))
  · have hz : (nextAt s i).2 = 0 := h
    refine FIN.value h0 rfl ?_
    rw [← hc, chk_bad (by omega) hz]
  · rename_i h1
    refine ⟨i + (nextAt s i).2.toNat, ⟨by omega, ?_⟩, by omega, ?_⟩
    · rw [← hc, ← chk_step (by omega) h]
    · conv => whnf
      (refine GOES.cutting h0 rfl rfl rfl (by first | rfl | simp [belowO, belowH, plainLL_below, plainLL_map, plainL, plain]) ?_ ?_ <;> (repeat' (first | (with_reducible rfl) | (exact congrArg (fun n => SV.sl _ _ _ n _) (by simp)) | (exact congrArg (Hp.rows _) (by simp)) | (exact congrArg (SV.int _) (by first | omega | (simp (disch := omega) only [lnB, wrap64, wrap32] <;> omega) | (simp; done) | (simp <;> omega))) | ((conv => whnf); refine ⟨?_, ?_⟩) | exact trivial | (simp; done) | rfl)))
  · refine FIN.value h0 rfl ?_
    rw [← hc, chk_end (by omega)]
end Go.Proofs.YtamnapaephmpmaaGreatDoor
/- The library's searches in texts, walked. Conditions: none. -/
set_option linter.unusedVariables false
set_option linter.unusedSimpArgs false
set_option maxRecDepth 20000
namespace Go.Proofs.YtamnapaephmpmaaGreatDoor
open Go.Sx Go.Our
theorem indexByteString_does (s : List UInt8) (c : Int) : Does Tryz.prog tab 115 0 [.str s, .int .u8 c] [] [] (Val (.int .i64 (Lib.indexByte s c.toNat.toUInt8))) := by
  refine Does.says fun η w vs hd => ?_
  simp only [DenL, Den] at hd
  obtain ⟨u, us, rfl, rfl, u', us', rfl, rfl, rfl⟩ := hd
  refine ⟨_, ?_, rfl⟩
  rw [run_callFunc_extern Tryz.func115 (by kernel_rfl) (by kernel_rfl) (by kernel_rfl) (e := Extern.BytealgIndexByte.indexByte) (by kernel_rfl), Lib.run_indexByteString]
  rfl
theorem slIndexByte_does (s : List UInt8) (c : Int) : Does Tryz.prog tab 112 0 [.str s, .int .u8 c] [] [] (Val (.int .i64 (Lib.indexByte s c.toNat.toUInt8))) := by
  refine Does.enter tabOK (g := 112) (fn := Tryz.f112) Tryz.call112 Tryz.func112 rfl 8 rfl rfl [.tmp 4] rfl ?_
  intro w0 F η0 h0
  conv => whnf
  repeat' (first | ((with_reducible refine IF.tt ?_); conv => whnf) | ((with_reducible refine IF.ff ?_); conv => whnf) | (refine CALL.value (indexByteString_does _ _) rfl rfl ?_; conv => whnf) | ((with_reducible refine NEED.mk ?_ ?_); (first | with_reducible rfl | omega | (simp (disch := omega) only [lnB, wrap64, wrap32] <;> omega) | (intro h; (try simp (disch := omega) only [hsB, hsC, lnB, wrap64, wrap32, Int.reduceBEq, Int.reduceBNe, Int.reduceEq, Int.reduceNe, Int.reduceLT, Int.reduceLE, Int.reduceGT, Int.reduceGE, Int.reduceAdd, Int.reduceSub, Int.reduceMul, Int.reduceNeg, reduceCtorEq] at h); (first | omega | (simp (disch := omega) only [lnB, wrap64, wrap32] <;> omega))) | (exact needApp 256 rfl rfl (by simp) (by simp) (by omega)) | (simp <;> omega)); conv => whnf) | ((with_reducible apply GET.at); (rfl); conv => whnf) | ((with_reducible apply GETG.at); (rfl); conv => whnf) | ((with_reducible refine IF.mk (fun h => ?_) (fun h => ?_)) <;> (try simp (disch := omega) only [hsB, hsC, lnB, wrap64, wrap32, Int.reduceBEq, Int.reduceBNe, Int.reduceEq, Int.reduceNe, Int.reduceLT, Int.reduceLE, Int.reduceGT, Int.reduceGE, Int.reduceAdd, Int.reduceSub, Int.reduceMul, Int.reduceNeg, reduceCtorEq] at h) <;> (try (exfalso; omega)) <;> conv => whnf))
  exact FIN.value h0 rfl rfl
theorem indexByte_does (s : List UInt8) (c : Int) : Does Tryz.prog tab 104 0 [.str s, .int .u8 c] [] [] (Val (.int .i64 (Lib.indexByte s c.toNat.toUInt8))) := by
  refine Does.enter tabOK (g := 104) (fn := Tryz.f104) Tryz.call104 Tryz.func104 rfl 8 rfl rfl [.tmp 4] rfl ?_
  intro w0 F η0 h0
  conv => whnf
  repeat' (first | ((with_reducible refine IF.tt ?_); conv => whnf) | ((with_reducible refine IF.ff ?_); conv => whnf) | (refine CALL.value (slIndexByte_does _ _) rfl rfl ?_; conv => whnf) | ((with_reducible refine NEED.mk ?_ ?_); (first | with_reducible rfl | omega | (simp (disch := omega) only [lnB, wrap64, wrap32] <;> omega) | (intro h; (try simp (disch := omega) only [hsB, hsC, lnB, wrap64, wrap32, Int.reduceBEq, Int.reduceBNe, Int.reduceEq, Int.reduceNe, Int.reduceLT, Int.reduceLE, Int.reduceGT, Int.reduceGE, Int.reduceAdd, Int.reduceSub, Int.reduceMul, Int.reduceNeg, reduceCtorEq] at h); (first | omega | (simp (disch := omega) only [lnB, wrap64, wrap32] <;> omega))) | (exact needApp 256 rfl rfl (by simp) (by simp) (by omega)) | (simp <;> omega)); conv => whnf) | ((with_reducible apply GET.at); (rfl); conv => whnf) | ((with_reducible apply GETG.at); (rfl); conv => whnf) | ((with_reducible refine IF.mk (fun h => ?_) (fun h => ?_)) <;> (try simp (disch := omega) only [hsB, hsC, lnB, wrap64, wrap32, Int.reduceBEq, Int.reduceBNe, Int.reduceEq, Int.reduceNe, Int.reduceLT, Int.reduceLE, Int.reduceGT, Int.reduceGE, Int.reduceAdd, Int.reduceSub, Int.reduceMul, Int.reduceNeg, reduceCtorEq] at h) <;> (try (exfalso; omega)) <;> conv => whnf))
  exact FIN.value h0 rfl rfl
theorem validRune_does (r : Int) : Does Tryz.prog tab 105 0 [.int .i32 r] [] [] (Val (.bool (scalarM r))) := by
  refine Does.enter tabOK (g := 105) (fn := Tryz.f105) Tryz.call105 Tryz.func105 rfl 17 rfl rfl [.tmp 2] rfl ?_
  intro w0 F η0 h0
  conv => whnf
  repeat' (first | ((with_reducible refine IF.tt ?_); conv => whnf) | ((with_reducible refine IF.ff ?_); conv => whnf) | ((with_reducible refine NEED.mk ?_ ?_); (first | with_reducible rfl | omega | (simp (disch := omega) only [lnB, wrap64, wrap32] <;> omega) | (intro h; (try simp (disch := omega) only [hsB, hsC, lnB, wrap64, wrap32, Int.reduceBEq, Int.reduceBNe, Int.reduceEq, Int.reduceNe, Int.reduceLT, Int.reduceLE, Int.reduceGT, Int.reduceGE, Int.reduceAdd, Int.reduceSub, Int.reduceMul, Int.reduceNeg, reduceCtorEq] at h); (first | omega | (simp (disch := omega) only [lnB, wrap64, wrap32] <;> omega))) | (exact needApp 256 rfl rfl (by simp) (by simp) (by omega)) | (simp <;> omega)); conv => whnf) | ((with_reducible apply GET.at); (rfl); conv => whnf) | ((with_reducible apply GETG.at); (rfl); conv => whnf) | ((with_reducible refine IF.mk (fun h => ?_) (fun h => ?_)) <;> (try simp (disch := omega) only [hsB, hsC, lnB, wrap64, wrap32, Int.reduceBEq, Int.reduceBNe, Int.reduceEq, Int.reduceNe, Int.reduceLT, Int.reduceLE, Int.reduceGT, Int.reduceGE, Int.reduceAdd, Int.reduceSub, Int.reduceMul, Int.reduceNeg, reduceCtorEq] at h) <;> (try (exfalso; omega)) <;> conv => whnf))
  all_goals
    refine FIN.value h0 rfl (congrArg SV.bool ?_)
    rw [Bool.eq_iff_iff, scalarM_true]
    simp
    try omega
theorem idxFunc_does (g : Nat) (p : Int → Bool) (hp : ∀ r : Int, Scalar r → Does Tryz.prog tab g 0 [.int .i32 r] [] [] (Val (.bool (p r)))) (s : List UInt8) (hs : Sm s) : Does Tryz.prog tab 77 0 [.str s, .fn (.func g) [] [], .bool true] [] [] (Val (.int .i64 (idxF p s 0))) := by
  refine Does.enter tabOK (g := 77) (fn := Tryz.f77) Tryz.call77 Tryz.func77 rfl 21 rfl rfl [.tmp 6] rfl ?_
  intro w0 F η0 h0
  conv => whnf
  refine LOOP.go tabOK [1, 2, 10] (X := Nat) (fun i => i ≤ s.length ∧ idxF p s i = idxF p s 0) (fun i => []) (fun i => [(0, .siter s i)]) 1 (fun i => s.length - i) 0 ⟨by omega, rfl⟩ ?_
  conv => whnf
  refine ⟨by (refine GOES.cutting h0 rfl rfl rfl (by first | rfl | simp [belowO, belowH, plainLL_below, plainLL_map, plainL, plain]) ?_ ?_ <;> (repeat' (first | (with_reducible rfl) | (exact congrArg (fun n => SV.sl _ _ _ n _) (by simp)) | (exact congrArg (Hp.rows _) (by simp)) | (exact congrArg (SV.int _) (by first | omega | (simp (disch := omega) only [lnB, wrap64, wrap32] <;> omega) | (simp; done) | (simp <;> omega))) | ((conv => whnf); refine ⟨?_, ?_⟩) | exact trivial | (simp; done) | rfl))), ?_⟩
  rintro i ⟨hi, hc⟩
  conv => whnf
  refine ⟨fun h => ?_, fun h => ?_⟩
  · have h : i < s.length := by simpa using h
    have hf := deco_fits s i h
    have hd := deco_pos s i
    conv => whnf
    repeat' (first | ((with_reducible refine IF.tt ?_); conv => whnf) | ((with_reducible refine IF.ff ?_); conv => whnf) | (refine CALL.value (hp _ (deco_scalar s i)) rfl rfl ?_; conv => whnf) | ((with_reducible refine NEED.mk ?_ ?_); (first | with_reducible rfl | omega | (simp (disch := omega) only [lnB, wrap64, wrap32] <;> omega) | (intro h; (try simp (disch := omega) only [hsB, hsC, lnB, wrap64, wrap32, Int.reduceBEq, Int.reduceBNe, Int.reduceEq, Int.reduceNe, Int.reduceLT, Int.reduceLE, Int.reduceGT, Int.reduceGE, Int.reduceAdd, Int.reduceSub, Int.reduceMul, Int.reduceNeg, reduceCtorEq] at h); (first | omega | (simp (disch := omega) only [lnB, wrap64, wrap32] <;> omega))) | (exact needApp 256 rfl rfl (by simp) (by simp) (by omega)) | (simp <;> omega)); conv => whnf) | ((with_reducible apply GET.at); (rfl); conv => whnf) | ((with_reducible apply GETG.at); (rfl); conv => whnf) | ((with_reducible refine IF.mk (fun h => ?_) (fun h => ?_)) <;> (try simp (disch := omega) only [hsB, hsC, lnB, wrap64, wrap32, Int.reduceBEq, Int.reduceBNe, Int.reduceEq, Int.reduceNe, Int.reduceLT, Int.reduceLE, Int.reduceGT, Int.reduceGE, Int.reduceAdd, Int.reduceSub, Int.reduceMul, Int.reduceNeg, reduceCtorEq] at h) <;> (try (exfalso; omega)) <;> conv => whnf))
    · refine FIN.value h0 rfl ?_
      rw [← hc, idxF_at (by omega) (by simpa using h)]
    · refine ⟨i + (deco s i).2, ⟨by omega, ?_⟩, by omega, ?_⟩
      · rw [← hc, ← idxF_step (by omega) (by simpa using h)]
      · conv => whnf
        (refine GOES.cutting h0 rfl rfl rfl (by first | rfl | simp [belowO, belowH, plainLL_below, plainLL_map, plainL, plain]) ?_ ?_ <;> (repeat' (first | (with_reducible rfl) | (exact congrArg (fun n => SV.sl _ _ _ n _) (by simp)) | (exact congrArg (Hp.rows _) (by simp)) | (exact congrArg (SV.int _) (by first | omega | (simp (disch := omega) only [lnB, wrap64, wrap32] <;> omega) | (simp; done) | (simp <;> omega))) | ((conv => whnf); refine ⟨?_, ?_⟩) | exact trivial | (simp; done) | rfl)))
  · have h : s.length ≤ i := by simpa using h
    conv => whnf
    repeat' (first | ((with_reducible refine IF.tt ?_); conv => whnf) | ((with_reducible refine IF.ff ?_); conv => whnf) | ((with_reducible refine NEED.mk ?_ ?_); (first | with_reducible rfl | omega | (simp (disch := omega) only [lnB, wrap64, wrap32] <;> omega) | (intro h; (try simp (disch := omega) only [hsB, hsC, lnB, wrap64, wrap32, Int.reduceBEq, Int.reduceBNe, Int.reduceEq, Int.reduceNe, Int.reduceLT, Int.reduceLE, Int.reduceGT, Int.reduceGE, Int.reduceAdd, Int.reduceSub, Int.reduceMul, Int.reduceNeg, reduceCtorEq] at h); (first | omega | (simp (disch := omega) only [lnB, wrap64, wrap32] <;> omega))) | (exact needApp 256 rfl rfl (by simp) (by simp) (by omega)) | (simp <;> omega)); conv => whnf) | ((with_reducible apply GET.at); (rfl); conv => whnf) | ((with_reducible apply GETG.at); (rfl); conv => whnf) | ((with_reducible refine IF.mk (fun h => ?_) (fun h => ?_)) <;> (try simp (disch := omega) only [hsB, hsC, lnB, wrap64, wrap32, Int.reduceBEq, Int.reduceBNe, Int.reduceEq, Int.reduceNe, Int.reduceLT, Int.reduceLE, Int.reduceGT, Int.reduceGE, Int.reduceAdd, Int.reduceSub, Int.reduceMul, Int.reduceNeg, reduceCtorEq] at h) <;> (try (exfalso; omega)) <;> conv => whnf))
    refine FIN.value h0 rfl ?_
    rw [← hc, idxF_end h]
theorem indexFunc_does (g : Nat) (p : Int → Bool) (hp : ∀ r : Int, Scalar r → Does Tryz.prog tab g 0 [.int .i32 r] [] [] (Val (.bool (p r)))) (s : List UInt8) (hs : Sm s) : Does Tryz.prog tab 60 0 [.str s, .fn (.func g) [] []] [] [] (Val (.int .i64 (idxF p s 0))) := by
  refine Does.enter tabOK (g := 60) (fn := Tryz.f60) Tryz.call60 Tryz.func60 rfl 8 rfl rfl [.tmp 4] rfl ?_
  intro w0 F η0 h0
  conv => whnf
  repeat' (first | ((with_reducible refine IF.tt ?_); conv => whnf) | ((with_reducible refine IF.ff ?_); conv => whnf) | (refine CALL.value (idxFunc_does g p hp s hs) rfl rfl ?_; conv => whnf) | ((with_reducible refine NEED.mk ?_ ?_); (first | with_reducible rfl | omega | (simp (disch := omega) only [lnB, wrap64, wrap32] <;> omega) | (intro h; (try simp (disch := omega) only [hsB, hsC, lnB, wrap64, wrap32, Int.reduceBEq, Int.reduceBNe, Int.reduceEq, Int.reduceNe, Int.reduceLT, Int.reduceLE, Int.reduceGT, Int.reduceGE, Int.reduceAdd, Int.reduceSub, Int.reduceMul, Int.reduceNeg, reduceCtorEq] at h); (first | omega | (simp (disch := omega) only [lnB, wrap64, wrap32] <;> omega))) | (exact needApp 256 rfl rfl (by simp) (by simp) (by omega)) | (simp <;> omega)); conv => whnf) | ((with_reducible apply GET.at); (rfl); conv => whnf) | ((with_reducible apply GETG.at); (rfl); conv => whnf) | ((with_reducible refine IF.mk (fun h => ?_) (fun h => ?_)) <;> (try simp (disch := omega) only [hsB, hsC, lnB, wrap64, wrap32, Int.reduceBEq, Int.reduceBNe, Int.reduceEq, Int.reduceNe, Int.reduceLT, Int.reduceLE, Int.reduceGT, Int.reduceGE, Int.reduceAdd, Int.reduceSub, Int.reduceMul, Int.reduceNeg, reduceCtorEq] at h) <;> (try (exfalso; omega)) <;> conv => whnf))
  exact FIN.value h0 rfl rfl
end Go.Proofs.YtamnapaephmpmaaGreatDoor
/- iri and its reference: references and schemes, walked. Conditions: none. -/
set_option linter.unusedVariables false
set_option linter.unusedSimpArgs false
set_option maxRecDepth 20000
namespace Go.Proofs.YtamnapaephmpmaaGreatDoor
open Go.Sx Go.Our
theorem ref05Barred_does (c : Int) : Does Tryz.prog tab 45 0 [.int .u8 c] [] [] (Val (.bool (barredM c))) := by
  refine Does.enter tabOK (g := 45) (fn := Tryz.f45) Tryz.call45 Tryz.func45 rfl 16 rfl rfl [.tmp 2] rfl ?_
  intro w0 F η0 h0
  conv => whnf
  repeat' (first | ((with_reducible refine IF.tt ?_); conv => whnf) | ((with_reducible refine IF.ff ?_); conv => whnf) | ((with_reducible refine NEED.mk ?_ ?_); (first | with_reducible rfl | omega | (simp (disch := omega) only [lnB, wrap64, wrap32] <;> omega) | (intro h; (try simp (disch := omega) only [hsB, hsC, lnB, wrap64, wrap32, Int.reduceBEq, Int.reduceBNe, Int.reduceEq, Int.reduceNe, Int.reduceLT, Int.reduceLE, Int.reduceGT, Int.reduceGE, Int.reduceAdd, Int.reduceSub, Int.reduceMul, Int.reduceNeg, reduceCtorEq] at h); (first | omega | (simp (disch := omega) only [lnB, wrap64, wrap32] <;> omega))) | (exact needApp 256 rfl rfl (by simp) (by simp) (by omega)) | (simp <;> omega)); conv => whnf) | ((with_reducible apply GET.at); (rfl); conv => whnf) | ((with_reducible apply GETG.at); (rfl); conv => whnf) | ((with_reducible refine IF.mk (fun h => ?_) (fun h => ?_)) <;> (try simp (disch := omega) only [hsB, hsC, lnB, wrap64, wrap32, Int.reduceBEq, Int.reduceBNe, Int.reduceEq, Int.reduceNe, Int.reduceLT, Int.reduceLE, Int.reduceGT, Int.reduceGE, Int.reduceAdd, Int.reduceSub, Int.reduceMul, Int.reduceNeg, reduceCtorEq] at h) <;> (try (exfalso; omega)) <;> conv => whnf))
  all_goals
    refine FIN.value h0 rfl (congrArg SV.bool ?_)
    rw [Bool.eq_iff_iff, barredM_true]
    unfold Our.Barred
    simp
    try omega
theorem ref05Letter_does (c : Int) : Does Tryz.prog tab 46 0 [.int .u8 c] [] [] (Val (.bool (decide (LetterI c)))) := by
  refine Does.enter tabOK (g := 46) (fn := Tryz.f46) Tryz.call46 Tryz.func46 rfl 17 rfl rfl [.tmp 2] rfl ?_
  intro w0 F η0 h0
  conv => whnf
  repeat' (first | ((with_reducible refine IF.tt ?_); conv => whnf) | ((with_reducible refine IF.ff ?_); conv => whnf) | ((with_reducible refine NEED.mk ?_ ?_); (first | with_reducible rfl | omega | (simp (disch := omega) only [lnB, wrap64, wrap32] <;> omega) | (intro h; (try simp (disch := omega) only [hsB, hsC, lnB, wrap64, wrap32, Int.reduceBEq, Int.reduceBNe, Int.reduceEq, Int.reduceNe, Int.reduceLT, Int.reduceLE, Int.reduceGT, Int.reduceGE, Int.reduceAdd, Int.reduceSub, Int.reduceMul, Int.reduceNeg, reduceCtorEq] at h); (first | omega | (simp (disch := omega) only [lnB, wrap64, wrap32] <;> omega))) | (exact needApp 256 rfl rfl (by simp) (by simp) (by omega)) | (simp <;> omega)); conv => whnf) | ((with_reducible apply GET.at); (rfl); conv => whnf) | ((with_reducible apply GETG.at); (rfl); conv => whnf) | ((with_reducible refine IF.mk (fun h => ?_) (fun h => ?_)) <;> (try simp (disch := omega) only [hsB, hsC, lnB, wrap64, wrap32, Int.reduceBEq, Int.reduceBNe, Int.reduceEq, Int.reduceNe, Int.reduceLT, Int.reduceLE, Int.reduceGT, Int.reduceGE, Int.reduceAdd, Int.reduceSub, Int.reduceMul, Int.reduceNeg, reduceCtorEq] at h) <;> (try (exfalso; omega)) <;> conv => whnf))
  refine FIN.value h0 rfl (congrArg SV.bool ?_)
  rw [Bool.eq_iff_iff]
  simp only [Bool.cond_eq_ite, decide_eq_true_eq, Bool.if_false_right, Bool.if_true_left, Bool.and_eq_true, Bool.or_eq_true]
  rfl
theorem ref05Digit_does (c : Int) : Does Tryz.prog tab 47 0 [.int .u8 c] [] [] (Val (.bool (decide (48 ≤ c ∧ c ≤ 57)))) := by
  refine Does.enter tabOK (g := 47) (fn := Tryz.f47) Tryz.call47 Tryz.func47 rfl 9 rfl rfl [.tmp 2] rfl ?_
  intro w0 F η0 h0
  conv => whnf
  repeat' (first | ((with_reducible refine IF.tt ?_); conv => whnf) | ((with_reducible refine IF.ff ?_); conv => whnf) | ((with_reducible refine NEED.mk ?_ ?_); (first | with_reducible rfl | omega | (simp (disch := omega) only [lnB, wrap64, wrap32] <;> omega) | (intro h; (try simp (disch := omega) only [hsB, hsC, lnB, wrap64, wrap32, Int.reduceBEq, Int.reduceBNe, Int.reduceEq, Int.reduceNe, Int.reduceLT, Int.reduceLE, Int.reduceGT, Int.reduceGE, Int.reduceAdd, Int.reduceSub, Int.reduceMul, Int.reduceNeg, reduceCtorEq] at h); (first | omega | (simp (disch := omega) only [lnB, wrap64, wrap32] <;> omega))) | (exact needApp 256 rfl rfl (by simp) (by simp) (by omega)) | (simp <;> omega)); conv => whnf) | ((with_reducible apply GET.at); (rfl); conv => whnf) | ((with_reducible apply GETG.at); (rfl); conv => whnf) | ((with_reducible refine IF.mk (fun h => ?_) (fun h => ?_)) <;> (try simp (disch := omega) only [hsB, hsC, lnB, wrap64, wrap32, Int.reduceBEq, Int.reduceBNe, Int.reduceEq, Int.reduceNe, Int.reduceLT, Int.reduceLE, Int.reduceGT, Int.reduceGE, Int.reduceAdd, Int.reduceSub, Int.reduceMul, Int.reduceNeg, reduceCtorEq] at h) <;> (try (exfalso; omega)) <;> conv => whnf))
  refine FIN.value h0 rfl (congrArg SV.bool ?_)
  rw [Bool.eq_iff_iff]
  simp only [Bool.cond_eq_ite, decide_eq_true_eq, Bool.if_false_right, Bool.if_true_left, Bool.and_eq_true, Bool.or_eq_true]
theorem ref05Reference_does (s : List UInt8) (hs : Sm s) : Does Tryz.prog tab 30 0 [.str s] [] [] (Val (.int .i64 (refM s))) := by
  refine Does.enter tabOK (g := 30) (fn := Tryz.f30) Tryz.call30 Tryz.func30 rfl 20 rfl rfl [.tmp 2] rfl ?_
  intro w0 F η0 h0
  conv => whnf
  repeat' (first | ((with_reducible refine IF.tt ?_); conv => whnf) | ((with_reducible refine IF.ff ?_); conv => whnf) | (refine CALL.value (ref04Check_does s hs) rfl rfl ?_; conv => whnf) | ((with_reducible refine NEED.mk ?_ ?_); (first | with_reducible rfl | omega | (simp (disch := omega) only [lnB, wrap64, wrap32] <;> omega) | (intro h; (try simp (disch := omega) only [hsB, hsC, lnB, wrap64, wrap32, Int.reduceBEq, Int.reduceBNe, Int.reduceEq, Int.reduceNe, Int.reduceLT, Int.reduceLE, Int.reduceGT, Int.reduceGE, Int.reduceAdd, Int.reduceSub, Int.reduceMul, Int.reduceNeg, reduceCtorEq] at h); (first | omega | (simp (disch := omega) only [lnB, wrap64, wrap32] <;> omega))) | (exact needApp 256 rfl rfl (by simp) (by simp) (by omega)) | (simp <;> omega)); conv => whnf) | ((with_reducible apply GET.at); (rfl); conv => whnf) | ((with_reducible apply GETG.at); (rfl); conv => whnf) | ((with_reducible refine IF.mk (fun h => ?_) (fun h => ?_)) <;> (try simp (disch := omega) only [hsB, hsC, lnB, wrap64, wrap32, Int.reduceBEq, Int.reduceBNe, Int.reduceEq, Int.reduceNe, Int.reduceLT, Int.reduceLE, Int.reduceGT, Int.reduceGE, Int.reduceAdd, Int.reduceSub, Int.reduceMul, Int.reduceNeg, reduceCtorEq] at h) <;> (try (exfalso; omega)) <;> conv => whnf))
  · refine FIN.value h0 rfl ?_
    unfold refM; rw [if_pos (by omega)]
  · refine FIN.value h0 rfl ?_
    unfold refM; rw [if_neg (by omega), if_pos (by omega)]
  refine LOOP.go tabOK [0] (X := Nat) (fun i => i ≤ s.length ∧ anyB barredM s i = anyB barredM s 0) (fun i => [(3, .int .i64 (i : Int))]) (fun i => []) 0 (fun i => s.length - i) 0 ⟨by omega, rfl⟩ ?_
  conv => whnf
  refine ⟨by (refine GOES.cutting h0 rfl rfl rfl (by first | rfl | simp [belowO, belowH, plainLL_below, plainLL_map, plainL, plain]) ?_ ?_ <;> (repeat' (first | (with_reducible rfl) | (exact congrArg (fun n => SV.sl _ _ _ n _) (by simp)) | (exact congrArg (Hp.rows _) (by simp)) | (exact congrArg (SV.int _) (by first | omega | (simp (disch := omega) only [lnB, wrap64, wrap32] <;> omega) | (simp; done) | (simp <;> omega))) | ((conv => whnf); refine ⟨?_, ?_⟩) | exact trivial | (simp; done) | rfl))), ?_⟩
  rintro i ⟨hi, hc⟩
  conv => whnf
  repeat' (first | ((with_reducible refine IF.tt ?_); conv => whnf) | ((with_reducible refine IF.ff ?_); conv => whnf) | (refine CALL.value (ref05Barred_does _) rfl rfl ?_; conv => whnf) | ((with_reducible refine NEED.mk ?_ ?_); (first | with_reducible rfl | omega | (simp (disch := omega) only [lnB, wrap64, wrap32] <;> omega) | (intro h; (try simp (disch := omega) only [hsB, hsC, lnB, wrap64, wrap32, Int.reduceBEq, Int.reduceBNe, Int.reduceEq, Int.reduceNe, Int.reduceLT, Int.reduceLE, Int.reduceGT, Int.reduceGE, Int.reduceAdd, Int.reduceSub, Int.reduceMul, Int.reduceNeg, reduceCtorEq] at h); (first | omega | (simp (disch := omega) only [lnB, wrap64, wrap32] <;> omega))) | (exact needApp 256 rfl rfl (by simp) (by simp) (by omega)) | (simp <;> omega)); conv => whnf) | ((with_reducible apply GET.at); (rfl); conv => whnf) | ((with_reducible apply GETG.at); (rfl); conv => whnf) | ((with_reducible refine IF.mk (fun h => ?_) (fun h => ?_)) <;> (try simp (disch := omega) only [hsB, hsC, lnB, wrap64, wrap32, Int.reduceBEq, Int.reduceBNe, Int.reduceEq, Int.reduceNe, Int.reduceLT, Int.reduceLE, Int.reduceGT, Int.reduceGE, Int.reduceAdd, Int.reduceSub, Int.reduceMul, Int.reduceNeg, reduceCtorEq] at h) <;> (try (exfalso; omega)) <;> conv => whnf))
  · refine FIN.value h0 rfl ?_
    unfold refM; rw [if_neg (by omega), if_neg (by omega), ← hc, anyB_at (by omega), h]; rfl
  · refine ⟨i + 1, ⟨by omega, ?_⟩, by omega, ?_⟩
    · rw [← hc, anyB_at (i := i) (by omega), h, Bool.false_or]
    · conv => whnf
      (refine GOES.cutting h0 rfl rfl rfl (by first | rfl | simp [belowO, belowH, plainLL_below, plainLL_map, plainL, plain]) ?_ ?_ <;> (repeat' (first | (with_reducible rfl) | (exact congrArg (fun n => SV.sl _ _ _ n _) (by simp)) | (exact congrArg (Hp.rows _) (by simp)) | (exact congrArg (SV.int _) (by first | omega | (simp (disch := omega) only [lnB, wrap64, wrap32] <;> omega) | (simp; done) | (simp <;> omega))) | ((conv => whnf); refine ⟨?_, ?_⟩) | exact trivial | (simp; done) | rfl)))
  · refine FIN.value h0 rfl ?_
    unfold refM; rw [if_neg (by omega), if_neg (by omega), ← hc, anyB_end (by omega)]; rfl
theorem ref05Scheme_does (s : List UInt8) (hs : Sm s) : Does Tryz.prog tab 31 0 [.str s] [] [] (Val (.int .i64 (schM s 0))) := by
  refine Does.enter tabOK (g := 31) (fn := Tryz.f31) Tryz.call31 Tryz.func31 rfl 41 rfl rfl [.tmp 2] rfl ?_
  intro w0 F η0 h0
  conv => whnf
  refine LOOP.go tabOK [0] (X := Nat) (fun i => i ≤ s.length ∧ schM s i = schM s 0) (fun i => [(3, .int .i64 (i : Int))]) (fun i => []) 0 (fun i => s.length - i) 0 ⟨by omega, rfl⟩ ?_
  conv => whnf
  refine ⟨by (refine GOES.cutting h0 rfl rfl rfl (by first | rfl | simp [belowO, belowH, plainLL_below, plainLL_map, plainL, plain]) ?_ ?_ <;> (repeat' (first | (with_reducible rfl) | (exact congrArg (fun n => SV.sl _ _ _ n _) (by simp)) | (exact congrArg (Hp.rows _) (by simp)) | (exact congrArg (SV.int _) (by first | omega | (simp (disch := omega) only [lnB, wrap64, wrap32] <;> omega) | (simp; done) | (simp <;> omega))) | ((conv => whnf); refine ⟨?_, ?_⟩) | exact trivial | (simp; done) | rfl))), ?_⟩
  rintro i ⟨hi, hc⟩
  conv => whnf
  repeat' (first | ((with_reducible refine IF.tt ?_); conv => whnf) | ((with_reducible refine IF.ff ?_); conv => whnf) | (refine CALL.value (ref05Letter_does _) rfl rfl ?_; conv => whnf) | (refine CALL.value (ref05Digit_does _) rfl rfl ?_; conv => whnf) | ((with_reducible refine NEED.mk ?_ ?_); (first | with_reducible rfl | omega | (simp (disch := omega) only [lnB, wrap64, wrap32] <;> omega) | (intro h; (try simp (disch := omega) only [hsB, hsC, lnB, wrap64, wrap32, Int.reduceBEq, Int.reduceBNe, Int.reduceEq, Int.reduceNe, Int.reduceLT, Int.reduceLE, Int.reduceGT, Int.reduceGE, Int.reduceAdd, Int.reduceSub, Int.reduceMul, Int.reduceNeg, reduceCtorEq] at h); (first | omega | (simp (disch := omega) only [lnB, wrap64, wrap32] <;> omega))) | (exact needApp 256 rfl rfl (by simp) (by simp) (by omega)) | (simp <;> omega)); conv => whnf) | ((with_reducible apply GET.at); (rfl); conv => whnf) | ((with_reducible apply GETG.at); (rfl); conv => whnf) | ((with_reducible refine IF.mk (fun h => ?_) (fun h => ?_)) <;> (try simp (disch := omega) only [hsB, hsC, lnB, wrap64, wrap32, Int.reduceBEq, Int.reduceBNe, Int.reduceEq, Int.reduceNe, Int.reduceLT, Int.reduceLE, Int.reduceGT, Int.reduceGE, Int.reduceAdd, Int.reduceSub, Int.reduceMul, Int.reduceNeg, reduceCtorEq] at h) <;> (try (exfalso; omega)) <;> conv => whnf))
  all_goals first
    | (refine FIN.value h0 rfl ?_; rw [← hc]; first | rw [schM_colon (by omega) (by assumption)] | (rw [schM_stop (by omega) (by assumption) (by unfold SchI; rintro (h | h) <;> first | contradiction | omega)]) | rw [schM_end (by omega)])
    | (refine ⟨i + 1, ⟨by omega, ?_⟩, by omega, ?_⟩
       · rw [← hc, ← schM_step (by omega) (by assumption) (by first | (left; assumption) | (right; unfold SchI; omega))]
       · conv => whnf
         (refine GOES.cutting h0 rfl rfl rfl (by first | rfl | simp [belowO, belowH, plainLL_below, plainLL_map, plainL, plain]) ?_ ?_ <;> (repeat' (first | (with_reducible rfl) | (exact congrArg (fun n => SV.sl _ _ _ n _) (by simp)) | (exact congrArg (Hp.rows _) (by simp)) | (exact congrArg (SV.int _) (by first | omega | (simp (disch := omega) only [lnB, wrap64, wrap32] <;> omega) | (simp; done) | (simp <;> omega))) | ((conv => whnf); refine ⟨?_, ?_⟩) | exact trivial | (simp; done) | rfl))))
end Go.Proofs.YtamnapaephmpmaaGreatDoor
/- iri: references and schemes, walked. Conditions: none. -/
set_option linter.unusedVariables false
set_option linter.unusedSimpArgs false
set_option maxRecDepth 20000
namespace Go.Proofs.YtamnapaephmpmaaGreatDoor
open Go.Sx Go.Our
theorem ref05Check_does (s : List UInt8) (hs : Sm s) : Does Tryz.prog tab 24 0 [.str s] [] [] (Val (.int .i64 (iriM s))) := by
  refine Does.enter tabOK (g := 24) (fn := Tryz.f24) Tryz.call24 Tryz.func24 rfl 14 rfl rfl [.tmp 2] rfl ?_
  intro w0 F η0 h0
  conv => whnf
  repeat' (first | ((with_reducible refine IF.tt ?_); conv => whnf) | ((with_reducible refine IF.ff ?_); conv => whnf) | (refine CALL.value (ref05Reference_does s hs) rfl rfl ?_; conv => whnf) | (refine CALL.value (ref05Scheme_does s hs) rfl rfl ?_; conv => whnf) | ((with_reducible refine NEED.mk ?_ ?_); (first | with_reducible rfl | omega | (simp (disch := omega) only [lnB, wrap64, wrap32] <;> omega) | (intro h; (try simp (disch := omega) only [hsB, hsC, lnB, wrap64, wrap32, Int.reduceBEq, Int.reduceBNe, Int.reduceEq, Int.reduceNe, Int.reduceLT, Int.reduceLE, Int.reduceGT, Int.reduceGE, Int.reduceAdd, Int.reduceSub, Int.reduceMul, Int.reduceNeg, reduceCtorEq] at h); (first | omega | (simp (disch := omega) only [lnB, wrap64, wrap32] <;> omega))) | (exact needApp 256 rfl rfl (by simp) (by simp) (by omega)) | (simp <;> omega)); conv => whnf) | ((with_reducible apply GET.at); (rfl); conv => whnf) | ((with_reducible apply GETG.at); (rfl); conv => whnf) | ((with_reducible refine IF.mk (fun h => ?_) (fun h => ?_)) <;> (try simp (disch := omega) only [hsB, hsC, lnB, wrap64, wrap32, Int.reduceBEq, Int.reduceBNe, Int.reduceEq, Int.reduceNe, Int.reduceLT, Int.reduceLE, Int.reduceGT, Int.reduceGE, Int.reduceAdd, Int.reduceSub, Int.reduceMul, Int.reduceNeg, reduceCtorEq] at h) <;> (try (exfalso; omega)) <;> conv => whnf))
  all_goals
    refine FIN.value h0 rfl (congrArg (SV.int _) ?_)
    unfold iriM
    simp_all
/-- Whether a scalar is among those that are barred but for blanks. -/
def barIdx (r : Int) : Int := if 0 ≤ r ∧ r < 128 then Lib.indexByte bars (IntKind.u8.wrap r).toNat.toUInt8 else -1
theorem indexRune_does (r : Int) (hr : Scalar r) : Does Tryz.prog tab 97 0 [.str bars, .int .i32 r] [] [] (Val (.int .i64 (barIdx r))) := by
  have hlen : bars.length = 9 := rfl
  refine Does.enter tabOK (g := 97) (fn := Tryz.f97) Tryz.call97 Tryz.func97 rfl 187 rfl rfl [.tmp 4] rfl ?_
  intro w0 F η0 h0
  conv => whnf
  repeat' (first | ((with_reducible refine IF.tt ?_); conv => whnf) | ((with_reducible refine IF.ff ?_); conv => whnf) | (refine CALL.value (indexByte_does _ _) rfl rfl ?_; conv => whnf) | (refine CALL.value (validRune_does _) rfl rfl ?_; conv => whnf) | ((with_reducible refine NEED.mk ?_ ?_); (first | with_reducible rfl | omega | (simp (disch := omega) only [lnB, wrap64, wrap32] <;> omega) | (intro h; (try simp (disch := omega) only [hsB, hsC, lnB, wrap64, wrap32, Int.reduceBEq, Int.reduceBNe, Int.reduceEq, Int.reduceNe, Int.reduceLT, Int.reduceLE, Int.reduceGT, Int.reduceGE, Int.reduceAdd, Int.reduceSub, Int.reduceMul, Int.reduceNeg, reduceCtorEq] at h); (first | omega | (simp (disch := omega) only [lnB, wrap64, wrap32] <;> omega))) | (exact needApp 256 rfl rfl (by simp) (by simp) (by omega)) | (simp <;> omega)); conv => whnf) | ((with_reducible apply GET.at); (rfl); conv => whnf) | ((with_reducible apply GETG.at); (rfl); conv => whnf) | ((with_reducible refine IF.mk (fun h => ?_) (fun h => ?_)) <;> (try simp (disch := omega) only [hsB, hsC, lnB, wrap64, wrap32, Int.reduceBEq, Int.reduceBNe, Int.reduceEq, Int.reduceNe, Int.reduceLT, Int.reduceLE, Int.reduceGT, Int.reduceGE, Int.reduceAdd, Int.reduceSub, Int.reduceMul, Int.reduceNeg, reduceCtorEq] at h) <;> (try (exfalso; omega)) <;> conv => whnf))
  · refine FIN.value h0 rfl ?_
    unfold barIdx; rw [if_pos h]
  · subst h
    refine LOOP.go tabOK [175] (X := Nat) (fun i => i ≤ 9) (fun i => []) (fun i => [(0, .siter bars i)]) 1 (fun i => 9 - i) 0 (by omega) ?_
    conv => whnf
    refine ⟨by (refine GOES.cutting h0 rfl rfl rfl (by first | rfl | simp [belowO, belowH, plainLL_below, plainLL_map, plainL, plain]) ?_ ?_ <;> (repeat' (first | (with_reducible rfl) | (exact congrArg (fun n => SV.sl _ _ _ n _) (by simp)) | (exact congrArg (Hp.rows _) (by simp)) | (exact congrArg (SV.int _) (by first | omega | (simp (disch := omega) only [lnB, wrap64, wrap32] <;> omega) | (simp; done) | (simp <;> omega))) | ((conv => whnf); refine ⟨?_, ?_⟩) | exact trivial | (simp; done) | rfl))), ?_⟩
    intro i hi
    conv => whnf
    refine ⟨fun h => ?_, fun h => ?_⟩
    · have h : i < bars.length := by simpa using h
      have hd := deco_ascii (bars_low i)
      have hb := byteAt_lt bars i
      conv => whnf
      refine IF.tt ?_
      conv => whnf
      refine IF.no (by rw [show Utf8.decode ⟨bars.toArray⟩ i = _ from hd]; have := bars_low i; simp; omega) ?_
      conv => whnf
      refine ⟨i + (deco bars i).2, by rw [hd]; show i + 1 ≤ 9; omega, by rw [hd]; show 9 - (i + 1) < 9 - i; omega, ?_⟩
      conv => whnf
      (refine GOES.cutting h0 rfl rfl rfl (by first | rfl | simp [belowO, belowH, plainLL_below, plainLL_map, plainL, plain]) ?_ ?_ <;> (repeat' (first | (with_reducible rfl) | (exact congrArg (fun n => SV.sl _ _ _ n _) (by simp)) | (exact congrArg (Hp.rows _) (by simp)) | (exact congrArg (SV.int _) (by first | omega | (simp (disch := omega) only [lnB, wrap64, wrap32] <;> omega) | (simp; done) | (simp <;> omega))) | ((conv => whnf); refine ⟨?_, ?_⟩) | exact trivial | (simp; done) | rfl)))
    · conv => whnf
      refine IF.ff ?_
      conv => whnf
      refine FIN.value h0 rfl ?_
      unfold barIdx; rw [if_neg (by omega)]
  · rw [scalarM_false] at h
    exact (h hr).elim
  · have hl := encM_len (r := r) (by unfold Scalar at hr; omega)
    have hh := encM_high hr (by unfold Scalar at hr; omega)
    have he := encode_eq hr
    rw [he]
    have hm := byteAt_mem (s := encM r) (i := ((encM r).length : Int) - 1) (by omega)
    have hm2 : 128 ≤ byteAt (encM r) (((encM r).length : Int) - 1) := by
      obtain ⟨c, hc, e⟩ := hm
      rw [e]; exact hh c hc
    have hm3 := byteAt_lt (encM r) (((encM r).length : Int) - 1)
    have hm4 := bars_low (((encM r).length : Int) - 1)
    refine LOOP.once tabOK ?_
    conv => whnf
    repeat' (first | ((with_reducible refine IF.tt ?_); conv => whnf) | ((with_reducible refine IF.ff ?_); conv => whnf) | (refine DRAWN.of (id := 6) tabOK mixed (planOf [(0, 1), (1, 1), (2, 1), (3, 1), (4, 1), (5, 1), (6, 1)]) (by kernel_rfl) ?_; conv => whnf) | (refine DRAWN.of (id := 7) tabOK mixed (planOf [(0, 1), (1, 1), (2, 1), (3, 1), (4, 1), (5, 1), (6, 1), (7, 3), (8, 1)]) (by kernel_rfl) ?_; conv => whnf) | (refine DRAWN.of (id := 14) tabOK mixed (planOf [(0, 1), (1, 1), (2, 1), (3, 1), (4, 1), (5, 1), (6, 1), (7, 1), (8, 1), (9, 1), (10, 1)]) (by kernel_rfl) ?_; conv => whnf) | (refine DRAWN.of (id := 31) tabOK mixed (planOf [(0, 1), (1, 1), (2, 1), (3, 1), (4, 1), (5, 1), (6, 1), (7, 1), (8, 1), (9, 1), (10, 1)]) (by kernel_rfl) ?_; conv => whnf) | ((with_reducible refine ADD.mk (fun _ _ => ?_)); conv => whnf) | ((with_reducible refine NEED.mk (Det.of rfl) ?_); conv => whnf) | ((with_reducible refine FORK.mk ?_ ?_) <;> conv => whnf) | (refine CALL.value (indexByte_does _ _) rfl rfl ?_; conv => whnf) | ((with_reducible refine NEED.mk ?_ ?_); (first | with_reducible rfl | omega | (simp (disch := omega) only [lnB, wrap64, wrap32] <;> omega) | (intro h; (try simp (disch := omega) only [hsB, hsC, lnB, wrap64, wrap32, Int.reduceBEq, Int.reduceBNe, Int.reduceEq, Int.reduceNe, Int.reduceLT, Int.reduceLE, Int.reduceGT, Int.reduceGE, Int.reduceAdd, Int.reduceSub, Int.reduceMul, Int.reduceNeg, reduceCtorEq] at h); (first | omega | (simp (disch := omega) only [lnB, wrap64, wrap32] <;> omega))) | (exact needApp 256 rfl rfl (by simp) (by simp) (by omega)) | (simp <;> omega)); conv => whnf) | ((with_reducible apply GET.at); (rfl); conv => whnf) | ((with_reducible apply GETG.at); (rfl); conv => whnf) | ((with_reducible refine IF.mk (fun h => ?_) (fun h => ?_)) <;> (try simp (disch := omega) only [hsB, hsC, lnB, wrap64, wrap32, Int.reduceBEq, Int.reduceBNe, Int.reduceEq, Int.reduceNe, Int.reduceLT, Int.reduceLE, Int.reduceGT, Int.reduceGE, Int.reduceAdd, Int.reduceSub, Int.reduceMul, Int.reduceNeg, reduceCtorEq] at h) <;> (try (exfalso; omega)) <;> conv => whnf))
    · refine FIN.value h0 rfl ?_
      unfold barIdx; rw [if_neg (by unfold Scalar at hr; omega)]
    · have := idx_high (l := List.drop (((encM r).length : Int) - 1 + 1).toNat bars) (c := byteAt (encM r) (((encM r).length : Int) - 1)) (by omega) (fun b hb => bars_mem b (List.mem_of_mem_drop hb))
      rw [this] at h
      omega
theorem containsRune_does (r : Int) (hr : Scalar r) : Does Tryz.prog tab 78 0 [.str bars, .int .i32 r] [] [] (Val (.bool (decide (0 ≤ barIdx r)))) := by
  refine Does.enter tabOK (g := 78) (fn := Tryz.f78) Tryz.call78 Tryz.func78 rfl 9 rfl rfl [.tmp 4] rfl ?_
  intro w0 F η0 h0
  conv => whnf
  repeat' (first | ((with_reducible refine IF.tt ?_); conv => whnf) | ((with_reducible refine IF.ff ?_); conv => whnf) | (refine CALL.value (indexRune_does r hr) rfl rfl ?_; conv => whnf) | ((with_reducible refine NEED.mk ?_ ?_); (first | with_reducible rfl | omega | (simp (disch := omega) only [lnB, wrap64, wrap32] <;> omega) | (intro h; (try simp (disch := omega) only [hsB, hsC, lnB, wrap64, wrap32, Int.reduceBEq, Int.reduceBNe, Int.reduceEq, Int.reduceNe, Int.reduceLT, Int.reduceLE, Int.reduceGT, Int.reduceGE, Int.reduceAdd, Int.reduceSub, Int.reduceMul, Int.reduceNeg, reduceCtorEq] at h); (first | omega | (simp (disch := omega) only [lnB, wrap64, wrap32] <;> omega))) | (exact needApp 256 rfl rfl (by simp) (by simp) (by omega)) | (simp <;> omega)); conv => whnf) | ((with_reducible apply GET.at); (rfl); conv => whnf) | ((with_reducible apply GETG.at); (rfl); conv => whnf) | ((with_reducible refine IF.mk (fun h => ?_) (fun h => ?_)) <;> (try simp (disch := omega) only [hsB, hsC, lnB, wrap64, wrap32, Int.reduceBEq, Int.reduceBNe, Int.reduceEq, Int.reduceNe, Int.reduceLT, Int.reduceLE, Int.reduceGT, Int.reduceGE, Int.reduceAdd, Int.reduceSub, Int.reduceMul, Int.reduceNeg, reduceCtorEq] at h) <;> (try (exfalso; omega)) <;> conv => whnf))
  exact FIN.value h0 rfl rfl
theorem bar_iff {r : Int} (hr : Scalar r) : (r ≤ 32 ∨ 0 ≤ barIdx r) ↔ Our.Barred r := by
  unfold Scalar at hr
  unfold barIdx
  by_cases h : 0 ≤ r ∧ r < 128
  · rw [if_pos h]
    have : ∀ n : Nat, n < 128 → (((n : Int) ≤ 32 ∨ 0 ≤ Lib.indexByte bars (IntKind.u8.wrap (n : Int)).toNat.toUInt8) ↔ Our.Barred (n : Int)) := by decide +kernel
    have := this r.toNat (by omega)
    rwa [show ((r.toNat : Nat) : Int) = r by omega] at this
  · rw [if_neg h]
    unfold Our.Barred
    omega
theorem barred_does (r : Int) (hr : Scalar r) : Does Tryz.prog tab 61 0 [.int .i32 r] [] [] (Val (.bool (barredM r))) := by
  refine Does.enter tabOK (g := 61) (fn := Tryz.f61) Tryz.call61 Tryz.func61 rfl 9 rfl rfl [.tmp 2] rfl ?_
  intro w0 F η0 h0
  conv => whnf
  repeat' (first | ((with_reducible refine IF.tt ?_); conv => whnf) | ((with_reducible refine IF.ff ?_); conv => whnf) | (refine CALL.value (containsRune_does r hr) rfl rfl ?_; conv => whnf) | ((with_reducible refine NEED.mk ?_ ?_); (first | with_reducible rfl | omega | (simp (disch := omega) only [lnB, wrap64, wrap32] <;> omega) | (intro h; (try simp (disch := omega) only [hsB, hsC, lnB, wrap64, wrap32, Int.reduceBEq, Int.reduceBNe, Int.reduceEq, Int.reduceNe, Int.reduceLT, Int.reduceLE, Int.reduceGT, Int.reduceGE, Int.reduceAdd, Int.reduceSub, Int.reduceMul, Int.reduceNeg, reduceCtorEq] at h); (first | omega | (simp (disch := omega) only [lnB, wrap64, wrap32] <;> omega))) | (exact needApp 256 rfl rfl (by simp) (by simp) (by omega)) | (simp <;> omega)); conv => whnf) | ((with_reducible apply GET.at); (rfl); conv => whnf) | ((with_reducible apply GETG.at); (rfl); conv => whnf) | ((with_reducible refine IF.mk (fun h => ?_) (fun h => ?_)) <;> (try simp (disch := omega) only [hsB, hsC, lnB, wrap64, wrap32, Int.reduceBEq, Int.reduceBNe, Int.reduceEq, Int.reduceNe, Int.reduceLT, Int.reduceLE, Int.reduceGT, Int.reduceGE, Int.reduceAdd, Int.reduceSub, Int.reduceMul, Int.reduceNeg, reduceCtorEq] at h) <;> (try (exfalso; omega)) <;> conv => whnf))
  all_goals
    refine FIN.value h0 rfl (congrArg SV.bool ?_)
    rw [Bool.eq_iff_iff, barredM_true, ← bar_iff hr]
    simp
    try omega
theorem reference_does (s : List UInt8) (hs : Sm s) : Does Tryz.prog tab 38 0 [.str s] [] [] (Val (.int .i64 (refM s))) := by
  have hp : ∀ c : Int, 128 ≤ c → barredM c = false := fun c hc => by rw [barredM_false]; unfold Our.Barred; omega
  refine Does.enter tabOK (g := 38) (fn := Tryz.f38) Tryz.call38 Tryz.func38 rfl 15 rfl rfl [.tmp 2] rfl ?_
  intro w0 F η0 h0
  conv => whnf
  repeat' (first | ((with_reducible refine IF.tt ?_); conv => whnf) | ((with_reducible refine IF.ff ?_); conv => whnf) | (refine CALL.value (check_does s hs) rfl rfl ?_; conv => whnf) | (refine CALL.value (indexFunc_does _ barredM (fun r hr => barred_does r hr) s hs) rfl rfl ?_; conv => whnf) | ((with_reducible refine NEED.mk ?_ ?_); (first | with_reducible rfl | omega | (simp (disch := omega) only [lnB, wrap64, wrap32] <;> omega) | (intro h; (try simp (disch := omega) only [hsB, hsC, lnB, wrap64, wrap32, Int.reduceBEq, Int.reduceBNe, Int.reduceEq, Int.reduceNe, Int.reduceLT, Int.reduceLE, Int.reduceGT, Int.reduceGE, Int.reduceAdd, Int.reduceSub, Int.reduceMul, Int.reduceNeg, reduceCtorEq] at h); (first | omega | (simp (disch := omega) only [lnB, wrap64, wrap32] <;> omega))) | (exact needApp 256 rfl rfl (by simp) (by simp) (by omega)) | (simp <;> omega)); conv => whnf) | ((with_reducible apply GET.at); (rfl); conv => whnf) | ((with_reducible apply GETG.at); (rfl); conv => whnf) | ((with_reducible refine IF.mk (fun h => ?_) (fun h => ?_)) <;> (try simp (disch := omega) only [hsB, hsC, lnB, wrap64, wrap32, Int.reduceBEq, Int.reduceBNe, Int.reduceEq, Int.reduceNe, Int.reduceLT, Int.reduceLE, Int.reduceGT, Int.reduceGE, Int.reduceAdd, Int.reduceSub, Int.reduceMul, Int.reduceNeg, reduceCtorEq] at h) <;> (try (exfalso; omega)) <;> conv => whnf))
  all_goals
    refine FIN.value h0 rfl (congrArg (SV.int _) ?_)
    unfold refM
  · rw [if_pos (by omega)]
  · rw [if_neg (by omega), if_pos (by omega)]
  all_goals
    rename_i h1 h2
    have hc : chk s 0 = -1 := by
      have := chk_ge s 0
      omega
    have := barred_runes barredM hp s 0 hc
    rw [if_neg (by omega), if_neg (by omega)]
  · rw [if_pos (this.1 h)]
  · rw [if_neg (fun h' => by have := this.2 h'; omega)]
theorem scheme_does (s : List UInt8) (hs : Sm s) : Does Tryz.prog tab 39 0 [.str s] [] [] (Val (.str (s.take (schM s 0).toNat))) := by
  refine Does.enter tabOK (g := 39) (fn := Tryz.f39) Tryz.call39 Tryz.func39 rfl 61 rfl rfl [.tmp 2] rfl ?_
  intro w0 F η0 h0
  conv => whnf
  refine LOOP.go tabOK [0, 7] (X := Nat) (fun i => i ≤ s.length ∧ schM s i = schM s 0) (fun i => []) (fun i => [(0, .siter s i)]) 1 (fun i => s.length - i) 0 ⟨by omega, rfl⟩ ?_
  conv => whnf
  refine ⟨by (refine GOES.cutting h0 rfl rfl rfl (by first | rfl | simp [belowO, belowH, plainLL_below, plainLL_map, plainL, plain]) ?_ ?_ <;> (repeat' (first | (with_reducible rfl) | (exact congrArg (fun n => SV.sl _ _ _ n _) (by simp)) | (exact congrArg (Hp.rows _) (by simp)) | (exact congrArg (SV.int _) (by first | omega | (simp (disch := omega) only [lnB, wrap64, wrap32] <;> omega) | (simp; done) | (simp <;> omega))) | ((conv => whnf); refine ⟨?_, ?_⟩) | exact trivial | (simp; done) | rfl))), ?_⟩
  rintro i ⟨hi, hc⟩
  conv => whnf
  refine ⟨fun h => ?_, fun h => ?_⟩
  · have h : i < s.length := by simpa using h
    have hf := deco_fits s i h
    have hp := deco_pos s i
    have hb := byteAt_lt s i
    have hd : ((deco s i).1 : Int) = byteAt s i ∧ (deco s i).2 = 1 ∨ 128 ≤ byteAt s i ∧ 128 ≤ (deco s i).1 := by
      by_cases ha : byteAt s i < 128
      · left; rw [deco_ascii ha]; simp; omega
      · right; exact ⟨by omega, deco_high (by omega)⟩
    unfold deco at *
    generalize Utf8.decode ⟨s.toArray⟩ i = d at *
    obtain ⟨r, n⟩ := d
    simp only at hf hp hd
    conv => whnf
    repeat' (first | ((with_reducible refine IF.tt ?_); conv => whnf) | ((with_reducible refine IF.ff ?_); conv => whnf) | ((with_reducible refine NEED.mk ?_ ?_); (first | with_reducible rfl | omega | (simp (disch := omega) only [lnB, wrap64, wrap32] <;> omega) | (intro h; (try simp (disch := omega) only [hsB, hsC, lnB, wrap64, wrap32, Int.reduceBEq, Int.reduceBNe, Int.reduceEq, Int.reduceNe, Int.reduceLT, Int.reduceLE, Int.reduceGT, Int.reduceGE, Int.reduceAdd, Int.reduceSub, Int.reduceMul, Int.reduceNeg, reduceCtorEq] at h); (first | omega | (simp (disch := omega) only [lnB, wrap64, wrap32] <;> omega))) | (exact needApp 256 rfl rfl (by simp) (by simp) (by omega)) | (simp <;> omega)); conv => whnf) | ((with_reducible apply GET.at); (rfl); conv => whnf) | ((with_reducible apply GETG.at); (rfl); conv => whnf) | ((with_reducible refine IF.mk (fun h => ?_) (fun h => ?_)) <;> (try simp (disch := omega) only [hsB, hsC, lnB, wrap64, wrap32, Int.reduceBEq, Int.reduceBNe, Int.reduceEq, Int.reduceNe, Int.reduceLT, Int.reduceLE, Int.reduceGT, Int.reduceGE, Int.reduceAdd, Int.reduceSub, Int.reduceMul, Int.reduceNeg, reduceCtorEq] at h) <;> (try (exfalso; omega)) <;> conv => whnf))
    all_goals first
      | (have hn : n = 1 := by omega
         subst hn
         refine ⟨i + 1, ⟨hf, ?_⟩, by omega, ?_⟩
         · rw [← hc, ← schM_step (by omega) (by omega) (by unfold LetterI SchI; omega)]
         · conv => whnf
           (refine GOES.cutting h0 rfl rfl rfl (by first | rfl | simp [belowO, belowH, plainLL_below, plainLL_map, plainL, plain]) ?_ ?_ <;> (repeat' (first | (with_reducible rfl) | (exact congrArg (fun n => SV.sl _ _ _ n _) (by simp)) | (exact congrArg (Hp.rows _) (by simp)) | (exact congrArg (SV.int _) (by first | omega | (simp (disch := omega) only [lnB, wrap64, wrap32] <;> omega) | (simp; done) | (simp <;> omega))) | ((conv => whnf); refine ⟨?_, ?_⟩) | exact trivial | (simp; done) | rfl))))
      | (refine FIN.value h0 rfl (congrArg SV.str ?_); rw [← hc, schM_colon (by omega) (by omega)])
      | (refine FIN.value h0 rfl (congrArg SV.str ?_); rw [← hc]
         by_cases h58 : byteAt s i = 58
         · rw [schM_colon (by omega) h58]; rw [show (i : Int) = 0 by omega]; rfl
         · rw [schM_stop (by omega) h58 (by unfold LetterI SchI; omega)]; rfl)
  · have h : s.length ≤ i := by simpa using h
    conv => whnf
    repeat' (first | ((with_reducible refine IF.tt ?_); conv => whnf) | ((with_reducible refine IF.ff ?_); conv => whnf) | ((with_reducible refine NEED.mk ?_ ?_); (first | with_reducible rfl | omega | (simp (disch := omega) only [lnB, wrap64, wrap32] <;> omega) | (intro h; (try simp (disch := omega) only [hsB, hsC, lnB, wrap64, wrap32, Int.reduceBEq, Int.reduceBNe, Int.reduceEq, Int.reduceNe, Int.reduceLT, Int.reduceLE, Int.reduceGT, Int.reduceGE, Int.reduceAdd, Int.reduceSub, Int.reduceMul, Int.reduceNeg, reduceCtorEq] at h); (first | omega | (simp (disch := omega) only [lnB, wrap64, wrap32] <;> omega))) | (exact needApp 256 rfl rfl (by simp) (by simp) (by omega)) | (simp <;> omega)); conv => whnf) | ((with_reducible apply GET.at); (rfl); conv => whnf) | ((with_reducible apply GETG.at); (rfl); conv => whnf) | ((with_reducible refine IF.mk (fun h => ?_) (fun h => ?_)) <;> (try simp (disch := omega) only [hsB, hsC, lnB, wrap64, wrap32, Int.reduceBEq, Int.reduceBNe, Int.reduceEq, Int.reduceNe, Int.reduceLT, Int.reduceLE, Int.reduceGT, Int.reduceGE, Int.reduceAdd, Int.reduceSub, Int.reduceMul, Int.reduceNeg, reduceCtorEq] at h) <;> (try (exfalso; omega)) <;> conv => whnf))
    refine FIN.value h0 rfl ?_
    rw [← hc, schM_end h]; rfl
theorem iriCheck_does (s : List UInt8) (hs : Sm s) : Does Tryz.prog tab 27 0 [.str s] [] [] (Val (.int .i64 (iriM s))) := by
  have hr := schM_rng s 0
  refine Does.enter tabOK (g := 27) (fn := Tryz.f27) Tryz.call27 Tryz.func27 rfl 12 rfl rfl [.tmp 2] rfl ?_
  intro w0 F η0 h0
  conv => whnf
  repeat' (first | ((with_reducible refine IF.tt ?_); conv => whnf) | ((with_reducible refine IF.ff ?_); conv => whnf) | (refine CALL.value (reference_does s hs) rfl rfl ?_; conv => whnf) | (refine CALL.value (scheme_does s hs) rfl rfl ?_; conv => whnf) | ((with_reducible refine NEED.mk ?_ ?_); (first | with_reducible rfl | omega | (simp (disch := omega) only [lnB, wrap64, wrap32] <;> omega) | (intro h; (try simp (disch := omega) only [hsB, hsC, lnB, wrap64, wrap32, Int.reduceBEq, Int.reduceBNe, Int.reduceEq, Int.reduceNe, Int.reduceLT, Int.reduceLE, Int.reduceGT, Int.reduceGE, Int.reduceAdd, Int.reduceSub, Int.reduceMul, Int.reduceNeg, reduceCtorEq] at h); (first | omega | (simp (disch := omega) only [lnB, wrap64, wrap32] <;> omega))) | (exact needApp 256 rfl rfl (by simp) (by simp) (by omega)) | (simp <;> omega)); conv => whnf) | ((with_reducible apply GET.at); (rfl); conv => whnf) | ((with_reducible apply GETG.at); (rfl); conv => whnf) | ((with_reducible refine IF.mk (fun h => ?_) (fun h => ?_)) <;> (try simp (disch := omega) only [hsB, hsC, lnB, wrap64, wrap32, Int.reduceBEq, Int.reduceBNe, Int.reduceEq, Int.reduceNe, Int.reduceLT, Int.reduceLE, Int.reduceGT, Int.reduceGE, Int.reduceAdd, Int.reduceSub, Int.reduceMul, Int.reduceNeg, reduceCtorEq] at h) <;> (try (exfalso; omega)) <;> conv => whnf))
  · refine FIN.value h0 rfl (congrArg (SV.int _) ?_)
    unfold iriM; rw [if_pos h]
  · rename_i h1
    refine FIN.value h0 rfl (congrArg (SV.int _) ?_)
    unfold iriM; rw [if_neg (by omega), if_pos]
    have hz : (s.take (schM s 0).toNat).length = 0 := by
      have : s.take (schM s 0).toNat = [] := h
      rw [this]; rfl
    rw [List.length_take] at hz
    by_cases hl : s.length = 0
    · rw [schM_end (by omega)]
    · omega
  · rename_i h1
    refine FIN.value h0 rfl (congrArg (SV.int _) ?_)
    unfold iriM; rw [if_neg (by omega), if_neg]
    intro h2
    apply h
    rw [h2]; rfl
end Go.Proofs.YtamnapaephmpmaaGreatDoor
/- names: labels, walked. Conditions: none. -/
set_option linter.unusedVariables false
set_option linter.unusedSimpArgs false
set_option maxRecDepth 20000
namespace Go.Proofs.YtamnapaephmpmaaGreatDoor
open Go.Sx Go.Our
theorem nLetter_does (r : Int) : Does Tryz.prog tab 102 0 [.int .i32 r] [] [] (Val (.bool (decide (LetterI r)))) := by
  refine Does.enter tabOK (g := 102) (fn := Tryz.f102) Tryz.call102 Tryz.func102 rfl 17 rfl rfl [.tmp 2] rfl ?_
  intro w0 F η0 h0
  conv => whnf
  repeat' (first | ((with_reducible refine IF.tt ?_); conv => whnf) | ((with_reducible refine IF.ff ?_); conv => whnf) | ((with_reducible refine NEED.mk ?_ ?_); (first | with_reducible rfl | omega | (simp (disch := omega) only [lnB, wrap64, wrap32] <;> omega) | (intro h; (try simp (disch := omega) only [hsB, hsC, lnB, wrap64, wrap32, Int.reduceBEq, Int.reduceBNe, Int.reduceEq, Int.reduceNe, Int.reduceLT, Int.reduceLE, Int.reduceGT, Int.reduceGE, Int.reduceAdd, Int.reduceSub, Int.reduceMul, Int.reduceNeg, reduceCtorEq] at h); (first | omega | (simp (disch := omega) only [lnB, wrap64, wrap32] <;> omega))) | (exact needApp 256 rfl rfl (by simp) (by simp) (by omega)) | (simp <;> omega)); conv => whnf) | ((with_reducible apply GET.at); (rfl); conv => whnf) | ((with_reducible apply GETG.at); (rfl); conv => whnf) | ((with_reducible refine IF.mk (fun h => ?_) (fun h => ?_)) <;> (try simp (disch := omega) only [hsB, hsC, lnB, wrap64, wrap32, Int.reduceBEq, Int.reduceBNe, Int.reduceEq, Int.reduceNe, Int.reduceLT, Int.reduceLE, Int.reduceGT, Int.reduceGE, Int.reduceAdd, Int.reduceSub, Int.reduceMul, Int.reduceNeg, reduceCtorEq] at h) <;> (try (exfalso; omega)) <;> conv => whnf))
  refine FIN.value h0 rfl (congrArg SV.bool ?_)
  rw [Bool.eq_iff_iff]
  simp only [Bool.cond_eq_ite, decide_eq_true_eq, Bool.if_false_right, Bool.if_true_left, Bool.and_eq_true, Bool.or_eq_true]
  rfl
theorem nDigit_does (r : Int) : Does Tryz.prog tab 81 0 [.int .i32 r] [] [] (Val (.bool (decide (DigitI r)))) := by
  refine Does.enter tabOK (g := 81) (fn := Tryz.f81) Tryz.call81 Tryz.func81 rfl 9 rfl rfl [.tmp 2] rfl ?_
  intro w0 F η0 h0
  conv => whnf
  repeat' (first | ((with_reducible refine IF.tt ?_); conv => whnf) | ((with_reducible refine IF.ff ?_); conv => whnf) | ((with_reducible refine NEED.mk ?_ ?_); (first | with_reducible rfl | omega | (simp (disch := omega) only [lnB, wrap64, wrap32] <;> omega) | (intro h; (try simp (disch := omega) only [hsB, hsC, lnB, wrap64, wrap32, Int.reduceBEq, Int.reduceBNe, Int.reduceEq, Int.reduceNe, Int.reduceLT, Int.reduceLE, Int.reduceGT, Int.reduceGE, Int.reduceAdd, Int.reduceSub, Int.reduceMul, Int.reduceNeg, reduceCtorEq] at h); (first | omega | (simp (disch := omega) only [lnB, wrap64, wrap32] <;> omega))) | (exact needApp 256 rfl rfl (by simp) (by simp) (by omega)) | (simp <;> omega)); conv => whnf) | ((with_reducible apply GET.at); (rfl); conv => whnf) | ((with_reducible apply GETG.at); (rfl); conv => whnf) | ((with_reducible refine IF.mk (fun h => ?_) (fun h => ?_)) <;> (try simp (disch := omega) only [hsB, hsC, lnB, wrap64, wrap32, Int.reduceBEq, Int.reduceBNe, Int.reduceEq, Int.reduceNe, Int.reduceLT, Int.reduceLE, Int.reduceGT, Int.reduceGE, Int.reduceAdd, Int.reduceSub, Int.reduceMul, Int.reduceNeg, reduceCtorEq] at h) <;> (try (exfalso; omega)) <;> conv => whnf))
  refine FIN.value h0 rfl (congrArg SV.bool ?_)
  rw [Bool.eq_iff_iff]
  simp only [Bool.cond_eq_ite, decide_eq_true_eq, Bool.if_false_right, Bool.if_true_left, Bool.and_eq_true, Bool.or_eq_true]
  rfl
theorem nBase_does (r : Int) : Does Tryz.prog tab 98 0 [.int .i32 r] [] [] (Val (.bool (decide (BaseI r)))) := by
  refine Does.enter tabOK (g := 98) (fn := Tryz.f98) Tryz.call98 Tryz.func98 rfl 25 rfl rfl [.tmp 2] rfl ?_
  intro w0 F η0 h0
  conv => whnf
  repeat' (first | ((with_reducible refine IF.tt ?_); conv => whnf) | ((with_reducible refine IF.ff ?_); conv => whnf) | (refine CALL.value (nLetter_does _) rfl rfl ?_; conv => whnf) | (refine LOOP.once tabOK ?_; conv => whnf) | ((with_reducible refine NEED.mk ?_ ?_); (first | with_reducible rfl | omega | (simp (disch := omega) only [lnB, wrap64, wrap32] <;> omega) | (intro h; (try simp (disch := omega) only [hsB, hsC, lnB, wrap64, wrap32, Int.reduceBEq, Int.reduceBNe, Int.reduceEq, Int.reduceNe, Int.reduceLT, Int.reduceLE, Int.reduceGT, Int.reduceGE, Int.reduceAdd, Int.reduceSub, Int.reduceMul, Int.reduceNeg, reduceCtorEq] at h); (first | omega | (simp (disch := omega) only [lnB, wrap64, wrap32] <;> omega))) | (exact needApp 256 rfl rfl (by simp) (by simp) (by omega)) | (simp <;> omega)); conv => whnf) | ((with_reducible apply GET.at); (rfl); conv => whnf) | ((with_reducible apply GETG.at); (rfl); conv => whnf) | ((with_reducible refine IF.mk (fun h => ?_) (fun h => ?_)) <;> (try simp (disch := omega) only [hsB, hsC, lnB, wrap64, wrap32, Int.reduceBEq, Int.reduceBNe, Int.reduceEq, Int.reduceNe, Int.reduceLT, Int.reduceLE, Int.reduceGT, Int.reduceGE, Int.reduceAdd, Int.reduceSub, Int.reduceMul, Int.reduceNeg, reduceCtorEq] at h) <;> (try (exfalso; omega)) <;> conv => whnf))
  all_goals
    refine FIN.value h0 rfl (congrArg SV.bool ?_)
    first
      | exact decide_eq_decide.2 (by unfold LetterI BaseI; omega)
      | exact (decide_eq_true (by unfold BaseI; omega)).symm
      | exact (decide_eq_false (by unfold BaseI; omega)).symm
theorem nStarter_does (r : Int) : Does Tryz.prog tab 80 0 [.int .i32 r] [] [] (Val (.bool (decide (StartI r)))) := by
  refine Does.enter tabOK (g := 80) (fn := Tryz.f80) Tryz.call80 Tryz.func80 rfl 9 rfl rfl [.tmp 2] rfl ?_
  intro w0 F η0 h0
  conv => whnf
  repeat' (first | ((with_reducible refine IF.tt ?_); conv => whnf) | ((with_reducible refine IF.ff ?_); conv => whnf) | (refine CALL.value (nBase_does _) rfl rfl ?_; conv => whnf) | ((with_reducible refine NEED.mk ?_ ?_); (first | with_reducible rfl | omega | (simp (disch := omega) only [lnB, wrap64, wrap32] <;> omega) | (intro h; (try simp (disch := omega) only [hsB, hsC, lnB, wrap64, wrap32, Int.reduceBEq, Int.reduceBNe, Int.reduceEq, Int.reduceNe, Int.reduceLT, Int.reduceLE, Int.reduceGT, Int.reduceGE, Int.reduceAdd, Int.reduceSub, Int.reduceMul, Int.reduceNeg, reduceCtorEq] at h); (first | omega | (simp (disch := omega) only [lnB, wrap64, wrap32] <;> omega))) | (exact needApp 256 rfl rfl (by simp) (by simp) (by omega)) | (simp <;> omega)); conv => whnf) | ((with_reducible apply GET.at); (rfl); conv => whnf) | ((with_reducible apply GETG.at); (rfl); conv => whnf) | ((with_reducible refine IF.mk (fun h => ?_) (fun h => ?_)) <;> (try simp (disch := omega) only [hsB, hsC, lnB, wrap64, wrap32, Int.reduceBEq, Int.reduceBNe, Int.reduceEq, Int.reduceNe, Int.reduceLT, Int.reduceLE, Int.reduceGT, Int.reduceGE, Int.reduceAdd, Int.reduceSub, Int.reduceMul, Int.reduceNeg, reduceCtorEq] at h) <;> (try (exfalso; omega)) <;> conv => whnf))
  all_goals
    refine FIN.value h0 rfl (congrArg SV.bool ?_)
    rw [Bool.eq_iff_iff, decide_eq_true_iff]
    unfold StartI
    simp
theorem nFollower_does (r : Int) : Does Tryz.prog tab 79 0 [.int .i32 r] [] [] (Val (.bool (decide (FollowI r)))) := by
  refine Does.enter tabOK (g := 79) (fn := Tryz.f79) Tryz.call79 Tryz.func79 rfl 33 rfl rfl [.tmp 2] rfl ?_
  intro w0 F η0 h0
  conv => whnf
  repeat' (first | ((with_reducible refine IF.tt ?_); conv => whnf) | ((with_reducible refine IF.ff ?_); conv => whnf) | (refine CALL.value (nStarter_does _) rfl rfl ?_; conv => whnf) | (refine CALL.value (nDigit_does _) rfl rfl ?_; conv => whnf) | ((with_reducible refine NEED.mk ?_ ?_); (first | with_reducible rfl | omega | (simp (disch := omega) only [lnB, wrap64, wrap32] <;> omega) | (intro h; (try simp (disch := omega) only [hsB, hsC, lnB, wrap64, wrap32, Int.reduceBEq, Int.reduceBNe, Int.reduceEq, Int.reduceNe, Int.reduceLT, Int.reduceLE, Int.reduceGT, Int.reduceGE, Int.reduceAdd, Int.reduceSub, Int.reduceMul, Int.reduceNeg, reduceCtorEq] at h); (first | omega | (simp (disch := omega) only [lnB, wrap64, wrap32] <;> omega))) | (exact needApp 256 rfl rfl (by simp) (by simp) (by omega)) | (simp <;> omega)); conv => whnf) | ((with_reducible apply GET.at); (rfl); conv => whnf) | ((with_reducible apply GETG.at); (rfl); conv => whnf) | ((with_reducible refine IF.mk (fun h => ?_) (fun h => ?_)) <;> (try simp (disch := omega) only [hsB, hsC, lnB, wrap64, wrap32, Int.reduceBEq, Int.reduceBNe, Int.reduceEq, Int.reduceNe, Int.reduceLT, Int.reduceLE, Int.reduceGT, Int.reduceGE, Int.reduceAdd, Int.reduceSub, Int.reduceMul, Int.reduceNeg, reduceCtorEq] at h) <;> (try (exfalso; omega)) <;> conv => whnf))
  all_goals
    refine FIN.value h0 rfl (congrArg SV.bool ?_)
    rw [Bool.eq_iff_iff]
    unfold FollowI
    simp_all
    try omega
theorem nLabels_does (r : Int) : Does Tryz.prog tab 63 0 [.int .i32 r] [] [] (Val (.bool (decide (LabelI r)))) := by
  refine Does.enter tabOK (g := 63) (fn := Tryz.f63) Tryz.call63 Tryz.func63 rfl 9 rfl rfl [.tmp 2] rfl ?_
  intro w0 F η0 h0
  conv => whnf
  repeat' (first | ((with_reducible refine IF.tt ?_); conv => whnf) | ((with_reducible refine IF.ff ?_); conv => whnf) | (refine CALL.value (nStarter_does _) rfl rfl ?_; conv => whnf) | (refine CALL.value (nDigit_does _) rfl rfl ?_; conv => whnf) | ((with_reducible refine NEED.mk ?_ ?_); (first | with_reducible rfl | omega | (simp (disch := omega) only [lnB, wrap64, wrap32] <;> omega) | (intro h; (try simp (disch := omega) only [hsB, hsC, lnB, wrap64, wrap32, Int.reduceBEq, Int.reduceBNe, Int.reduceEq, Int.reduceNe, Int.reduceLT, Int.reduceLE, Int.reduceGT, Int.reduceGE, Int.reduceAdd, Int.reduceSub, Int.reduceMul, Int.reduceNeg, reduceCtorEq] at h); (first | omega | (simp (disch := omega) only [lnB, wrap64, wrap32] <;> omega))) | (exact needApp 256 rfl rfl (by simp) (by simp) (by omega)) | (simp <;> omega)); conv => whnf) | ((with_reducible apply GET.at); (rfl); conv => whnf) | ((with_reducible apply GETG.at); (rfl); conv => whnf) | ((with_reducible refine IF.mk (fun h => ?_) (fun h => ?_)) <;> (try simp (disch := omega) only [hsB, hsC, lnB, wrap64, wrap32, Int.reduceBEq, Int.reduceBNe, Int.reduceEq, Int.reduceNe, Int.reduceLT, Int.reduceLE, Int.reduceGT, Int.reduceGE, Int.reduceAdd, Int.reduceSub, Int.reduceMul, Int.reduceNeg, reduceCtorEq] at h) <;> (try (exfalso; omega)) <;> conv => whnf))
  all_goals
    refine FIN.value h0 rfl (congrArg SV.bool ?_)
    unfold LabelI
    simp_all
theorem nRun_does (g : Nat) (p : Int → Prop) [DecidablePred p] (hp : ∀ r : Int, Does Tryz.prog tab g 0 [.int .i32 r] [] [] (Val (.bool (decide (p r))))) (s : List UInt8) (i : Int) (hs : Sm s) : Does Tryz.prog tab 62 0 [.str s, .int .i64 i, .fn (.func g) [] []] [] [] (Val (.int .i64 (runM p s i))) := by
  have hn := nextAt_n s i
  refine Does.enter tabOK (g := 62) (fn := Tryz.f62) Tryz.call62 Tryz.func62 rfl 55 rfl rfl [.tmp 6] rfl ?_
  intro w0 F η0 h0
  conv => whnf
  repeat' (first | ((with_reducible refine IF.tt ?_); conv => whnf) | ((with_reducible refine IF.ff ?_); conv => whnf) | (refine CALL.value (next_does s _ hs) rfl rfl ?_; conv => whnf) | (refine CALL.value (hp _) rfl rfl ?_; conv => whnf) | ((with_reducible refine NEED.mk ?_ ?_); (first | with_reducible rfl | omega | (simp (disch := omega) only [lnB, wrap64, wrap32] <;> omega) | (intro h; (try simp (disch := omega) only [hsB, hsC, lnB, wrap64, wrap32, Int.reduceBEq, Int.reduceBNe, Int.reduceEq, Int.reduceNe, Int.reduceLT, Int.reduceLE, Int.reduceGT, Int.reduceGE, Int.reduceAdd, Int.reduceSub, Int.reduceMul, Int.reduceNeg, reduceCtorEq] at h); (first | omega | (simp (disch := omega) only [lnB, wrap64, wrap32] <;> omega))) | (exact needApp 256 rfl rfl (by simp) (by simp) (by omega)) | (simp <;> omega)); conv => whnf) | ((with_reducible apply GET.at); (rfl); conv => whnf) | ((with_reducible apply GETG.at); (rfl); conv => whnf) | ((with_reducible refine IF.mk (fun h => ?_) (fun h => ?_)) <;> (try simp (disch := omega) only [hsB, hsC, lnB, wrap64, wrap32, Int.reduceBEq, Int.reduceBNe, Int.reduceEq, Int.reduceNe, Int.reduceLT, Int.reduceLE, Int.reduceGT, Int.reduceGE, Int.reduceAdd, Int.reduceSub, Int.reduceMul, Int.reduceNeg, reduceCtorEq] at h) <;> (try (exfalso; omega)) <;> conv => whnf))
  · exact FIN.value h0 rfl (congrArg (SV.int _) (by unfold runM; rw [if_pos (.inl h)]))
  · exact FIN.value h0 rfl (congrArg (SV.int _) (by unfold runM; rw [if_pos (.inr h)]))
  rename_i h1
  have hi : 0 ≤ i ∧ i < s.length := by
    apply Classical.byContradiction; intro hh; exact h1 (by unfold nextAt; rw [if_pos (by omega)])
  refine LOOP.go tabOK [0, 1] (X := Nat × Nat) (fun x => x.1 ≤ s.length ∧ x.2 ≤ x.1 ∧ runGo s x.1 x.2 = runGo s (i.toNat + (nextAt s i).2.toNat) (i.toNat + (nextAt s i).2.toNat)) (fun x => [(10, .int .i64 (x.1 : Int)), (9, .int .i64 (x.2 : Int))]) (fun i => []) 0 (fun x => s.length - x.1) (i.toNat + (nextAt s i).2.toNat, i.toNat + (nextAt s i).2.toNat) ⟨by omega, by omega, rfl⟩ ?_
  conv => whnf
  refine ⟨by (refine GOES.cutting h0 rfl rfl rfl (by first | rfl | simp [belowO, belowH, plainLL_below, plainLL_map, plainL, plain]) ?_ ?_ <;> (repeat' (first | (with_reducible rfl) | (exact congrArg (fun n => SV.sl _ _ _ n _) (by simp)) | (exact congrArg (Hp.rows _) (by simp)) | (exact congrArg (SV.int _) (by first | omega | (simp (disch := omega) only [lnB, wrap64, wrap32] <;> omega) | (simp; done) | (simp <;> omega))) | ((conv => whnf); refine ⟨?_, ?_⟩) | exact trivial | (simp; done) | rfl))), ?_⟩
  rintro ⟨j, e⟩ ⟨hj, he, hc⟩
  simp only at hj he hc
  have hn' := nextAt_n s j
  conv => whnf
  repeat' (first | ((with_reducible refine IF.tt ?_); conv => whnf) | ((with_reducible refine IF.ff ?_); conv => whnf) | (refine CALL.value (next_does s _ hs) rfl rfl ?_; conv => whnf) | (refine CALL.value (nFollower_does _) rfl rfl ?_; conv => whnf) | ((with_reducible refine NEED.mk ?_ ?_); (first | with_reducible rfl | omega | (simp (disch := omega) only [lnB, wrap64, wrap32] <;> omega) | (intro h; (try simp (disch := omega) only [hsB, hsC, lnB, wrap64, wrap32, Int.reduceBEq, Int.reduceBNe, Int.reduceEq, Int.reduceNe, Int.reduceLT, Int.reduceLE, Int.reduceGT, Int.reduceGE, Int.reduceAdd, Int.reduceSub, Int.reduceMul, Int.reduceNeg, reduceCtorEq] at h); (first | omega | (simp (disch := omega) only [lnB, wrap64, wrap32] <;> omega))) | (exact needApp 256 rfl rfl (by simp) (by simp) (by omega)) | (simp <;> omega)); conv => whnf) | ((with_reducible apply GET.at); (rfl); conv => whnf) | ((with_reducible apply GETG.at); (rfl); conv => whnf) | ((with_reducible refine IF.mk (fun h => ?_) (fun h => ?_)) <;> (try simp (disch := omega) only [hsB, hsC, lnB, wrap64, wrap32, Int.reduceBEq, Int.reduceBNe, Int.reduceEq, Int.reduceNe, Int.reduceLT, Int.reduceLE, Int.reduceGT, Int.reduceGE, Int.reduceAdd, Int.reduceSub, Int.reduceMul, Int.reduceNeg, reduceCtorEq] at h) <;> (try (exfalso; omega)) <;> conv => whnf))
  all_goals first
    | (refine FIN.value h0 rfl (congrArg (SV.int _) ?_)
       unfold runM
       rw [if_neg (by simp [*]), ← hc, runGo_stop (by simp [*])]
       simp (disch := omega) only [wrap64])
    | (refine ⟨(j + (nextAt s j).2.toNat, if (nextAt s j).1 = 46 then e else j + (nextAt s j).2.toNat), ⟨by simp only; omega, by simp only; split <;> omega, ?_⟩, by simp only; omega, ?_⟩
       · simp only
         rw [← hc, ← runGo_step (by simp [*])]
       · conv => whnf
         simp only [*, if_true, if_false]
         (refine GOES.cutting h0 rfl rfl rfl (by first | rfl | simp [belowO, belowH, plainLL_below, plainLL_map, plainL, plain]) ?_ ?_ <;> (repeat' (first | (with_reducible rfl) | (exact congrArg (fun n => SV.sl _ _ _ n _) (by simp)) | (exact congrArg (Hp.rows _) (by simp)) | (exact congrArg (SV.int _) (by first | omega | (simp (disch := omega) only [lnB, wrap64, wrap32] <;> omega) | (simp; done) | (simp <;> omega))) | ((conv => whnf); refine ⟨?_, ?_⟩) | exact trivial | (simp; done) | rfl))))
theorem nLabelAt_does (s : List UInt8) (i : Int) (hs : Sm s) : Does Tryz.prog tab 40 0 [.str s, .int .i64 i] [] [] (Val (.int .i64 (runM LabelI s i))) := by
  refine Does.enter tabOK (g := 40) (fn := Tryz.f40) Tryz.call40 Tryz.func40 rfl 8 rfl rfl [.tmp 4] rfl ?_
  intro w0 F η0 h0
  conv => whnf
  repeat' (first | ((with_reducible refine IF.tt ?_); conv => whnf) | ((with_reducible refine IF.ff ?_); conv => whnf) | (refine CALL.value (nRun_does _ LabelI (fun r => nLabels_does r) s i hs) rfl rfl ?_; conv => whnf) | ((with_reducible refine NEED.mk ?_ ?_); (first | with_reducible rfl | omega | (simp (disch := omega) only [lnB, wrap64, wrap32] <;> omega) | (intro h; (try simp (disch := omega) only [hsB, hsC, lnB, wrap64, wrap32, Int.reduceBEq, Int.reduceBNe, Int.reduceEq, Int.reduceNe, Int.reduceLT, Int.reduceLE, Int.reduceGT, Int.reduceGE, Int.reduceAdd, Int.reduceSub, Int.reduceMul, Int.reduceNeg, reduceCtorEq] at h); (first | omega | (simp (disch := omega) only [lnB, wrap64, wrap32] <;> omega))) | (exact needApp 256 rfl rfl (by simp) (by simp) (by omega)) | (simp <;> omega)); conv => whnf) | ((with_reducible apply GET.at); (rfl); conv => whnf) | ((with_reducible apply GETG.at); (rfl); conv => whnf) | ((with_reducible refine IF.mk (fun h => ?_) (fun h => ?_)) <;> (try simp (disch := omega) only [hsB, hsC, lnB, wrap64, wrap32, Int.reduceBEq, Int.reduceBNe, Int.reduceEq, Int.reduceNe, Int.reduceLT, Int.reduceLE, Int.reduceGT, Int.reduceGE, Int.reduceAdd, Int.reduceSub, Int.reduceMul, Int.reduceNeg, reduceCtorEq] at h) <;> (try (exfalso; omega)) <;> conv => whnf))
  exact FIN.value h0 rfl rfl
theorem nLabel_does (s : List UInt8) (hs : Sm s) : Does Tryz.prog tab 28 0 [.str s] [] [] (Val (.int .i64 (labelM s))) := by
  refine Does.enter tabOK (g := 28) (fn := Tryz.f28) Tryz.call28 Tryz.func28 rfl 14 rfl rfl [.tmp 2] rfl ?_
  intro w0 F η0 h0
  conv => whnf
  repeat' (first | ((with_reducible refine IF.tt ?_); conv => whnf) | ((with_reducible refine IF.ff ?_); conv => whnf) | (refine CALL.value (nLabelAt_does s _ hs) rfl rfl ?_; conv => whnf) | ((with_reducible refine NEED.mk ?_ ?_); (first | with_reducible rfl | omega | (simp (disch := omega) only [lnB, wrap64, wrap32] <;> omega) | (intro h; (try simp (disch := omega) only [hsB, hsC, lnB, wrap64, wrap32, Int.reduceBEq, Int.reduceBNe, Int.reduceEq, Int.reduceNe, Int.reduceLT, Int.reduceLE, Int.reduceGT, Int.reduceGE, Int.reduceAdd, Int.reduceSub, Int.reduceMul, Int.reduceNeg, reduceCtorEq] at h); (first | omega | (simp (disch := omega) only [lnB, wrap64, wrap32] <;> omega))) | (exact needApp 256 rfl rfl (by simp) (by simp) (by omega)) | (simp <;> omega)); conv => whnf) | ((with_reducible apply GET.at); (rfl); conv => whnf) | ((with_reducible apply GETG.at); (rfl); conv => whnf) | ((with_reducible refine IF.mk (fun h => ?_) (fun h => ?_)) <;> (try simp (disch := omega) only [hsB, hsC, lnB, wrap64, wrap32, Int.reduceBEq, Int.reduceBNe, Int.reduceEq, Int.reduceNe, Int.reduceLT, Int.reduceLE, Int.reduceGT, Int.reduceGE, Int.reduceAdd, Int.reduceSub, Int.reduceMul, Int.reduceNeg, reduceCtorEq] at h) <;> (try (exfalso; omega)) <;> conv => whnf))
  · exact FIN.value h0 rfl (congrArg (SV.int _) (by unfold labelM; rw [if_pos (by simpa using h)]))
  · exact FIN.value h0 rfl (congrArg (SV.int _) (by unfold labelM; rw [if_neg (by simp; exact h)]))
end Go.Proofs.YtamnapaephmpmaaGreatDoor
/- names: parts of tags, walked. Conditions: none. -/
set_option linter.unusedVariables false
set_option linter.unusedSimpArgs false
set_option maxRecDepth 20000
namespace Go.Proofs.YtamnapaephmpmaaGreatDoor
open Go.Sx Go.Our
theorem made_does (s : List UInt8) (least most : Int) (pure : Bool) (hs : Sm s) : Does Tryz.prog tab 87 0 [.str s, .int .i64 least, .int .i64 most, .bool pure] [] [] (Val (.bool (madeM s least most pure))) := by
  refine Does.enter tabOK (g := 87) (fn := Tryz.f87) Tryz.call87 Tryz.func87 rfl 37 rfl rfl [.tmp 8] rfl ?_
  intro w0 F η0 h0
  conv => whnf
  refine LOOP.go tabOK [0, 1, 2, 3, 12] (X := Nat) (fun i => i ≤ s.length ∧ allB (partB pure) s i = allB (partB pure) s 0) (fun i => []) (fun i => [(0, .siter s i)]) 1 (fun i => s.length - i) 0 ⟨by omega, rfl⟩ ?_
  conv => whnf
  refine ⟨by (refine GOES.cutting h0 rfl rfl rfl (by first | rfl | simp [belowO, belowH, plainLL_below, plainLL_map, plainL, plain]) ?_ ?_ <;> (repeat' (first | (with_reducible rfl) | (exact congrArg (fun n => SV.sl _ _ _ n _) (by simp)) | (exact congrArg (Hp.rows _) (by simp)) | (exact congrArg (SV.int _) (by first | omega | (simp (disch := omega) only [lnB, wrap64, wrap32] <;> omega) | (simp; done) | (simp <;> omega))) | ((conv => whnf); refine ⟨?_, ?_⟩) | exact trivial | (simp; done) | rfl))), ?_⟩
  rintro i ⟨hi, hc⟩
  conv => whnf
  refine ⟨fun h => ?_, fun h => ?_⟩
  · have h : i < s.length := by simpa using h
    have hf := deco_fits s i h
    have hp := deco_pos s i
    have hd : ((deco s i).1 : Int) = byteAt s i ∧ (deco s i).2 = 1 ∨ 128 ≤ byteAt s i ∧ 128 ≤ (deco s i).1 := by
      have hb := byteAt_lt s i
      by_cases ha : byteAt s i < 128
      · left; rw [deco_ascii ha]; simp; omega
      · right; exact ⟨by omega, deco_high (by omega)⟩
    unfold deco at *
    generalize Utf8.decode ⟨s.toArray⟩ i = d at *
    obtain ⟨r, n⟩ := d
    simp only at hf hp hd
    have key : allB (partB pure) s 0 = (partB pure r && allB (partB pure) s (i + n)) ∨ 128 ≤ r ∧ allB (partB pure) s 0 = false := by
      rcases hd with ⟨h1, rfl⟩ | ⟨h1, h2⟩
      · left; rw [← hc, allB_at h, h1]
      · right; exact ⟨h2, by rw [← hc, allB_at h, partB_high h1, Bool.false_and]⟩
    conv => whnf
    repeat' (first | ((with_reducible refine IF.tt ?_); conv => whnf) | ((with_reducible refine IF.ff ?_); conv => whnf) | (refine CALL.value (nLetter_does _) rfl rfl ?_; conv => whnf) | (refine CALL.value (nDigit_does _) rfl rfl ?_; conv => whnf) | ((with_reducible refine NEED.mk ?_ ?_); (first | with_reducible rfl | omega | (simp (disch := omega) only [lnB, wrap64, wrap32] <;> omega) | (intro h; (try simp (disch := omega) only [hsB, hsC, lnB, wrap64, wrap32, Int.reduceBEq, Int.reduceBNe, Int.reduceEq, Int.reduceNe, Int.reduceLT, Int.reduceLE, Int.reduceGT, Int.reduceGE, Int.reduceAdd, Int.reduceSub, Int.reduceMul, Int.reduceNeg, reduceCtorEq] at h); (first | omega | (simp (disch := omega) only [lnB, wrap64, wrap32] <;> omega))) | (exact needApp 256 rfl rfl (by simp) (by simp) (by omega)) | (simp <;> omega)); conv => whnf) | ((with_reducible apply GET.at); (rfl); conv => whnf) | ((with_reducible apply GETG.at); (rfl); conv => whnf) | ((with_reducible refine IF.mk (fun h => ?_) (fun h => ?_)) <;> (try simp (disch := omega) only [hsB, hsC, lnB, wrap64, wrap32, Int.reduceBEq, Int.reduceBNe, Int.reduceEq, Int.reduceNe, Int.reduceLT, Int.reduceLE, Int.reduceGT, Int.reduceGE, Int.reduceAdd, Int.reduceSub, Int.reduceMul, Int.reduceNeg, reduceCtorEq] at h) <;> (try (exfalso; omega)) <;> conv => whnf))
    all_goals first
      | (refine FIN.value h0 rfl (congrArg SV.bool ?_)
         have h1 : partB pure r = false := by unfold partB letterB digitB; simp [*]
         have h2 : allB (partB pure) s 0 = false := by rcases key with h | h <;> simp [h, h1]
         unfold madeM; rw [h2]; rfl)
      | (have h1 : partB pure r = true := by unfold partB letterB digitB; simp [*]
         refine ⟨i + n, ⟨hf, ?_⟩, by omega, ?_⟩
         · rcases key with h | h
           · rw [h, h1, Bool.true_and]
           · rw [partB_high (by omega)] at h1; cases h1
         · conv => whnf
           (refine GOES.cutting h0 rfl rfl rfl (by first | rfl | simp [belowO, belowH, plainLL_below, plainLL_map, plainL, plain]) ?_ ?_ <;> (repeat' (first | (with_reducible rfl) | (exact congrArg (fun n => SV.sl _ _ _ n _) (by simp)) | (exact congrArg (Hp.rows _) (by simp)) | (exact congrArg (SV.int _) (by first | omega | (simp (disch := omega) only [lnB, wrap64, wrap32] <;> omega) | (simp; done) | (simp <;> omega))) | ((conv => whnf); refine ⟨?_, ?_⟩) | exact trivial | (simp; done) | rfl))))
  · have h : s.length ≤ i := by simpa using h
    conv => whnf
    repeat' (first | ((with_reducible refine IF.tt ?_); conv => whnf) | ((with_reducible refine IF.ff ?_); conv => whnf) | ((with_reducible refine NEED.mk ?_ ?_); (first | with_reducible rfl | omega | (simp (disch := omega) only [lnB, wrap64, wrap32] <;> omega) | (intro h; (try simp (disch := omega) only [hsB, hsC, lnB, wrap64, wrap32, Int.reduceBEq, Int.reduceBNe, Int.reduceEq, Int.reduceNe, Int.reduceLT, Int.reduceLE, Int.reduceGT, Int.reduceGE, Int.reduceAdd, Int.reduceSub, Int.reduceMul, Int.reduceNeg, reduceCtorEq] at h); (first | omega | (simp (disch := omega) only [lnB, wrap64, wrap32] <;> omega))) | (exact needApp 256 rfl rfl (by simp) (by simp) (by omega)) | (simp <;> omega)); conv => whnf) | ((with_reducible apply GET.at); (rfl); conv => whnf) | ((with_reducible apply GETG.at); (rfl); conv => whnf) | ((with_reducible refine IF.mk (fun h => ?_) (fun h => ?_)) <;> (try simp (disch := omega) only [hsB, hsC, lnB, wrap64, wrap32, Int.reduceBEq, Int.reduceBNe, Int.reduceEq, Int.reduceNe, Int.reduceLT, Int.reduceLE, Int.reduceGT, Int.reduceGE, Int.reduceAdd, Int.reduceSub, Int.reduceMul, Int.reduceNeg, reduceCtorEq] at h) <;> (try (exfalso; omega)) <;> conv => whnf))
    all_goals
      refine FIN.value h0 rfl (congrArg SV.bool ?_)
      unfold madeM
      rw [← hc, allB_end h, Bool.eq_iff_iff]
      simp [Bool.cond_eq_ite]
theorem private_does (s : List UInt8) : Does Tryz.prog tab 67 0 [.str s] [] [] (Val (.bool (privateM s))) := by
  refine Does.enter tabOK (g := 67) (fn := Tryz.f67) Tryz.call67 Tryz.func67 rfl 9 rfl rfl [.tmp 2] rfl ?_
  intro w0 F η0 h0
  conv => whnf
  repeat' (first | ((with_reducible refine IF.tt ?_); conv => whnf) | ((with_reducible refine IF.ff ?_); conv => whnf) | ((with_reducible refine NEED.mk ?_ ?_); (first | with_reducible rfl | omega | (simp (disch := omega) only [lnB, wrap64, wrap32] <;> omega) | (intro h; (try simp (disch := omega) only [hsB, hsC, lnB, wrap64, wrap32, Int.reduceBEq, Int.reduceBNe, Int.reduceEq, Int.reduceNe, Int.reduceLT, Int.reduceLE, Int.reduceGT, Int.reduceGE, Int.reduceAdd, Int.reduceSub, Int.reduceMul, Int.reduceNeg, reduceCtorEq] at h); (first | omega | (simp (disch := omega) only [lnB, wrap64, wrap32] <;> omega))) | (exact needApp 256 rfl rfl (by simp) (by simp) (by omega)) | (simp <;> omega)); conv => whnf) | ((with_reducible apply GET.at); (rfl); conv => whnf) | ((with_reducible apply GETG.at); (rfl); conv => whnf) | ((with_reducible refine IF.mk (fun h => ?_) (fun h => ?_)) <;> (try simp (disch := omega) only [hsB, hsC, lnB, wrap64, wrap32, Int.reduceBEq, Int.reduceBNe, Int.reduceEq, Int.reduceNe, Int.reduceLT, Int.reduceLE, Int.reduceGT, Int.reduceGE, Int.reduceAdd, Int.reduceSub, Int.reduceMul, Int.reduceNeg, reduceCtorEq] at h) <;> (try (exfalso; omega)) <;> conv => whnf))
  refine FIN.value h0 rfl (congrArg SV.bool ?_)
  unfold privateM
  rw [Bool.eq_iff_iff]
  simp [Bool.cond_eq_ite]
theorem region_does (s : List UInt8) (hs : Sm s) : Does Tryz.prog tab 90 0 [.str s] [] [] (Val (.bool (regionM s))) := by
  have b0 := byteAt_lt s 0; have b1 := byteAt_lt s 1; have b2 := byteAt_lt s 2
  refine Does.enter tabOK (g := 90) (fn := Tryz.f90) Tryz.call90 Tryz.func90 rfl 28 rfl rfl [.tmp 2] rfl ?_
  intro w0 F η0 h0
  conv => whnf
  repeat' (first | ((with_reducible refine IF.tt ?_); conv => whnf) | ((with_reducible refine IF.ff ?_); conv => whnf) | (refine CALL.value (made_does _ _ _ _ hs) rfl rfl ?_; conv => whnf) | (refine CALL.value (nDigit_does _) rfl rfl ?_; conv => whnf) | ((with_reducible refine NEED.mk ?_ ?_); (first | with_reducible rfl | omega | (simp (disch := omega) only [lnB, wrap64, wrap32] <;> omega) | (intro h; (try simp (disch := omega) only [hsB, hsC, lnB, wrap64, wrap32, Int.reduceBEq, Int.reduceBNe, Int.reduceEq, Int.reduceNe, Int.reduceLT, Int.reduceLE, Int.reduceGT, Int.reduceGE, Int.reduceAdd, Int.reduceSub, Int.reduceMul, Int.reduceNeg, reduceCtorEq] at h); (first | omega | (simp (disch := omega) only [lnB, wrap64, wrap32] <;> omega))) | (exact needApp 256 rfl rfl (by simp) (by simp) (by omega)) | (simp <;> omega)); conv => whnf) | ((with_reducible apply GET.at); (rfl); conv => whnf) | ((with_reducible apply GETG.at); (rfl); conv => whnf) | ((with_reducible refine IF.mk (fun h => ?_) (fun h => ?_)) <;> (try simp (disch := omega) only [hsB, hsC, lnB, wrap64, wrap32, Int.reduceBEq, Int.reduceBNe, Int.reduceEq, Int.reduceNe, Int.reduceLT, Int.reduceLE, Int.reduceGT, Int.reduceGE, Int.reduceAdd, Int.reduceSub, Int.reduceMul, Int.reduceNeg, reduceCtorEq] at h) <;> (try (exfalso; omega)) <;> conv => whnf))
  all_goals
    refine FIN.value h0 rfl (congrArg SV.bool ?_)
    unfold regionM digitB
    try simp (disch := omega) only [wrap32] at *
    simp_all
    try omega
theorem variant_does (s : List UInt8) (hs : Sm s) : Does Tryz.prog tab 91 0 [.str s] [] [] (Val (.bool (variantM s))) := by
  have b0 := byteAt_lt s 0
  have hm : madeM s 4 4 false = true → s.length = 4 := by unfold madeM; simp; omega
  refine Does.enter tabOK (g := 91) (fn := Tryz.f91) Tryz.call91 Tryz.func91 rfl 15 rfl rfl [.tmp 2] rfl ?_
  intro w0 F η0 h0
  conv => whnf
  repeat' (first | ((with_reducible refine IF.tt ?_); conv => whnf) | ((with_reducible refine IF.ff ?_); conv => whnf) | (refine CALL.value (made_does _ _ _ _ hs) rfl rfl ?_; conv => whnf) | (refine CALL.value (nDigit_does _) rfl rfl ?_; conv => whnf) | (refine NEED.mk (by have := hm (by assumption); omega) ?_; conv => whnf) | ((with_reducible refine NEED.mk ?_ ?_); (first | with_reducible rfl | omega | (simp (disch := omega) only [lnB, wrap64, wrap32] <;> omega) | (intro h; (try simp (disch := omega) only [hsB, hsC, lnB, wrap64, wrap32, Int.reduceBEq, Int.reduceBNe, Int.reduceEq, Int.reduceNe, Int.reduceLT, Int.reduceLE, Int.reduceGT, Int.reduceGE, Int.reduceAdd, Int.reduceSub, Int.reduceMul, Int.reduceNeg, reduceCtorEq] at h); (first | omega | (simp (disch := omega) only [lnB, wrap64, wrap32] <;> omega))) | (exact needApp 256 rfl rfl (by simp) (by simp) (by omega)) | (simp <;> omega)); conv => whnf) | ((with_reducible apply GET.at); (rfl); conv => whnf) | ((with_reducible apply GETG.at); (rfl); conv => whnf) | ((with_reducible refine IF.mk (fun h => ?_) (fun h => ?_)) <;> (try simp (disch := omega) only [hsB, hsC, lnB, wrap64, wrap32, Int.reduceBEq, Int.reduceBNe, Int.reduceEq, Int.reduceNe, Int.reduceLT, Int.reduceLE, Int.reduceGT, Int.reduceGE, Int.reduceAdd, Int.reduceSub, Int.reduceMul, Int.reduceNeg, reduceCtorEq] at h) <;> (try (exfalso; omega)) <;> conv => whnf))
  all_goals
    refine FIN.value h0 rfl (congrArg SV.bool ?_)
    unfold variantM digitB
    try simp (disch := omega) only [wrap32] at *
    simp_all
theorem lower_does (s : List UInt8) (hs : Sm s) : Does Tryz.prog tab 43 0 [.str s] [] [] (Val (.str (lowerM s))) := by
  refine Does.enter tabOK (g := 43) (fn := Tryz.f43) Tryz.call43 Tryz.func43 rfl 29 rfl rfl [.tmp 2] rfl ?_
  intro w0 F η0 h0
  conv => whnf
  repeat' (first | ((with_reducible refine IF.tt ?_); conv => whnf) | ((with_reducible refine IF.ff ?_); conv => whnf) | ((with_reducible refine NEED.mk ?_ ?_); (first | with_reducible rfl | omega | (simp (disch := omega) only [lnB, wrap64, wrap32] <;> omega) | (intro h; (try simp (disch := omega) only [hsB, hsC, lnB, wrap64, wrap32, Int.reduceBEq, Int.reduceBNe, Int.reduceEq, Int.reduceNe, Int.reduceLT, Int.reduceLE, Int.reduceGT, Int.reduceGE, Int.reduceAdd, Int.reduceSub, Int.reduceMul, Int.reduceNeg, reduceCtorEq] at h); (first | omega | (simp (disch := omega) only [lnB, wrap64, wrap32] <;> omega))) | (exact needApp 256 rfl rfl (by simp) (by simp) (by omega)) | (simp <;> omega)); conv => whnf) | ((with_reducible apply GET.at); (rfl); conv => whnf) | ((with_reducible apply GETG.at); (rfl); conv => whnf) | ((with_reducible refine IF.mk (fun h => ?_) (fun h => ?_)) <;> (try simp (disch := omega) only [hsB, hsC, lnB, wrap64, wrap32, Int.reduceBEq, Int.reduceBNe, Int.reduceEq, Int.reduceNe, Int.reduceLT, Int.reduceLE, Int.reduceGT, Int.reduceGE, Int.reduceAdd, Int.reduceSub, Int.reduceMul, Int.reduceNeg, reduceCtorEq] at h) <;> (try (exfalso; omega)) <;> conv => whnf))
  refine LOOP.go tabOK [3, 8, 9] (X := Nat) (fun i => i ≤ s.length) (fun i => [(10, .int .i64 (i : Int))]) (fun i => [(0, .rows 1 ((curL s i).map Sx.bytesRow))]) 1 (fun i => s.length - i) 0 (by omega) ?_
  conv => whnf
  refine ⟨by (refine GOES.cutting h0 rfl rfl rfl (by first | rfl | (simp only [belowO, belowH, plainLL_below _ (plainBytes _), Bool.and_self, Bool.and_true] <;> rfl)) ?_ ?_ <;> (repeat' (first | (with_reducible rfl) | (exact congrArg (SV.int _) (by first | omega | (simp (disch := omega) only [lnB, wrap64, wrap32] <;> omega) | (simp; done) | (simp <;> omega))) | (exact congrArg (Hp.rows _) (by rw [curL_zero])) | ((conv => whnf); refine ⟨?_, ?_⟩) | exact trivial | rfl))), ?_⟩
  intro i hi
  have hlen := curL_len s i
  conv => whnf
  repeat' (first | ((with_reducible refine IF.tt ?_); conv => whnf) | ((with_reducible refine IF.ff ?_); conv => whnf) | (refine GET.at (row := Sx.bytesRow (s[i]'(by omega))) (by rw [show 0 + (i : Int).toNat = i by omega]; exact rowL_get (by omega)) ?_; conv => whnf) | ((with_reducible refine NEED.mk ?_ ?_); (first | with_reducible rfl | omega | (simp (disch := omega) only [lnB, wrap64, wrap32] <;> omega) | (intro h; (try simp (disch := omega) only [hsB, hsC, lnB, wrap64, wrap32, Int.reduceBEq, Int.reduceBNe, Int.reduceEq, Int.reduceNe, Int.reduceLT, Int.reduceLE, Int.reduceGT, Int.reduceGE, Int.reduceAdd, Int.reduceSub, Int.reduceMul, Int.reduceNeg, reduceCtorEq] at h); (first | omega | (simp (disch := omega) only [lnB, wrap64, wrap32] <;> omega))) | (exact needApp 256 rfl rfl (by simp) (by simp) (by omega)) | (simp <;> omega)); conv => whnf) | ((with_reducible apply GET.at); (rfl); conv => whnf) | ((with_reducible apply GETG.at); (rfl); conv => whnf) | ((with_reducible refine IF.mk (fun h => ?_) (fun h => ?_)) <;> (try simp (disch := omega) only [hsB, hsC, lnB, wrap64, wrap32, Int.reduceBEq, Int.reduceBNe, Int.reduceEq, Int.reduceNe, Int.reduceLT, Int.reduceLE, Int.reduceGT, Int.reduceGE, Int.reduceAdd, Int.reduceSub, Int.reduceMul, Int.reduceNeg, reduceCtorEq] at h) <;> (try (exfalso; omega)) <;> conv => whnf))
  · have hl : i < s.length := by omega
    refine ⟨i + 1, by omega, by omega, ?_⟩
    conv => whnf
    (refine GOES.cutting h0 rfl rfl rfl (by first | rfl | (simp only [belowO, belowH, plainLL_below _ (plainBytes _), Bool.and_self, Bool.and_true] <;> rfl)) ?_ ?_ <;> (repeat' (first | (with_reducible rfl) | (exact congrArg (SV.int _) (by first | omega | (simp (disch := omega) only [lnB, wrap64, wrap32] <;> omega) | (simp; done) | (simp <;> omega))) | (exact congrArg (Hp.rows _) (by rw [lowB_up h, show 0 + (i : Int).toNat = i by omega, rowL_set hl])) | ((conv => whnf); refine ⟨?_, ?_⟩) | exact trivial | rfl)))
  · have hl : i < s.length := by omega
    refine ⟨i + 1, by omega, by omega, ?_⟩
    conv => whnf
    (refine GOES.cutting h0 rfl rfl rfl (by first | rfl | (simp only [belowO, belowH, plainLL_below _ (plainBytes _), Bool.and_self, Bool.and_true] <;> rfl)) ?_ ?_ <;> (repeat' (first | (with_reducible rfl) | (exact congrArg (SV.int _) (by first | omega | (simp (disch := omega) only [lnB, wrap64, wrap32] <;> omega) | (simp; done) | (simp <;> omega))) | (exact congrArg (Hp.rows _) (by rw [curL_same hl (lowB_id (by omega))])) | ((conv => whnf); refine ⟨?_, ?_⟩) | exact trivial | rfl)))
  · refine NEED.mk (needText (by omega)) ?_
    conv => whnf
    refine FIN.value h0 rfl (congrArg SV.str ?_)
    have := textAll (curL s i)
    rw [hlen] at this
    rw [this, curL_all (by omega)]
end Go.Proofs.YtamnapaephmpmaaGreatDoor
/- strings.Split at a hyphen, slices.Contains at texts, cmp.Or at error numbers, walked. Conditions: none. -/
set_option linter.unusedVariables false
set_option linter.unusedSimpArgs false
set_option maxRecDepth 20000
namespace Go.Proofs.YtamnapaephmpmaaGreatDoor
open Go.Sx Go.Our
theorem countString_does (s : List UInt8) (c : Int) : Does Tryz.prog tab 110 0 [.str s, .int .u8 c] [] [] (Val (.int .i64 (Lib.countByte s c.toNat.toUInt8 : Nat))) := by
  refine Does.says fun η w vs hd => ?_
  simp only [DenL, Den] at hd
  obtain ⟨u, us, rfl, rfl, u', us', rfl, rfl, rfl⟩ := hd
  refine ⟨_, ?_, rfl⟩
  rw [run_callFunc_extern Tryz.func110 (by kernel_rfl) (by kernel_rfl) (by kernel_rfl) (e := Extern.BytealgCount.count) (by kernel_rfl), Lib.run_countString]
  rfl
theorem count_does (s : List UInt8) : Does Tryz.prog tab 100 0 [.str s, .str [45]] [] [] (Val (.int .i64 (s.count 45 : Nat))) := by
  refine Does.enter tabOK (g := 100) (fn := Tryz.f100) Tryz.call100 Tryz.func100 rfl 34 rfl rfl [.tmp 4] rfl ?_
  intro w0 F η0 h0
  conv => whnf
  repeat' (first | ((with_reducible refine IF.tt ?_); conv => whnf) | ((with_reducible refine IF.ff ?_); conv => whnf) | (refine CALL.value (countString_does _ _) rfl rfl ?_; conv => whnf) | ((with_reducible refine NEED.mk ?_ ?_); (first | with_reducible rfl | omega | (simp (disch := omega) only [lnB, wrap64, wrap32] <;> omega) | (intro h; (try simp (disch := omega) only [hsB, hsC, lnB, wrap64, wrap32, Int.reduceBEq, Int.reduceBNe, Int.reduceEq, Int.reduceNe, Int.reduceLT, Int.reduceLE, Int.reduceGT, Int.reduceGE, Int.reduceAdd, Int.reduceSub, Int.reduceMul, Int.reduceNeg, reduceCtorEq] at h); (first | omega | (simp (disch := omega) only [lnB, wrap64, wrap32] <;> omega))) | (exact needApp 256 rfl rfl (by simp) (by simp) (by omega)) | (simp <;> omega)); conv => whnf) | ((with_reducible apply GET.at); (rfl); conv => whnf) | ((with_reducible apply GETG.at); (rfl); conv => whnf) | ((with_reducible refine IF.mk (fun h => ?_) (fun h => ?_)) <;> (try simp (disch := omega) only [hsB, hsC, lnB, wrap64, wrap32, Int.reduceBEq, Int.reduceBNe, Int.reduceEq, Int.reduceNe, Int.reduceLT, Int.reduceLE, Int.reduceGT, Int.reduceGE, Int.reduceAdd, Int.reduceSub, Int.reduceMul, Int.reduceNeg, reduceCtorEq] at h) <;> (try (exfalso; omega)) <;> conv => whnf))
  all_goals first
    | exact FIN.value h0 rfl rfl
    | (exfalso; simp at *; done)
theorem slIndex_does (s : List UInt8) : Does Tryz.prog tab 111 0 [.str s, .str [45]] [] [] (Val (.int .i64 (Lib.indexByte s 45))) := by
  refine Does.enter tabOK (g := 111) (fn := Tryz.f111) Tryz.call111 Tryz.func111 rfl 143 rfl rfl [.tmp 4] rfl ?_
  intro w0 F η0 h0
  conv => whnf
  repeat' (first | ((with_reducible refine IF.tt ?_); conv => whnf) | ((with_reducible refine IF.ff ?_); conv => whnf) | (refine CALL.value (indexByteString_does _ _) rfl rfl ?_; conv => whnf) | (refine CALL.value (slIndexByte_does _ _) rfl rfl ?_; conv => whnf) | (refine CALL.value (indexByte_does _ _) rfl rfl ?_; conv => whnf) | ((with_reducible refine NEED.mk ?_ ?_); (first | with_reducible rfl | omega | (simp (disch := omega) only [lnB, wrap64, wrap32] <;> omega) | (intro h; (try simp (disch := omega) only [hsB, hsC, lnB, wrap64, wrap32, Int.reduceBEq, Int.reduceBNe, Int.reduceEq, Int.reduceNe, Int.reduceLT, Int.reduceLE, Int.reduceGT, Int.reduceGE, Int.reduceAdd, Int.reduceSub, Int.reduceMul, Int.reduceNeg, reduceCtorEq] at h); (first | omega | (simp (disch := omega) only [lnB, wrap64, wrap32] <;> omega))) | (exact needApp 256 rfl rfl (by simp) (by simp) (by omega)) | (simp <;> omega)); conv => whnf) | ((with_reducible apply GET.at); (rfl); conv => whnf) | ((with_reducible apply GETG.at); (rfl); conv => whnf) | ((with_reducible refine IF.mk (fun h => ?_) (fun h => ?_)) <;> (try simp (disch := omega) only [hsB, hsC, lnB, wrap64, wrap32, Int.reduceBEq, Int.reduceBNe, Int.reduceEq, Int.reduceNe, Int.reduceLT, Int.reduceLE, Int.reduceGT, Int.reduceGE, Int.reduceAdd, Int.reduceSub, Int.reduceMul, Int.reduceNeg, reduceCtorEq] at h) <;> (try (exfalso; omega)) <;> conv => whnf))
  · rcases h with h | h
    · exact absurd h (by decide)
    · subst h; exact FIN.value h0 rfl rfl
  · exact FIN.value h0 rfl rfl
  all_goals
    exact absurd (by assumption : ¬ ((0 + 1 : Nat) : Int) = 1) (by decide)
theorem index_does (s : List UInt8) : Does Tryz.prog tab 101 0 [.str s, .str [45]] [] [] (Val (.int .i64 (Lib.indexByte s 45))) := by
  refine Does.enter tabOK (g := 101) (fn := Tryz.f101) Tryz.call101 Tryz.func101 rfl 8 rfl rfl [.tmp 4] rfl ?_
  intro w0 F η0 h0
  conv => whnf
  repeat' (first | ((with_reducible refine IF.tt ?_); conv => whnf) | ((with_reducible refine IF.ff ?_); conv => whnf) | (refine CALL.value (slIndex_does _) rfl rfl ?_; conv => whnf) | ((with_reducible refine NEED.mk ?_ ?_); (first | with_reducible rfl | omega | (simp (disch := omega) only [lnB, wrap64, wrap32] <;> omega) | (intro h; (try simp (disch := omega) only [hsB, hsC, lnB, wrap64, wrap32, Int.reduceBEq, Int.reduceBNe, Int.reduceEq, Int.reduceNe, Int.reduceLT, Int.reduceLE, Int.reduceGT, Int.reduceGE, Int.reduceAdd, Int.reduceSub, Int.reduceMul, Int.reduceNeg, reduceCtorEq] at h); (first | omega | (simp (disch := omega) only [lnB, wrap64, wrap32] <;> omega))) | (exact needApp 256 rfl rfl (by simp) (by simp) (by omega)) | (simp <;> omega)); conv => whnf) | ((with_reducible apply GET.at); (rfl); conv => whnf) | ((with_reducible apply GETG.at); (rfl); conv => whnf) | ((with_reducible refine IF.mk (fun h => ?_) (fun h => ?_)) <;> (try simp (disch := omega) only [hsB, hsC, lnB, wrap64, wrap32, Int.reduceBEq, Int.reduceBNe, Int.reduceEq, Int.reduceNe, Int.reduceLT, Int.reduceLE, Int.reduceGT, Int.reduceGE, Int.reduceAdd, Int.reduceSub, Int.reduceMul, Int.reduceNeg, reduceCtorEq] at h) <;> (try (exfalso; omega)) <;> conv => whnf))
  exact FIN.value h0 rfl rfl
theorem needMake {l c : Int} {b : Nat} (B : Nat) (hb : Nat.ble b B = true) (h0 : 0 ≤ l) (h1 : l ≤ c) (h2 : (B : Int) * c ≤ 281474976710656 ∧ c ≤ 9223372036854775807) : 0 ≤ l ∧ l ≤ c ∧ c ≤ 9223372036854775807 ∧ (b : Int) * c ≤ 281474976710656 :=
  ⟨h0, h1, h2.2, Int.le_trans (Int.mul_le_mul_of_nonneg_right (by have := Nat.le_of_ble_eq_true hb; omega) (by omega)) h2.1⟩
theorem genSplit_does (s : List UInt8) (hs : s.length ≤ 68719476736) : Does Tryz.prog tab 85 0 [.str s, .str [45], .int .i64 0, .int .i64 (-1)] [] [] (NewS 1 ((splitM s).map strRow)) := by
  have hcnt := split_count s
  have hlen := split_len s
  have hne := split_ne s
  refine Does.enter tabOK (g := 85) (fn := Tryz.f85) Tryz.call85 Tryz.func85 rfl 66 rfl rfl [.tmp 8] rfl ?_
  intro w0 F η0 h0
  conv => whnf
  repeat' (first | ((with_reducible refine IF.tt ?_); conv => whnf) | ((with_reducible refine IF.ff ?_); conv => whnf) | (refine CALL.value (count_does _) rfl rfl ?_; conv => whnf) | ((with_reducible refine NEED.mk ?_ ?_); (first | with_reducible rfl | omega | (simp (disch := omega) only [lnB, wrap64, wrap32] <;> omega) | (intro h; (try simp (disch := omega) only [hsB, hsC, lnB, wrap64, wrap32, Int.reduceBEq, Int.reduceBNe, Int.reduceEq, Int.reduceNe, Int.reduceLT, Int.reduceLE, Int.reduceGT, Int.reduceGE, Int.reduceAdd, Int.reduceSub, Int.reduceMul, Int.reduceNeg, reduceCtorEq] at h); (first | omega | (simp (disch := omega) only [lnB, wrap64, wrap32] <;> omega))) | (exact needApp 256 rfl rfl (by simp) (by simp) (by omega)) | (simp <;> omega)); conv => whnf) | ((with_reducible apply GET.at); (rfl); conv => whnf) | ((with_reducible apply GETG.at); (rfl); conv => whnf) | ((with_reducible refine IF.mk (fun h => ?_) (fun h => ?_)) <;> (try simp (disch := omega) only [hsB, hsC, lnB, wrap64, wrap32, Int.reduceBEq, Int.reduceBNe, Int.reduceEq, Int.reduceNe, Int.reduceLT, Int.reduceLE, Int.reduceGT, Int.reduceGE, Int.reduceAdd, Int.reduceSub, Int.reduceMul, Int.reduceNeg, reduceCtorEq] at h) <;> (try (exfalso; omega)) <;> conv => whnf))
  have hn : (if IntKind.i64.wrap ((s.length : Int) + 1) < IntKind.i64.wrap (((s.count 45 : Nat) : Int) + 1) then IntKind.i64.wrap ((s.length : Int) + 1) else IntKind.i64.wrap (((s.count 45 : Nat) : Int) + 1)) = ((splitM s).length : Int) := by
    simp (disch := omega) only [wrap64]
    rw [if_neg (by omega)]; omega
  rw [hn]
  refine NEED.mk (needMake 16 rfl (by omega) (by omega) (by omega)) ?_
  conv => whnf
  rw [show List.replicate ((splitM s).length : Int).toNat [SV.str []] = fillR [] (splitM s).length by rw [Int.toNat_natCast]; rfl]
  refine LOOP.go tabOK [1, 2, 3, 9] (X := List (List UInt8) × List UInt8) (fun x => splitM s = x.1 ++ splitM x.2 ∧ x.2.length ≤ s.length) (fun x => [(10, .int .i64 (x.1.length : Int)), (0, .str x.2)]) (fun x => [(0, .rows 1 (fillR x.1 ((splitM s).length - x.1.length)))]) 1 (fun x => (splitM s).length - x.1.length) ([], s) ⟨rfl, Nat.le_refl _⟩ ?_
  conv => whnf
  refine ⟨by (refine GOES.cutting h0 rfl rfl rfl (by first | rfl | (simp only [belowO, belowH, plainLL_below _ (plainFill _ _), Bool.and_self, Bool.and_true] <;> rfl)) ?_ ?_ <;> (repeat' (first | (with_reducible rfl) | (exact congrArg (SV.int _) (by first | omega | (simp (disch := omega) only [lnB, wrap64, wrap32] <;> omega) | (simp; done) | (simp <;> omega))) | (exact congrArg (Hp.rows _) (by rfl)) | ((conv => whnf); refine ⟨?_, ?_⟩) | exact trivial | rfl))), ?_⟩
  rintro ⟨d, u⟩ ⟨he, hu⟩
  dsimp only at he hu ⊢
  have hd : d.length + (splitM u).length = (splitM s).length := by rw [he, List.length_append]
  have hun : 1 ≤ (splitM u).length := by have := split_count u; omega
  have hm : Lib.indexByte u 45 = -1 ∧ splitM u = [u] ∨ ∃ m : Nat, Lib.indexByte u 45 = m ∧ m < u.length ∧ splitM u = u.take m :: splitM (u.drop (m + 1)) := by
    have hge := Lib.indexByte_ge u 45
    by_cases h : Lib.indexByte u 45 = -1
    · exact .inl ⟨h, split_none h⟩
    · have e : Lib.indexByte u 45 = ((Lib.indexByte u 45).toNat : Int) := by omega
      have := split_some e
      exact .inr ⟨_, e, this.1, this.2⟩
  conv => whnf
  rcases hm with ⟨hm, hs1⟩ | ⟨m, hm, hml, hs1⟩
  · have h1 : (splitM u).length = 1 := by rw [hs1]; rfl
    repeat' (first | ((with_reducible refine IF.tt ?_); conv => whnf) | ((with_reducible refine IF.ff ?_); conv => whnf) | (refine CALL.value (index_does _) rfl rfl ?_; conv => whnf) | (refine GET.at (row := strRow []) (fill_get (by omega) (by omega)) ?_; conv => whnf) | (refine NEED.mk (by rw [wrap64 (by omega) (by omega)]; refine ⟨by omega, ?_⟩; show _ ≤ ((max (((splitM s).length : Int).toNat) (_ - 0) : Nat) : Int); omega) ?_; conv => whnf) | ((with_reducible refine NEED.mk ?_ ?_); (first | with_reducible rfl | omega | (simp (disch := omega) only [lnB, wrap64, wrap32] <;> omega) | (intro h; (try simp (disch := omega) only [hsB, hsC, lnB, wrap64, wrap32, Int.reduceBEq, Int.reduceBNe, Int.reduceEq, Int.reduceNe, Int.reduceLT, Int.reduceLE, Int.reduceGT, Int.reduceGE, Int.reduceAdd, Int.reduceSub, Int.reduceMul, Int.reduceNeg, reduceCtorEq] at h); (first | omega | (simp (disch := omega) only [lnB, wrap64, wrap32] <;> omega))) | (exact needApp 256 rfl rfl (by simp) (by simp) (by omega)) | (simp <;> omega)); conv => whnf) | ((with_reducible apply GET.at); (rfl); conv => whnf) | ((with_reducible apply GETG.at); (rfl); conv => whnf) | ((with_reducible refine IF.mk (fun h => ?_) (fun h => ?_)) <;> (try simp (disch := omega) only [hsB, hsC, lnB, wrap64, wrap32, Int.reduceBEq, Int.reduceBNe, Int.reduceEq, Int.reduceNe, Int.reduceLT, Int.reduceLE, Int.reduceGT, Int.reduceGE, Int.reduceAdd, Int.reduceSub, Int.reduceMul, Int.reduceNeg, reduceCtorEq] at h) <;> (try (exfalso; omega)) <;> conv => whnf))
    rw [fill_set (by omega) (by omega)]
    have hw : (IntKind.i64.wrap ((d.length : Int) + 1)).toNat = ((splitM s).map strRow).length := by
      rw [wrap64 (by omega) (by omega), List.length_map]; omega
    rw [hw, show (splitM s).length - d.length - 1 = 0 by omega, show fillR (d ++ [u]) 0 = (splitM s).map strRow by rw [he, hs1]; simp [fillR]]
    exact FIN.rows h0 0 1 _ rfl rfl rfl (plainStrs _) ⟨rfl, rfl, rfl⟩
  · have h1 : 2 ≤ (splitM u).length := by rw [hs1]; have := split_count (u.drop (m + 1)); simp; omega
    repeat' (first | ((with_reducible refine IF.tt ?_); conv => whnf) | ((with_reducible refine IF.ff ?_); conv => whnf) | (refine CALL.value (index_does _) rfl rfl ?_; conv => whnf) | (refine GET.at (row := strRow []) (fill_get (by omega) (by omega)) ?_; conv => whnf) | ((with_reducible refine NEED.mk ?_ ?_); (first | with_reducible rfl | omega | (simp (disch := omega) only [lnB, wrap64, wrap32] <;> omega) | (intro h; (try simp (disch := omega) only [hsB, hsC, lnB, wrap64, wrap32, Int.reduceBEq, Int.reduceBNe, Int.reduceEq, Int.reduceNe, Int.reduceLT, Int.reduceLE, Int.reduceGT, Int.reduceGE, Int.reduceAdd, Int.reduceSub, Int.reduceMul, Int.reduceNeg, reduceCtorEq] at h); (first | omega | (simp (disch := omega) only [lnB, wrap64, wrap32] <;> omega))) | (exact needApp 256 rfl rfl (by simp) (by simp) (by omega)) | (simp <;> omega)); conv => whnf) | ((with_reducible apply GET.at); (rfl); conv => whnf) | ((with_reducible apply GETG.at); (rfl); conv => whnf) | ((with_reducible refine IF.mk (fun h => ?_) (fun h => ?_)) <;> (try simp (disch := omega) only [hsB, hsC, lnB, wrap64, wrap32, Int.reduceBEq, Int.reduceBNe, Int.reduceEq, Int.reduceNe, Int.reduceLT, Int.reduceLE, Int.reduceGT, Int.reduceGE, Int.reduceAdd, Int.reduceSub, Int.reduceMul, Int.reduceNeg, reduceCtorEq] at h) <;> (try (exfalso; omega)) <;> conv => whnf))
    have hw1 : (IntKind.i64.wrap (Lib.indexByte u 45 + (([45] : List UInt8).length : Int))).toNat = m + 1 := by
      rw [hm]; simp only [List.length_cons, List.length_nil]; rw [wrap64 (by omega) (by omega)]; omega
    have hw2 : (IntKind.i64.wrap (Lib.indexByte u 45 + 0)).toNat = m := by
      rw [hm, wrap64 (by omega) (by omega)]; omega
    rw [hw1, hw2, fill_set (by omega) (by omega)]
    refine ⟨(d ++ [u.take m], u.drop (m + 1)), ⟨by rw [he, hs1]; simp, by simp; omega⟩, by simp; omega, ?_⟩
    dsimp only
    conv => whnf
    (refine GOES.cutting h0 rfl rfl rfl (by first | rfl | (simp only [belowO, belowH, plainLL_below _ (plainFill _ _), Bool.and_self, Bool.and_true] <;> rfl)) ?_ ?_ <;> (repeat' (first | (with_reducible rfl) | (exact congrArg (SV.int _) (by first | omega | (simp (disch := omega) only [lnB, wrap64, wrap32] <;> omega) | (simp; done) | (simp <;> omega))) | (exact congrArg (Hp.rows _) (by congr 1; simp; omega)) | ((conv => whnf); refine ⟨?_, ?_⟩) | exact trivial | rfl)))
theorem split_does (s : List UInt8) (hs : s.length ≤ 68719476736) : Does Tryz.prog tab 65 0 [.str s, .str [45]] [] [] (NewS 1 ((splitM s).map strRow)) := by
  refine Does.enter tabOK (g := 65) (fn := Tryz.f65) Tryz.call65 Tryz.func65 rfl 8 rfl rfl [.tmp 4] rfl ?_
  intro w0 F η0 h0
  conv => whnf
  refine CALL.newS (genSplit_does s hs) rfl (plainStrs _) ?_
  conv => whnf
  exact FIN.rows h0 0 1 _ rfl rfl rfl (plainStrs _) ⟨rfl, rfl, rfl⟩
end Go.Proofs.YtamnapaephmpmaaGreatDoor
/- Calls among functions that share their names for blocks; empty slices in boxes by names. Conditions: none. -/
set_option linter.unusedVariables false
set_option linter.unusedSimpArgs false
namespace Go.Sx
open Go

/-! ### Names that stay -/
section
variable {σ : Nat → Nat} {k : Nat}
theorem renB_below (h : ∀ j, j < k → σ j = j) : ∀ {b : Blk}, belowB k b = true → renB σ b = b
  | .glob g, _ => rfl
  | .loc i, hb => by simp only [belowB, Nat.blt_eq] at hb; simp only [renB, h i hb]
mutual
theorem ren_below (h : ∀ j, j < k → σ j = j) : ∀ {v : SV}, below k v = true → ren σ v = v
  | .bool _, _ => rfl
  | .int _ _, _ => rfl
  | .str _, _ => rfl
  | .val _, _ => rfl
  | .any, _ => rfl
  | .ptr b _ _ _, hb => by simp only [below] at hb; simp only [ren, renB_below h hb]
  | .sl b _ _ _ _, hb => by simp only [below] at hb; simp only [ren, renB_below h hb]
  | .agg cs, hb => by simp only [below] at hb; simp only [ren, renL_below h hb]
  | .arr _ rs, hb => by simp only [below] at hb; simp only [ren, renLL_below h hb]
  | .tup vs, hb => by simp only [below] at hb; simp only [ren, renL_below h hb]
  | .ifc _ v, hb => by simp only [below] at hb; simp only [ren, ren_below h hb]
  | .fn _ a b, hb => by simp only [below, Bool.and_eq_true] at hb; simp only [ren, renL_below h hb.1, renL_below h hb.2]
theorem renL_below (h : ∀ j, j < k → σ j = j) : ∀ {vs : List SV}, belowL k vs = true → renL σ vs = vs
  | [], _ => rfl
  | c :: cs, hb => by simp only [belowL, Bool.and_eq_true] at hb; simp only [renL, ren_below h hb.1, renL_below h hb.2]
theorem renLL_below (h : ∀ j, j < k → σ j = j) : ∀ {vs : List (List SV)}, belowLL k vs = true → renLL σ vs = vs
  | [], _ => rfl
  | c :: cs, hb => by simp only [belowLL, Bool.and_eq_true] at hb; simp only [renLL, renL_below h hb.1, renLL_below h hb.2]
end
theorem renH_below (h : ∀ j, j < k → σ j = j) : ∀ {hp : Hp}, belowH k hp = true → renH σ hp = hp
  | .box _, hb => by simp only [belowH] at hb; simp only [renH, renL_below h hb]
  | .rows _ _, hb => by simp only [belowH] at hb; simp only [renH, renLL_below h hb]
  | .siter _ _, _ => rfl
theorem renO_below (h : ∀ j, j < k → σ j = j) : ∀ {O : Hps}, belowO k O = true → renO σ O = O
  | [], _ => rfl
  | (i, hp) :: r, hb => by
    simp only [belowO, Bool.and_eq_true, Nat.blt_eq] at hb
    simp only [renO, h i hb.1, renH_below h hb.2.1, renO_below h hb.2.2]
end
variable {M : Mx} {fr fr' : Fr} {O O' : Hps} {nx : Nat}
theorem range_get {k i : Nat} (h : i < k) : (List.range k).getD i 0 = i := by simp [List.getD, h]
theorem cname_range {k nx j : Nat} (h : j < k) : cname (List.range k) nx j = j := by
  simp only [cname, List.length_range, if_pos h, range_get h]
/-- What a contract owns and looks at stands so in the caller's heap, by the same names. -/
def hereO (O : Hps) : Hps → Prop
  | [] => True
  | (i, h) :: r => match lkp i O with
    | some g => g = h ∧ hereO O r
    | none => False
def hereS (C : Cx) (O : Hps) : Hps → Prop
  | [] => True
  | (i, h) :: r => match hLook C O (.loc i) with
    | some g => g = h ∧ hereS C O r
    | none => False
theorem hereO.at {O : Hps} : ∀ {Oc : Hps}, hereO O Oc → ∀ p ∈ Oc, lkp p.1 O = some p.2
  | [], _, p, hp => by cases hp
  | (i, h) :: r, hs, p, hp => by
    simp only [hereO] at hs
    split at hs
    · rename_i g hg
      obtain ⟨rfl, hs⟩ := hs
      rcases List.mem_cons.1 hp with rfl | hp
      · exact hg
      · exact hereO.at hs p hp
    · exact hs.elim
theorem hereS.at {C : Cx} {O : Hps} : ∀ {Sc : Hps}, hereS C O Sc → ∀ p ∈ Sc, hLook C O (.loc p.1) = some p.2
  | [], _, p, hp => by cases hp
  | (i, h) :: r, hs, p, hp => by
    simp only [hereS] at hs
    split at hs
    · rename_i g hg
      obtain ⟨rfl, hs⟩ := hs
      rcases List.mem_cons.1 hp with rfl | hp
      · exact hg
      · exact hereS.at hs p hp
    · exact hs.elim
theorem belowO_mem {k : Nat} : ∀ {O : Hps}, belowO k O = true → ∀ p ∈ O, p.1 < k ∧ belowH k p.2 = true
  | [], _, p, hp => by cases hp
  | (i, h) :: r, hb, p, hp => by
    simp only [belowO, Bool.and_eq_true, Nat.blt_eq] at hb
    rcases List.mem_cons.1 hp with rfl | hp
    · exact ⟨hb.1, hb.2.1⟩
    · exact belowO_mem hb.2.2 p hp
theorem namesOf_below {k : Nat} : ∀ {O : Hps}, belowO k O = true → ∀ j ∈ namesOf O, j < k
  | [], _, j, hj => by cases hj
  | (i, h) :: r, hb, j, hj => by
    simp only [belowO, Bool.and_eq_true, Nat.blt_eq] at hb
    rcases List.mem_cons.1 hj with rfl | hj
    · exact hb.1
    · exact namesOf_below hb.2.2 j hj
theorem map_same {f : Nat → Nat} : ∀ {l : List Nat}, (∀ j ∈ l, f j = j) → l.map f = l
  | [], _ => rfl
  | x :: l, h => by simp only [List.map_cons, h x (List.mem_cons_self ..), map_same fun j hj => h j (List.mem_cons_of_mem _ hj)]
theorem mem_names : ∀ {S : Hps} {p : Nat × Hp}, p ∈ S → p.1 ∈ namesOf S
  | [], p, hp => by cases hp
  | (i, h) :: S, p, hp => by
    rcases List.mem_cons.1 hp with rfl | hp
    · exact List.mem_cons_self ..
    · exact List.mem_cons_of_mem _ (mem_names hp)
/-- A call by the caller's own names, the first k; the callee makes no new ones. -/
theorem CALL.here {f : FuncId} {args : List SV} {K : SV → Hps → Nat → Prop} {k : Nat} {Oc Sc : Hps} {Q : SV → Hps → Nat → Prop} (sp : Does M.P M.C.T f k args Oc Sc Q)
    (hk : Nat.ble k nx = true) (hb : belowL k args = true) (hbO : belowO k Oc = true) (hbS : belowO k Sc = true) (hO : hereO O Oc) (hS : hereS M.C O Sc)
    (hd : (namesOf Sc).all (fun j => !((namesOf Oc).any (Nat.beq j))) = true)
    (hQ : ∀ r O' nx', Q r O' nx' → nx' = k ∧ below k r = true ∧ belowO k O' = true)
    (hK : ∀ r O', Q r O' k → K r (O' ++ outside (namesOf Oc) O) nx) : CALL M f args O nx K := by
  have hk := Nat.le_of_ble_eq_true hk
  have hσ : ∀ j, j < k → cname (List.range k) nx j = j := fun j hj => cname_range hj
  have hnames : (namesOf Oc).map (cname (List.range k) nx) = namesOf Oc := map_same fun j hj => hσ j (namesOf_below hbO j hj)
  refine CALL.of (List.range k) sp (by simp) (fun i hi => by have := List.mem_range.1 hi; omega) (renL_below hσ hb).symm hb ?_ ?_ ?_ ?_
  · intro p hp
    obtain ⟨h1, h2⟩ := belowO_mem hbO p hp
    exact ⟨h1, by rw [hσ _ h1, renH_below hσ h2]; exact hO.at p hp, h2⟩
  · intro j hj j' hj' he
    rwa [hσ j (namesOf_below hbO j hj), hσ j' (namesOf_below hbO j' hj')] at he
  · intro p hp
    obtain ⟨h1, h2⟩ := belowO_mem hbS p hp
    refine ⟨h1, by rw [hσ _ h1, renH_below hσ h2]; exact hS.at p hp, h2, ?_⟩
    rw [hnames, hσ _ h1]
    intro hm
    have hj : p.1 ∈ namesOf Sc := mem_names hp
    have := List.all_eq_true.1 hd _ hj
    simp only [Bool.not_eq_eq_eq_not, Bool.not_true] at this
    have h3 : (namesOf Oc).any (Nat.beq p.1) = true := List.any_eq_true.2 ⟨p.1, hm, beq_self _⟩
    rw [h3] at this; cases this
  · intro r O' nx' hq
    obtain ⟨rfl, h1, h2⟩ := hQ r O' nx' hq
    have := hK r O' hq
    rw [ren_below hσ h1, renO_below hσ h2, hnames]
    simpa using this

/-- What a contract owns and looks at stands so in the caller's heap, by the caller's names for it. -/
def thereO (σ : Nat → Nat) (O : Hps) : Hps → Prop
  | [] => True
  | (i, h) :: r => match lkp (σ i) O with
    | some g => g = renH σ h ∧ thereO σ O r
    | none => False
def thereS (C : Cx) (σ : Nat → Nat) (O : Hps) : Hps → Prop
  | [] => True
  | (i, h) :: r => match hLook C O (.loc (σ i)) with
    | some g => g = renH σ h ∧ thereS C σ O r
    | none => False
theorem thereO.at {σ : Nat → Nat} {O : Hps} : ∀ {Oc : Hps}, thereO σ O Oc → ∀ p ∈ Oc, lkp (σ p.1) O = some (renH σ p.2)
  | [], _, p, hp => by cases hp
  | (i, h) :: r, hs, p, hp => by
    simp only [thereO] at hs
    split at hs
    · rename_i g hg
      obtain ⟨rfl, hs⟩ := hs
      rcases List.mem_cons.1 hp with rfl | hp
      · exact hg
      · exact thereO.at hs p hp
    · exact hs.elim
theorem thereS.at {C : Cx} {σ : Nat → Nat} {O : Hps} : ∀ {Sc : Hps}, thereS C σ O Sc → ∀ p ∈ Sc, hLook C O (.loc (σ p.1)) = some (renH σ p.2)
  | [], _, p, hp => by cases hp
  | (i, h) :: r, hs, p, hp => by
    simp only [thereS] at hs
    split at hs
    · rename_i g hg
      obtain ⟨rfl, hs⟩ := hs
      rcases List.mem_cons.1 hp with rfl | hp
      · exact hg
      · exact thereS.at hs p hp
    · exact hs.elim
/-- A call, the callee's names being the caller's L, in this order. -/
theorem CALL.at {f : FuncId} {args argsc : List SV} {K : SV → Hps → Nat → Prop} {k : Nat} {Oc Sc : Hps} {Q : SV → Hps → Nat → Prop} (L : List Nat) (sp : Does M.P M.C.T f k argsc Oc Sc Q)
    (hL : L.length = k) (hLn : L.all (fun i => Nat.blt i nx) = true) (ha : args = renL (cname L nx) argsc) (hb : belowL k argsc = true) (hbO : belowO k Oc = true) (hbS : belowO k Sc = true) (hO : thereO (cname L nx) O Oc) (hS : thereS M.C (cname L nx) O Sc)
    (hinj : (namesOf Oc).all (fun j => (namesOf Oc).all fun j' => !(Nat.beq (cname L nx j) (cname L nx j')) || Nat.beq j j') = true)
    (hd : (namesOf Sc).all (fun j => !((namesOf Oc).any fun j' => Nat.beq (cname L nx j) (cname L nx j'))) = true)
    (hK : ∀ r O' nx', Q r O' nx' → K (ren (cname L nx) r) (renO (cname L nx) O' ++ outside ((namesOf Oc).map (cname L nx)) O) (nx + (nx' - k))) : CALL M f args O nx K := by
  refine CALL.of L sp hL (fun i hi => by have := List.all_eq_true.1 hLn i hi; simpa [Nat.blt_eq] using this) ha hb (fun p hp => ?_) (fun j hj j' hj' he => ?_) (fun p hp => ?_) hK
  · obtain ⟨h1, h2⟩ := belowO_mem hbO p hp
    exact ⟨h1, hO.at p hp, h2⟩
  · have := List.all_eq_true.1 (List.all_eq_true.1 hinj j hj) j' hj'
    simp only [he, beq_self, Bool.not_true, Bool.false_or] at this
    exact beq_eq this
  · obtain ⟨h1, h2⟩ := belowO_mem hbS p hp
    refine ⟨h1, hS.at p hp, h2, fun hm => ?_⟩
    obtain ⟨j', hj', he⟩ := List.mem_map.1 hm
    have := List.all_eq_true.1 hd _ (mem_names hp)
    simp only [Bool.not_eq_eq_eq_not, Bool.not_true] at this
    have h3 : (namesOf Oc).any (fun j' => Nat.beq (cname L nx p.1) (cname L nx j')) = true := List.any_eq_true.2 ⟨j', hj', by rw [he]; exact beq_self _⟩
    rw [h3] at this; cases this

/-- An end that tells of blocks: those that came in by their names, and those of τ. -/
theorem FIN.at {k : Nat} {r : SV} {Q : SV → Hps → Nat → Prop} (hk : M.η0.length = k) (τ : List Nat) (rc : SV) (Oc : Hps) (hτ : τ.all (fun i => Nat.blt i nx) = true) (hr : r = ren (fname k τ) rc) (hb : below (k + τ.length) rc = true) (hbO : belowO (k + τ.length) Oc = true)
    (hO : thereO (fname k τ) O Oc) (hinj : (namesOf Oc).all (fun j => (namesOf Oc).all fun j' => !(Nat.beq (fname k τ j) (fname k τ j')) || Nat.beq j j') = true) (hQ : Q rc Oc (k + τ.length)) : FIN M O nx r Q := by
  refine FIN.keep hk τ (rc := rc) (Oc := Oc) (fun i hi => by have := List.all_eq_true.1 hτ i hi; simpa [Nat.blt_eq] using this) hr hb (fun p hp => ?_) (fun j hj j' hj' he => ?_) hQ
  · obtain ⟨h1, h2⟩ := belowO_mem hbO p hp
    exact ⟨h1, hO.at p hp, h2⟩
  · have := List.all_eq_true.1 (List.all_eq_true.1 hinj j hj) j' hj'
    simp only [he, beq_self, Bool.not_true, Bool.false_or] at this
    exact beq_eq this

/-- A loop that is come to on many ways, walked once. -/
theorem loopOnce {G : Prop} {body : Code} {Q : Post} {n : Nat} {X : Type} (P : X → Prop) (frx : X → Fr) (Ox : X → Hps) (h1 : (∀ x, P x → LOOP M body (frx x) (Ox x) n Q) → G) (h2 : ∀ x, P x → LOOP M body (frx x) (Ox x) n Q) : G := h1 h2

/-! ### The heap told otherwise ahead of a call -/
theorem CALL.weak {f : FuncId} {args : List SV} {K : SV → Hps → Nat → Prop} {O1 : Hps} {n1 : Nat} (h : ∀ η w, HeapOK M η w O nx → ∃ η', η <+: η' ∧ HeapOK M η' w O1 n1) (hc : CALL M f args O1 n1 K) : CALL M f args O nx K := by
  refine ⟨fun η w vs H hd => ?_⟩
  obtain ⟨η1, hp, H1⟩ := h η w H
  refine (hc.out η1 w vs H1 (DenL.mono hp hd)).mono ?_
  rintro v w' ⟨r, O', nx', η', h1, h2⟩
  exact ⟨r, O', nx', η', hp.trans h1, h2⟩
/-- A nil slice in a box's cell, by a name of its own. -/
def nilAt (nx es : Nat) : Nat → List SV → Option (List SV)
  | 0, .val (.slice none 0 0) :: r => some (.sl (.loc nx) 0 es 0 none :: r)
  | j + 1, c :: r => match nilAt nx es j r with | some r => some (c :: r) | none => none
  | _, _ => none
theorem nilAt_get {nx es : Nat} : ∀ {j : Nat} {row row' : List SV}, nilAt nx es j row = some row' → ∀ (i : Nat) (sv : SV), row'[i]? = some sv → row[i]? = some sv ∨ (row[i]? = some (SV.val (.slice none 0 0)) ∧ sv = SV.sl (.loc nx) 0 es 0 none)
  | 0, [], _, h => by simp [nilAt] at h
  | 0, c :: r, row', h => by
    unfold nilAt at h
    split at h
    · rename_i e1 e2
      injection e2 with e2 e3
      subst e2 e3
      injection h with h; subst h
      intro i sv hi
      cases i with
      | zero => simp at hi; subst hi; exact .inr ⟨rfl, rfl⟩
      | succ i => exact .inl (by simpa using hi)
    · simp_all
    · cases h
  | j + 1, [], _, h => by simp [nilAt] at h
  | j + 1, c :: r, row', h => by
    unfold nilAt at h
    split at h
    · rename_i r1 hr
      injection h with h; subst h
      intro i sv hi
      cases i with
      | zero => left; simpa using hi
      | succ i =>
        have := nilAt_get hr i sv (by simpa using hi)
        simpa using this
    · cases h
theorem HeapOK.nilCell {η : Env} {w : World} (H : HeapOK M η w O nx) {i j es : Nat} {row row' : List SV} (hi : lkp i O = some (.box row)) (hr : nilAt nx es j row = some row') :
    ∃ η', η <+: η' ∧ HeapOK M η' w ((nx, .rows es []) :: setK i (.box row') O) (nx + 1) := by
  have hpre : η <+: η ++ [none] := List.prefix_append _ _
  have hnew : (η ++ [none])[nx]? = some none := by rw [List.getElem?_append_right (by rw [H.len]; omega), H.len]; simp
  have hold : ∀ {i h}, lkp i O = some h → (η ++ [none])[i]? = η[i]? := fun {i h} hi => by
    rw [List.getElem?_append_left (by rw [H.len]; exact H.lt hi)]
  have hin : ∀ {a h}, lkp a (setK i (.box row') O) = some h → ∃ h0, lkp a O = some h0 ∧ HpSat (η ++ [none]) w true (.loc a) h := by
    intro a h ha
    rw [lkp_setK _ _ _ _ (by rw [hi]; rfl)] at ha
    split at ha
    · rename_i e
      subst e
      injection ha with ha
      subst ha
      refine ⟨_, hi, ?_⟩
      have := (H.own.1 _ _ hi).1.mono hpre
      simp only [HpSat] at this ⊢
      obtain ⟨e, arr, T, fz, h1, h2, h3, h4⟩ := this
      refine ⟨e, arr, T, fz, h1, h2, h3, fun c sv hc => ?_⟩
      rcases nilAt_get hr c sv hc with hc' | ⟨hc', rfl⟩
      · exact h4 c sv hc'
      · obtain ⟨v, h5, h6, h7⟩ := h4 c _ hc'
        refine ⟨v, h5, h6, ?_⟩
        simp only [Den] at h7 ⊢
        exact .inl ⟨hnew, h7.1, trivial⟩
    · exact ⟨h, ha, (H.own.1 _ _ ha).1.mono hpre⟩
  refine ⟨η ++ [none], hpre, H.pre.trans hpre, by simp [H.len], ⟨fun a h ha => ?_, fun a b h h' e e' ha hb hab he he' => ?_⟩, H.fr, H.sok⟩
  · rw [lkp_cons] at ha
    split at ha
    · rename_i e; subst e; injection ha with ha; subst ha
      refine ⟨.inl ⟨hnew, rfl⟩, fun e he => ?_⟩
      rw [hnew] at he; cases he
    · obtain ⟨h0, h1, h2⟩ := hin ha
      exact ⟨h2, fun e he => (H.own.1 a h0 h1).2 e (by rw [← hold h1]; exact he)⟩
  · rw [lkp_cons] at ha hb
    split at ha
    · rename_i e1; subst e1; rw [hnew] at he; cases he
    · split at hb
      · rename_i e2; subst e2; rw [hnew] at he'; cases he'
      · obtain ⟨h0, h1, _⟩ := hin ha
        obtain ⟨h0', h1', _⟩ := hin hb
        exact H.own.2 a b h0 h0' e e' h1 h1' hab (by rw [← hold h1]; exact he) (by rw [← hold h1']; exact he')
theorem CALL.nilCell {f : FuncId} {args : List SV} {K : SV → Hps → Nat → Prop} (i j es : Nat) {row row' : List SV} (hi : lkp i O = some (.box row)) (hr : nilAt nx es j row = some row') (hc : CALL M f args ((nx, .rows es []) :: setK i (.box row') O) (nx + 1) K) : CALL M f args O nx K :=
  CALL.weak (fun η w H => H.nilCell hi hr) hc
/-- An end that tells of blocks by the names that came in. -/
theorem FIN.here {k : Nat} {r rc : SV} {Oc : Hps} {Q : SV → Hps → Nat → Prop} (hk : M.η0.length = k) (hr : r = rc) (hb : below k rc = true) (hbO : belowO k Oc = true) (hO : hereO O Oc) (hQ : Q rc Oc k) : FIN M O nx r Q := by
  have hσ : ∀ j, j < k → fname k [] j = j := fun j hj => by simp [fname, hj]
  refine FIN.keep hk [] (rc := rc) (Oc := Oc) (fun i hi => by cases hi) (by rw [ren_below hσ hb]; exact hr) hb ?_ ?_ hQ
  · intro p hp
    obtain ⟨h1, h2⟩ := belowO_mem hbO p hp
    exact ⟨h1, by rw [hσ _ h1, renH_below hσ h2]; exact hO.at p hp, h2⟩
  · intro j hj j' hj' he
    rwa [hσ j (namesOf_below hbO j hj), hσ j' (namesOf_below hbO j' hj')] at he
/-- A row of which less is told. -/
def Loose (k : Nat) : List SV → List SV → Prop
  | _, [] => True
  | [], _ :: _ => False
  | c :: cs, c' :: cs' => (c' = .any ∨ (c' = c ∧ below k c = true)) ∧ Loose k cs cs'
theorem Loose.get {k : Nat} : ∀ {row row' : List SV}, Loose k row row' → ∀ (j : Nat) (sv : SV), row'[j]? = some sv → ∃ c, row[j]? = some c ∧ (sv = .any ∨ (sv = c ∧ below k c = true))
  | _, [], _, j, sv, h => by simp at h
  | [], _ :: _, h, _, _, _ => h.elim
  | c :: cs, c' :: cs', h, 0, sv, hj => by simp at hj; subst hj; exact ⟨c, rfl, h.1⟩
  | c :: cs, c' :: cs', h, j + 1, sv, hj => by simp at hj; obtain ⟨d, h1, h2⟩ := Loose.get h.2 j sv hj; exact ⟨d, by simpa using h1, h2⟩
/-- An end with a plain value and one box, of which less is told. -/
theorem FIN.loose {k : Nat} {r : SV} {Q : SV → Hps → Nat → Prop} (hk : M.η0.length = k) (i : Nat) (row' : List SV) {row : List SV} (hr : plain r = true) (hO : lkp i O = some (.box row)) (hi : Nat.blt i k = true) (hl : Loose k row row') (hQ : Q r [(i, .box row')] k) : FIN M O nx r Q := by
  refine ⟨fun η w v H hd => ⟨r, [(i, .box row')], k, M.η0, hQ, List.prefix_rfl, ?_, ?_⟩⟩
  · have hi : i < k := by simpa [Nat.blt_eq] using hi
    have hget : ∀ j, j < k → η[j]? = M.η0[j]? := fun j hj => by
      obtain ⟨t, ht⟩ := H.pre
      rw [← ht, List.getElem?_append_left (by omega)]
    have hb : Bwd η M.η0 id k := fun j x hj hx => by rw [← hget j hj]; exact hx
    have hsat : HpSat M.η0 w true (.loc i) (.box row') := by
      have := (H.own.1 i _ hO).1
      simp only [HpSat] at this ⊢
      obtain ⟨e, arr, T, fz, h1, h2, h3, h4⟩ := this
      refine ⟨e, arr, T, fz, by simp only [Env.get] at h1 ⊢; rw [← hget i hi]; exact h1, h2, h3, fun j sv hj => ?_⟩
      obtain ⟨c, h5, h6⟩ := hl.get j sv hj
      obtain ⟨u, h7, h8, h9⟩ := h4 j c h5
      refine ⟨u, h7, h8, ?_⟩
      rcases h6 with rfl | ⟨rfl, h6⟩
      · simp only [Den]
      · exact Den.unren hb h6 (by rw [ren_id (σ := id) (fun _ => rfl)]; exact h9)
    refine ⟨List.prefix_rfl, hk, ⟨fun j h hj => ?_, fun a b h h' e e' ha hb' hab => ?_⟩, H.fr, H.sok⟩
    · rw [lkp_cons] at hj
      split at hj
      · rename_i e; subst e; injection hj with hj; subst hj
        exact ⟨hsat, fun e he => (H.own.1 _ _ hO).2 e (by rw [hget _ hi]; exact he)⟩
      · simp [lkp] at hj
    · rw [lkp_cons] at ha hb'
      split at ha
      · split at hb'
        · rename_i e1 e2; exact (hab (e1.trans e2.symm)).elim
        · simp [lkp] at hb'
      · simp [lkp] at ha
  · have hb : Bwd η M.η0 (fun i => i) 0 := fun i x hi => by omega
    exact Den.unren hb (plain_below 0 hr) (by rw [ren_plain _ hr]; exact hd)
/-- An end whose tuple's head is not told of. -/
theorem FIN.anyT {k : Nat} {r x : SV} {vs : List SV} {Q : SV → Hps → Nat → Prop} (hk : M.η0.length = k) (hr : r = .tup (x :: vs)) (hv : plainL vs = true) (hQ : Q (.tup (.any :: vs)) [] k) : FIN M O nx r Q := by
  refine ⟨fun η w v H hd => ⟨.tup (.any :: vs), [], k, M.η0, hQ, List.prefix_rfl, ⟨List.prefix_rfl, hk, ⟨fun i h hi => by simp [lkp] at hi, fun i j h h' e e' hi => by simp [lkp] at hi⟩, H.fr, H.sok⟩, ?_⟩⟩
  rw [hr] at hd
  simp only [Den, DenL] at hd ⊢
  obtain ⟨us, h1, u, us', h2, h3, h4⟩ := hd
  refine ⟨us, h1, u, us', h2, trivial, ?_⟩
  have hb : Bwd η M.η0 (fun i => i) 0 := fun i x hi => by omega
  exact DenL.unren hb (plainL_below 0 hv) (by rw [renL_plain _ hv]; exact h4)
def anyN : Nat → List SV
  | 0 => []
  | n + 1 => .any :: anyN n
theorem denL_any {η η' : Env} : ∀ {cs : List SV} {vs : List Value}, DenL η cs vs → DenL η' (anyN cs.length) vs
  | [], vs, h => by simpa [DenL, anyN] using h
  | c :: cs, vs, h => by
    simp only [DenL, anyN, List.length_cons] at h ⊢
    obtain ⟨u, us, rfl, _, h⟩ := h
    exact ⟨u, us, rfl, by simp only [Den], denL_any h⟩
/-- An end whose tuple's head is a struct of which nothing is told. -/
theorem FIN.anyA (n : Nat) {k : Nat} {r : SV} {cs vs : List SV} {Q : SV → Hps → Nat → Prop} (hk : M.η0.length = k) (hr : r = .tup (.agg cs :: vs)) (hn : lenIs cs n = true) (hv : plainL vs = true) (hQ : Q (.tup (.agg (anyN n) :: vs)) [] k) : FIN M O nx r Q := by
  have hn : cs.length = n := by
    clear hr hQ
    induction n generalizing cs with
    | zero => cases cs with
      | nil => rfl
      | cons a l => simp [lenIs] at hn
    | succ n ih => cases cs with
      | nil => simp [lenIs] at hn
      | cons a l => simp only [lenIs] at hn; simp [ih hn]
  refine ⟨fun η w v H hd => ⟨.tup (.agg (anyN n) :: vs), [], k, M.η0, hQ, List.prefix_rfl, ⟨List.prefix_rfl, hk, ⟨fun i h hi => by simp [lkp] at hi, fun i j h h' e e' hi => by simp [lkp] at hi⟩, H.fr, H.sok⟩, ?_⟩⟩
  rw [hr] at hd
  simp only [Den, DenL] at hd ⊢
  obtain ⟨us, h1, u, us', h2, ⟨xs, h5, h6, h7⟩, h4⟩ := hd
  refine ⟨us, h1, u, us', h2, ⟨xs, h5, by rw [← hn]; exact denL_any h6, h7⟩, ?_⟩
  have hb : Bwd η M.η0 (fun i => i) 0 := fun i x hi => by omega
  exact DenL.unren hb (plainL_below 0 hv) (by rw [renL_plain _ hv]; exact h4)
end Go.Sx
